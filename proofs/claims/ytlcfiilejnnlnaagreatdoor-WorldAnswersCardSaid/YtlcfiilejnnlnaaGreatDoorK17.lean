/- A part of the proof: Qh Qi Qj Ia Ib Ic Ie. -/
import Derived.Test.YtlcfiilejnnlnaaGreatDoorK16
set_option maxRecDepth 100000
set_option maxHeartbeats 20000000
set_option linter.all false
namespace Go.Proofs.YtlcfiilejnnlnaaGreatDoor
open Tryz
section
open Go Go.Maps Go.MapKept
def aq2 (x:Sch) (w:Wd) (k:Nat) (c:Cnd):List Bool:=(w.getD k []).map fun r=>holdV x w k r c
theorem ax7 {x:Sch} {w:Wd} {k:Nat} {l:List (List Int)} (h:w[k]?=some l) (c:Cnd):aq2 x w k c=(List.range l.length).map fun i=>holdV x w k (l.getD i []) c:=by
 unfold aq2;rw [aa8 h];refine xY fun i=>?_;rw [zP,zP];by_cases hi:i<l.length
 ·rw [xV hi,zD hi];simp [List.getD_eq_getElem?_getD,zD hi]
 ·rw [yY.2 (by omega),yY.2 (by simp;omega)];rfl
theorem aI2 {x:Sch} {w:Wd} {k:Nat} {l:List (List Int)} (h:w[k]?=some l) (p:List ByteArray) {i:Nat} (hi:i<l.length):(endL x w k p)[i]?=some (endV x w k (l.getD i []) p):=by
 unfold endL;rw [aa8 h,zP,zD hi];simp [List.getD_eq_getElem?_getD,zD hi]
theorem az8 {x:Sch} {w:Wd} (hfit:fitW x w=true):∀ (p:List ByteArray) (k:Nat),k<x.kz.length->af4 x k p=true->∀ l,w[k]?=some l->∀ r∈l,-1099511627776<=endV x w k r p/\endV x w k r p<=1099511627776
 | [],k,_,_,l,_,r,_=>by simp [endV]
 | [s],k,hk,h,l,hl,r,hr=>by
  obtain⟨hlen,hrows,hrefs⟩:=an0 hfit;obtain⟨q,f,nm,g,H⟩:=aM7 x w [s] k hk h 0 (by simp);have hv:=H.val r;have hq:q=k:=by have:=H.way;simp [wayE] at this;exact this.1.symm
  subst hq;have h2:=av0 H.kind ((ao3 (hrows _ _ hl)).2 r hr);have hf:=(zE.1 H.fld).1;simp only [List.drop_zero,wayE,List.getElem?_cons_succ,List.getElem?_nil] at hv;rw [hv,List.getD_eq_getElem?_getD,zD (by omega)];exact h2.2 _ (wE ..)
 | s::t::p,k,hk,h,l,hl,r,hr=>by
  obtain⟨hlen,hrows,hrefs⟩:=an0 hfit;obtain⟨q,f,nm,g,H⟩:=aM7 x w (s::t::p) k hk h 0 (by simp);have hv:=H.val r;have hq:q=k:=by have:=H.way;simp [wayE] at this;exact this.1.symm
  subst hq;obtain⟨u,f',h1,h2,h3,h4⟩:=H.next (by simp)
  have h5:=av0 H.kind ((ao3 (hrows _ _ hl)).2 r hr);have hf:=(zE.1 H.fld).1;obtain⟨z,hz⟩:∃ z,r[f]?=some z:=⟨_,zD (by omega)⟩
  obtain⟨lu,hlu⟩:∃ l,w[u]?=some l:=⟨_,zD (by omega)⟩
  have hok:=hrefs _ (aH2 H.kind H.fld h2) l hl r hr;unfold refOk at hok;simp only [h3,Int.toNat_natCast] at hok;rw [aa8 hlu,aa8 hz] at hok;simp only [xJ,wA,xF] at hok;rw [h1,aa8 hz] at hv;simp only [List.drop_zero] at hv;obtain⟨r2,hr2⟩:∃ r2,lu[z.toNat]?=some r2:=⟨_,zD (by omega)⟩
  have hrec:aC8 w u z.toNat=r2:=by unfold aC8;rw [aa8 hlu,aa8 hr2]
  rw [hrec] at hv;rw [hv];simp only [af4,zJ,zQ] at h;have hn:ak2 x q s=u:=by
   have hnm:s=nm:=by have:=H.name;simpa using this
   rw [hnm,aw0 H.kind H.ix H.fld,if_pos h2,h3]
  rw [hn,Int.toNat_natCast] at h;exact az8 hfit (t::p) u h4 h.2 lu hlu r2 (zG hr2)
theorem cc8 (a b c d e:Nat × Blk) (s:aa1):(a::b::(s++[c,d,e])).Perm ([e]++(a::b::(s++[c,d]))):=cl8
theorem bV9 (m a b:Nat × Blk) (s t:aa1):(m::a::b::(s++t)).Perm (s++(m::a::b::t)):=cl8
theorem cn2 (m a b c d:Nat × Blk) (s:aa1):(m::a::b::(s++[c,d])).Perm ((b::(s++[c,d,m]))++[a]):=cl8
theorem bV8 (a b c:Nat × Blk) (s t:aa1):(a::b::c::(s++t)).Perm ((a::b::t)++(c::s)):=cl8
theorem bW0 (a b c d e:Nat × Blk):[a,b,c,d,e].Perm ([e]++[a,b,c,d]):=cl8
theorem bp9 (a b c d e f:Nat × Blk):[a,b,c,d,e,f].Perm ([f]++[a,b,c,d,e]):=cl8
theorem bV6 (z m a b c d:Nat × Blk):[z,m,a,b,c,d].Perm [b,a,z,c,d,m]:=cl8
theorem bV5 (z m a b c d:Nat × Blk):[m,z,a,b,c,d].Perm [b,a,z,c,d,m]:=cl8
theorem aq5 {α:Type} {e:TypeId} {g:α->D} (a:α) (n b:Nat) (hn:n<=maxLen):RowR e g (List.replicate n a) (.slice (some ⟨b,0,none⟩) n n) [(b,.cells e (List.replicate n (g a)))]:=by
 have h:=aH1 (e:=e) (k:=1) (xs:=(List.replicate n a).map fun b=>[g b]) b (fun x hx=>by obtain⟨_,_,rfl⟩:=xM.1 hx;rfl) (by simpa using hn);have h2:((List.replicate n a).map fun b=>[g b]).flatten=List.replicate n (g a):=by rw [List.map_replicate,List.flatten_replicate_singleton]
 rw [h2,zL,zY] at h;exact h
theorem bV4 (a b c:Nat × Blk) (t:aa1):(a::b::c::t).Perm (b::([c]++(a::t))):=cl8
theorem bV7 (m a b z c d:Nat × Blk):[m,a,b,z,c,d].Perm ([b,a,c,d,m]++[z]):=cl8
theorem aO9 (a m:Nat × Blk) (s:aa1):((a::s)++[m]).Perm (s++[a,m]):=cl8
theorem bP8 {x:Sch} {w:Wd} {k:Nat} {r:List Int} {c:Cnd} (h:c.op=1):holdV x w k r c=decide (endV x w k r c.path=(if c.other=[] then 0 else endV x w k r c.other)+c.n):=by
 cases c<;>(simp only [Cnd.op] at h;subst h;simp [holdV,Cnd.path,Cnd.other,Cnd.n];rfl)
theorem aL6 {x:Sch} {w:Wd} {k:Nat} {r:List Int} {c:Cnd} (h:c.op=2):holdV x w k r c=decide (endV x w k r c.path<(if c.other=[] then 0 else endV x w k r c.other)+c.n):=by
 cases c<;>(simp only [Cnd.op] at h;subst h;simp [holdV,Cnd.path,Cnd.other,Cnd.n];rfl)
theorem bX6 {x:Sch} {w:Wd} {k:Nat} {r:List Int} {c a:Cnd} (h:c.op=3) (hk:c.kids=[a]):holdV x w k r c=!holdV x w k r a:=by
 cases c with
 | c1=>simp only [Cnd.op] at h;simp only [Cnd.kids,wM,and_true] at hk;subst h hk;simp [holdV]
 | _=>simp [Cnd.kids] at hk
theorem bX7 {x:Sch} {w:Wd} {k:Nat} {r:List Int} {c a b:Cnd} (h:c.op=4) (hk:c.kids=[a,b]):holdV x w k r c=(holdV x w k r a&&holdV x w k r b):=by
 cases c with
 | c2=>simp only [Cnd.op] at h;simp only [Cnd.kids,wM,and_true] at hk;obtain⟨rfl,rfl⟩:=hk;subst h;simp [holdV]
 | _=>simp [Cnd.kids] at hk
theorem cr7 {x:Sch} {w:Wd} {k:Nat} {r:List Int} {c a b:Cnd} (h:c.op=5) (hk:c.kids=[a,b]):holdV x w k r c=(holdV x w k r a||holdV x w k r b):=by
 cases c with
 | c2=>simp only [Cnd.op] at h;simp only [Cnd.kids,wM,and_true] at hk;obtain⟨rfl,rfl⟩:=hk;subst h;simp [holdV]
 | _=>simp [Cnd.kids] at hk
theorem bX8 {x:Sch} {w:Wd} {k:Nat} {r:List Int} {c:Cnd} (h:c.op=0):holdV x w k r c=true:=by
 cases c<;>(simp only [Cnd.op] at h;subst h;simp [holdV])
theorem bD8 (a b c:Nat × Blk) (s t:aa1):(a::b::c::(s++t)).Perm ((c::(s++t))++[a,b]):=cl8
theorem cn1 (a b c d e m:Nat × Blk) (s:aa1):(a::b::c::(s++[d,e,m])).Perm ([d,e]++(m::a::b::c::s)):=cl8
theorem cn0 (a m:Nat × Blk) (s t:aa1):((a::s)++(m::t)).Perm (s++([m]++(a::t))):=cl8
theorem ba5 {α:Type} {l:List α} (h:l.length=2):∃ a b,l=[a,b]:=by
 match l,h with
 | [a,b],_=>exact⟨a,b,rfl⟩
theorem sk126 {A B:Prop} (k:B) (h:Hd7 B->A:=by intro q7;(first|refine sb0 ?_|refine sb57 ?_|(refine' cp7x ?hc ?_;(case hc=>fail)));exact q7.1):A:=h ⟨k⟩
theorem sb127 {A B:Prop} (k:B) (h:Hd7 B->A:=by intro q7;(first|fail|(with_reducible refine Bx.l ?_)|fail|refine u4x ?_);exact q7.1):A:=h ⟨k⟩
theorem sk128 {A B:Prop} (k:B) (h:Hd7 B->A:=by intro q7;(first|refine sb0 ?_|refine sb127 ?_|(refine' cp7x ?hc ?_;(case hc=>fail)));exact q7.1):A:=h ⟨k⟩
theorem cl29 {p:Prop} (h:p:=by first|(simp only [List.set_cons_succ,List.set_cons_zero,spl,ag3,mkD,List.take_succ_cons,List.take_zero,List.drop_succ_cons,List.drop_zero,List.length_cons,List.length_nil,List.nil_append,List.cons_append,Nat.reduceAdd,xD,zZ,List.map_cons,List.map_nil];rfl)|rfl):p:=h
theorem bn8 (x:Sch) (w:Wd) (hw:Ws w) (hp:aj9 x=[]) (hfit:fitW x w=true) (k:Nat) (hk:k<x.kz.length) (bm:Nat):∀ (m:Nat) (c:Cnd),c.size<=m->formedB c=true->leadsB x k c=true->c.All CndS->∀ G,endG x w k G ->
  ACall prog 61 [.ro (tbC x w k bm),cndD c] [(bm,Blk.mp prog 9 G)] (fun d σ'=>∃ G',d=slB (aq2 x w k c)/\σ'=[(bm,Blk.mp prog 9 G')]/\endG x w k G')
 | 0,c,h,_,_,_,_,_=>by rw [ai1] at h;omega
 | m+1,c,h,hfm,hld,hA,G,hG=>by
  have hkl:=c.kids_len;have hcd:cndC c=[iD c.op,.sl 5 (c.kids.map cndC),slS c.path,slS c.other,iD c.n]:=by rw [← am9];rfl
  rw [aw3] at hfm;rw [aF0] at hld;simp only [zJ,yA] at hfm hld;obtain⟨⟨hhead,hfk⟩,hform⟩:=hfm;obtain⟨⟨hl1,hl2⟩,hlk⟩:=hld;obtain⟨hlen,hrows,hrefs⟩:=an0 hfit;obtain⟨l,hl⟩:∃ l,w[k]?=some l:=⟨_,zD (by omega)⟩
  have hl':w[((k:Nat):Int).toNat]?=some l:=hl;have hll:=hw.nr l (zG hl);have hwl:=hw.nk;unfold cndD cndC;rw [am9 c];refine eC7 func61 ntmps61 fun BB=>?_
  repeat' first|refine sk126 ?_|intro b;conv=>whnf
  refine dr7 ?_;refine ak3 mixed aa0 rfl [0,1,2,3,4,5,6,7,8,9,10] 3 (inE [11,12,13]) (.two 11 (.one 12 (.one 13 .done)) 12 (.one 11 (.one 13 .done))) (γ:=Nat × Nat) (fun g=>[(5,.v (.pointer (some ⟨g.1,0,none⟩)))]) (fun g=>(g.1,.cells 130 [.v (.slice (some ⟨g.2,0,none⟩) l.length l.length)])::(g.2,.cells 4 (List.replicate l.length (bD false)))::[(bm,Blk.mp prog 9 G)]) (fun _=>True) (by decide +kernel) ?_ ?_
  ·repeat' first|refine sk126 ?_|intro b;conv=>whnf|(refine Mk.go l.length rfl rfl rfl rfl rfl (by simp) (by omega) (by omega) (fun bo=>?_))|(refine And.intro ?_ ?_<;>(conv=>whnf))
   all_goals exact⟨(b,bo),(aa2 cl2),cl9,trivial⟩
  rintro⟨b5,bo⟩ -
  repeat' first|refine sk126 ?_|intro b;conv=>whnf
  refine aa5 mixed aa0 (γ:=Nat × (Value->Option D) × Value × aa1) (fun g=>[(28,iD g.1)]) (fun g=>(b,.cells 206 [.v g.2.2.1])::(g.2.2.2++((b5,.cells 130 [.v (.slice (some ⟨bo,0,none⟩) l.length l.length)])::(bo,.cells 4 (List.replicate l.length (bD false)))::[(bm,Blk.mp prog 9 g.2.1)]))) (fun g=>g.1<=c.kids.length/\endG x w k g.2.1/\RowR 130 (fun c=>slB (aq2 x w k c)) (c.kids.take g.1) g.2.2.1 g.2.2.2) (fun g=>c.kids.length-g.1) (0,G,.slice none 0 0,[]) (aa2 cl2) (Sc.refl _) ⟨zW _,hG,RowIs.nil _ _⟩ ?_;rintro⟨i,G1,v7,s7⟩ ⟨hi,hG1,h7⟩;simp only at hi hG1 h7 ⊢;obtain⟨b7,rfl⟩:∃ b7,b7=b:=⟨_,rfl⟩
  by_cases hil:i<c.kids.length
  ·obtain⟨y,hy⟩:∃ y,c.kids[i]?=some y:=⟨_,zD hil⟩
   have hy':c.kids[((i:Nat):Int).toNat]?=some y:=hy;have hym:=zG hy;have HK:=bn8 x w hw hp hfit k hk bm m y (by have:=Cnd.kid_size hym;omega) (hfk y hym) (hlk y hym) (hA.kid hym) G1 hG1;have htk:=af7 hy
   repeat' first|refine sk126 ?_|intro b;conv=>whnf
   refine dr7 ?_;refine ak3 mixed aa0 rfl [1] 6 (inE [0,2,3,5,6]) (.two 0 (.one 2 (.one 3 (.fst 4 (.one 5 (.one 6 .done))))) 2 (.two 0 (.one 3 (.fst 4 (.one 5 (.one 6 .done)))) 3 (.fst 4 (.one 0 (.one 5 (.one 6 .done)))))) (γ:=(Value->Option D) × Value × aa1) (fun _=>[]) (fun g=>(b7,.cells 206 [.v g.2.1])::(g.2.2++((b5,.cells 130 [.v (.slice (some ⟨bo,0,none⟩) l.length l.length)])::(bo,.cells 4 (List.replicate l.length (bD false)))::[(bm,Blk.mp prog 9 g.1)]))) (fun g=>endG x w k g.1/\RowR 130 (fun c=>slB (aq2 x w k c)) (c.kids.take (i+1)) g.2.1 g.2.2) (by decide +kernel) ?_ ?_
   ·repeat' first|refine sk126 ?_|intro b;conv=>whnf|(refine pA6 HK (cc8 _ _ _ _ _ _) (fun s'=>s'++_) (fun s'=>zH _) ?_;rintro _ _ ⟨G2,rfl,rfl,hG2⟩;conv=>whnf)|(refine Ap.go rfl rfl rfl rfl h7 (bV9 _ _ _ _ _) rfl (zs:=(c.kids.take (i+1)).map fun c=>[slB (aq2 x w k c)]) (by rw [htk,yB];rfl) (by simp;omega) (by simp;omega) (fun s'=>_::_::_::(s'++_)) (fun s'=>(bV9 _ _ _ _ _).symm) (fun a3 c3 s3 h3=>?_))|(refine And.intro ?_ ?_<;>(conv=>whnf))
    all_goals exact⟨(G2,_,s3),(aa2 cl2),Sc.drop (cn2 _ _ _ _ _ _),hG2,h3⟩
   ·rintro⟨G2,v3,s3⟩ ⟨hG2,h3⟩
    repeat' first|refine sk126 ?_|intro b;conv=>whnf
    exact⟨(i+1,G2,v3,s3),(aa2 cl2),Sc.refl _,⟨by simp only;omega,hG2,h3⟩,by simp only;omega⟩
  ·obtain rfl:i=c.kids.length:=by omega
   rw [yM] at h7;have hrng:=ax7 (x:=x) (k:=k) hl c;unfold aK5 aa3 at hhead;simp only [zJ,zQ] at hhead;obtain⟨⟨ho1,ho2⟩,hkn⟩:=hhead;unfold az5 at hkn;rw [hrng];clear hrng;by_cases hop:c.op=1
   ·have hk0:c.kids.length=0:=by rw [hop] at hkn;simpa using hkn
    unfold aK6 at hform;rw [if_pos (.inl hop)] at hform;simp only [aa3,zJ,zQ] at hform;obtain⟨⟨hpb,hob⟩,hn1,hn2⟩:=hform;have HE:=bc3 x w hw hp hfit k hk c.path hpb hl1 bm G1 hG1
    repeat' first|refine sk126 ?_|intro b;conv=>whnf
    rename_i b10;obtain⟨b11,rfl⟩:∃ b11,b11=b:=⟨_,rfl⟩
    refine dr7 ?_;refine ay2 (Sc.drop (bV8 _ _ _ _ _)) ?_;refine ak3 mixed aa0 rfl [0,1,2] 6 (inE [3,4,6,7,8]) (.two 3 (.two 4 (.fst 5 (.two 6 (.one 7 (.one 8 .done)) 7 (.one 6 (.one 8 .done)))) 7 (.one 4 (.fst 5 (.one 6 (.one 8 .done))))) 4 (.fst 5 (.two 3 (.two 6 (.one 7 (.one 8 .done)) 7 (.one 6 (.one 8 .done))) 6 (.one 3 (.one 7 (.one 8 .done)))))) (γ:=(Value->Option D) × Nat) (fun _=>[]) (fun g=>(b10,.cells 22 [slI (endL x w k c.path)])::(b11,.cells 22 [.v (.slice (some ⟨g.2,0,none⟩) l.length l.length)])::(g.2,.cells 3 (List.replicate l.length (iD 0)))::(b5,.cells 130 [.v (.slice (some ⟨bo,0,none⟩) l.length l.length)])::(bo,.cells 4 (List.replicate l.length (bD false)))::[(bm,Blk.mp prog 9 g.1)]) (fun g=>endG x w k g.1) (by decide +kernel) ?_ ?_
    ·repeat' first|refine sk126 ?_|intro b;conv=>whnf|((with_reducible refine' Ld.at 3 ?h1 ?h2 ?h3 ?_);(case h1=>exact rfl);(case h2=>exact rfl);(case h3=>exact rfl))|((with_reducible refine' Ld.at 4 ?h1 ?h2 ?h3 ?_);(case h1=>exact rfl);(case h2=>exact rfl);(case h3=>exact rfl))|((with_reducible refine' Ld.at 5 ?h1 ?h2 ?h3 ?_);(case h1=>exact rfl);(case h2=>exact rfl);(case h3=>exact rfl))|((with_reducible refine' Sv.at 3 ?h1 ?h2 ?h3 ?h4 ?h5 ?_);(case h1=>exact rfl);(case h2=>exact rfl);(case h3=>exact rfl);(case h4=>exact rfl);(case h5=>exact cl29))|((with_reducible refine' Sv.at 4 ?h1 ?h2 ?h3 ?h4 ?h5 ?_);(case h1=>exact rfl);(case h2=>exact rfl);(case h3=>exact rfl);(case h4=>exact rfl);(case h5=>exact cl29))|((with_reducible refine' Sv.at 5 ?h1 ?h2 ?h3 ?h4 ?h5 ?_);(case h1=>exact rfl);(case h2=>exact rfl);(case h3=>exact rfl);(case h4=>exact rfl);(case h5=>exact cl29))|(refine pA6 HE (bW0 _ _ _ _ _) (fun s'=>s'++_) (fun s'=>zH _) ?_;rintro _ _ ⟨G2,rfl,rfl,hG2⟩;conv=>whnf)|(refine pA6 HE (bp9 _ _ _ _ _ _) (fun s'=>s'++_) (fun s'=>zH _) ?_;rintro _ _ ⟨G2,rfl,rfl,hG2⟩;conv=>whnf)|(refine Mk.go l.length rfl rfl rfl rfl rfl (by simp) (by omega) (by omega) (fun bz=>?_))|(refine And.intro ?_ ?_<;>(conv=>whnf))
     all_goals first|exact⟨(G2,bz),(aa2 cl2),Sc.perm (bV6 _ _ _ _ _ _),hG2⟩|exact⟨(G2,bz),(aa2 cl2),Sc.perm (bV5 _ _ _ _ _ _),hG2⟩
    rintro⟨G2,bz⟩ hG2;by_cases hot:c.other=[]
    ·have hp:∀ i,i<l.length->APure prog 111 [iD i,.ro [slI (endL x w k c.path)],.ro [slI (List.replicate l.length 0)],.ro (cndC c)] (bD (holdV x w k (l.getD i []) c)):=fun i hi=>by
      rw [bP8 hop,if_pos hot];exact cr9 _ _ c i _ 0 (aI2 hl _ hi) (by rw [wF,if_pos hi]) ⟨by omega,by omega⟩
     rw [hcd] at hp;have HS:=aW8 l.length (by omega) _ hp b5 _ _ (aq5 (e:=4) (g:=bD) false l.length bo (by unfold maxLen;omega));have hol:c.other.length=0:=by rw [hot];rfl
     repeat' first|refine sk128 ?_|intro b;conv=>whnf
     refine Bc.l ?_
     repeat' first|refine sk128 ?_|intro b;conv=>whnf
     refine Bc.j ?_;refine ay2 ((Sc.perm (bV4 _ _ _ _)).trans (Sc.frz (j:=0) rfl (aq5 (e:=3) (g:=iD) (0:Int) l.length bz (by unfold maxLen;omega)) (LeR.refl _))) ?_;refine aj5 (i:=11) (d:=.v (.pointer (some ⟨b11,0,none⟩))) (d':=.ro [slI (List.replicate l.length 0)]) rfl (fun h=>by cases h) (Vs.ptr (tb:=22) (zH _)) ?_;refine aj5 (i:=10) (d:=.v (.pointer (some ⟨b10,0,none⟩))) (d':=.ro [slI (endL x w k c.path)]) rfl (fun h=>by cases h) (Vs.ptr (tb:=22) (zH _)) ?_;refine ar5 mixed aa0 ?_
     repeat' first|refine sk126 ?_|intro b;conv=>whnf
     refine pA6 HS (zH ([_,_]++[_])) (fun s'=>s'++[_]) (fun s'=>zH _) ?_;rintro _ _ ⟨v8,s8,rfl,rfl,h8⟩
     repeat' first|refine sk126 ?_|intro b;conv=>whnf
     exact Rt.by ((Vs.row h8 (aO9 _ _ _)).trans (Vs.drop (yG _ _))) ⟨_,rfl,rfl,hG2⟩
    ·have hpb2:am2 c.other=true:=by
      cases h9:c.other with
      | nil=>exact absurd h9 hot
      | cons a b=>rw [h9] at hob;exact hob
     have hol:0<c.other.length:=xS.2 hot;have HE2:=bc3 x w hw hp hfit k hk c.other hpb2 hl2 bm G2 hG2;have hp:∀ i,i<l.length->APure prog 111 [iD i,.ro [slI (endL x w k c.path)],.ro [slI (endL x w k c.other)],.ro (cndC c)] (bD (holdV x w k (l.getD i []) c)):=fun i hi=>by
      have hm:l.getD i []∈l:=by rw [List.getD_eq_getElem?_getD,zD hi];exact wE ..
      have hin:=az8 hfit c.other k hk hl2 l hl _ hm;rw [bP8 hop,if_neg hot];exact cr9 _ _ c i _ _ (aI2 hl _ hi) (aI2 hl _ hi) ⟨by omega,by omega⟩
     rw [hcd] at hp;have HS:=aW8 l.length (by omega) _ hp b5 _ _ (aq5 (e:=4) (g:=bD) false l.length bo (by unfold maxLen;omega))
     repeat' first|refine sk128 ?_|intro b;conv=>whnf
     refine Bc.l ?_
     repeat' first|refine sk128 ?_|intro b;conv=>whnf
     refine pA6 HE2 (bp9 _ _ _ _ _ _) (fun s'=>s'++_) (fun s'=>zH _) ?_;rintro _ _ ⟨G4,rfl,rfl,hG4⟩
     repeat' first|refine sk128 ?_|intro b;conv=>whnf|((with_reducible refine' Ld.at 3 ?h1 ?h2 ?h3 ?_);(case h1=>exact rfl);(case h2=>exact rfl);(case h3=>exact rfl))|((with_reducible refine' Ld.at 4 ?h1 ?h2 ?h3 ?_);(case h1=>exact rfl);(case h2=>exact rfl);(case h3=>exact rfl))|((with_reducible refine' Ld.at 5 ?h1 ?h2 ?h3 ?_);(case h1=>exact rfl);(case h2=>exact rfl);(case h3=>exact rfl))|((with_reducible refine' Sv.at 3 ?h1 ?h2 ?h3 ?h4 ?h5 ?_);(case h1=>exact rfl);(case h2=>exact rfl);(case h3=>exact rfl);(case h4=>exact rfl);(case h5=>exact cl29))|((with_reducible refine' Sv.at 4 ?h1 ?h2 ?h3 ?h4 ?h5 ?_);(case h1=>exact rfl);(case h2=>exact rfl);(case h3=>exact rfl);(case h4=>exact rfl);(case h5=>exact cl29))|((with_reducible refine' Sv.at 5 ?h1 ?h2 ?h3 ?h4 ?h5 ?_);(case h1=>exact rfl);(case h2=>exact rfl);(case h3=>exact rfl);(case h4=>exact rfl);(case h5=>exact cl29))
     refine Bc.j ?_;refine ay2 (Sc.drop (ρ:=[_]) (bV7 _ _ _ _ _ _)) ?_;refine aj5 (i:=11) (d:=.v (.pointer (some ⟨b11,0,none⟩))) (d':=.ro [slI (endL x w k c.other)]) rfl (fun h=>by cases h) (Vs.ptr (tb:=22) (zH _)) ?_;clear hG2;obtain⟨G2,rfl⟩:∃ G2,G2=G4:=⟨_,rfl⟩
     have hG2:=hG4;refine aj5 (i:=10) (d:=.v (.pointer (some ⟨b10,0,none⟩))) (d':=.ro [slI (endL x w k c.path)]) rfl (fun h=>by cases h) (Vs.ptr (tb:=22) (zH _)) ?_;refine ar5 mixed aa0 ?_
     repeat' first|refine sk126 ?_|intro b;conv=>whnf
     refine pA6 HS (zH ([_,_]++[_])) (fun s'=>s'++[_]) (fun s'=>zH _) ?_;rintro _ _ ⟨v8,s8,rfl,rfl,h8⟩
     repeat' first|refine sk126 ?_|intro b;conv=>whnf
     exact Rt.by ((Vs.row h8 (aO9 _ _ _)).trans (Vs.drop (yG _ _))) ⟨_,rfl,rfl,hG2⟩
   by_cases hop2:c.op=2
   ·have hk0:c.kids.length=0:=by rw [hop2] at hkn;simpa using hkn
    clear hop;have hop:=hop2;unfold aK6 at hform;rw [if_pos (.inr hop)] at hform;simp only [aa3,zJ,zQ] at hform;obtain⟨⟨hpb,hob⟩,hn1,hn2⟩:=hform;have HE:=bc3 x w hw hp hfit k hk c.path hpb hl1 bm G1 hG1
    repeat' first|refine sk126 ?_|intro b;conv=>whnf
    rename_i b10;obtain⟨b11,rfl⟩:∃ b11,b11=b:=⟨_,rfl⟩
    refine dr7 ?_;refine ay2 (Sc.drop (bV8 _ _ _ _ _)) ?_;refine ak3 mixed aa0 rfl [0,1,2] 6 (inE [3,4,6,7,8]) (.two 3 (.two 4 (.fst 5 (.two 6 (.one 7 (.one 8 .done)) 7 (.one 6 (.one 8 .done)))) 7 (.one 4 (.fst 5 (.one 6 (.one 8 .done))))) 4 (.fst 5 (.two 3 (.two 6 (.one 7 (.one 8 .done)) 7 (.one 6 (.one 8 .done))) 6 (.one 3 (.one 7 (.one 8 .done)))))) (γ:=(Value->Option D) × Nat) (fun _=>[]) (fun g=>(b10,.cells 22 [slI (endL x w k c.path)])::(b11,.cells 22 [.v (.slice (some ⟨g.2,0,none⟩) l.length l.length)])::(g.2,.cells 3 (List.replicate l.length (iD 0)))::(b5,.cells 130 [.v (.slice (some ⟨bo,0,none⟩) l.length l.length)])::(bo,.cells 4 (List.replicate l.length (bD false)))::[(bm,Blk.mp prog 9 g.1)]) (fun g=>endG x w k g.1) (by decide +kernel) ?_ ?_
    ·repeat' first|refine sk126 ?_|intro b;conv=>whnf|((with_reducible refine' Ld.at 3 ?h1 ?h2 ?h3 ?_);(case h1=>exact rfl);(case h2=>exact rfl);(case h3=>exact rfl))|((with_reducible refine' Ld.at 4 ?h1 ?h2 ?h3 ?_);(case h1=>exact rfl);(case h2=>exact rfl);(case h3=>exact rfl))|((with_reducible refine' Ld.at 5 ?h1 ?h2 ?h3 ?_);(case h1=>exact rfl);(case h2=>exact rfl);(case h3=>exact rfl))|((with_reducible refine' Sv.at 3 ?h1 ?h2 ?h3 ?h4 ?h5 ?_);(case h1=>exact rfl);(case h2=>exact rfl);(case h3=>exact rfl);(case h4=>exact rfl);(case h5=>exact cl29))|((with_reducible refine' Sv.at 4 ?h1 ?h2 ?h3 ?h4 ?h5 ?_);(case h1=>exact rfl);(case h2=>exact rfl);(case h3=>exact rfl);(case h4=>exact rfl);(case h5=>exact cl29))|((with_reducible refine' Sv.at 5 ?h1 ?h2 ?h3 ?h4 ?h5 ?_);(case h1=>exact rfl);(case h2=>exact rfl);(case h3=>exact rfl);(case h4=>exact rfl);(case h5=>exact cl29))|(refine pA6 HE (bW0 _ _ _ _ _) (fun s'=>s'++_) (fun s'=>zH _) ?_;rintro _ _ ⟨G2,rfl,rfl,hG2⟩;conv=>whnf)|(refine pA6 HE (bp9 _ _ _ _ _ _) (fun s'=>s'++_) (fun s'=>zH _) ?_;rintro _ _ ⟨G2,rfl,rfl,hG2⟩;conv=>whnf)|(refine Mk.go l.length rfl rfl rfl rfl rfl (by simp) (by omega) (by omega) (fun bz=>?_))|(refine And.intro ?_ ?_<;>(conv=>whnf))
     all_goals first|exact⟨(G2,bz),(aa2 cl2),Sc.perm (bV6 _ _ _ _ _ _),hG2⟩|exact⟨(G2,bz),(aa2 cl2),Sc.perm (bV5 _ _ _ _ _ _),hG2⟩
    rintro⟨G2,bz⟩ hG2;by_cases hot:c.other=[]
    ·have hp:∀ i,i<l.length->APure prog 112 [iD i,.ro [slI (endL x w k c.path)],.ro [slI (List.replicate l.length 0)],.ro (cndC c)] (bD (holdV x w k (l.getD i []) c)):=fun i hi=>by
      rw [aL6 hop,if_pos hot];exact br7 _ _ c i _ 0 (aI2 hl _ hi) (by rw [wF,if_pos hi]) ⟨by omega,by omega⟩
     rw [hcd] at hp;have HS:=aW8 l.length (by omega) _ hp b5 _ _ (aq5 (e:=4) (g:=bD) false l.length bo (by unfold maxLen;omega));have hol:c.other.length=0:=by rw [hot];rfl
     repeat' first|refine sk128 ?_|intro b;conv=>whnf
     refine Bc.l ?_
     repeat' first|refine sk128 ?_|intro b;conv=>whnf
     refine Bc.j ?_;refine ay2 ((Sc.perm (bV4 _ _ _ _)).trans (Sc.frz (j:=0) rfl (aq5 (e:=3) (g:=iD) (0:Int) l.length bz (by unfold maxLen;omega)) (LeR.refl _))) ?_;refine aj5 (i:=11) (d:=.v (.pointer (some ⟨b11,0,none⟩))) (d':=.ro [slI (List.replicate l.length 0)]) rfl (fun h=>by cases h) (Vs.ptr (tb:=22) (zH _)) ?_;refine aj5 (i:=10) (d:=.v (.pointer (some ⟨b10,0,none⟩))) (d':=.ro [slI (endL x w k c.path)]) rfl (fun h=>by cases h) (Vs.ptr (tb:=22) (zH _)) ?_;refine ar5 mixed aa0 ?_
     repeat' first|refine sk126 ?_|intro b;conv=>whnf
     refine pA6 HS (zH ([_,_]++[_])) (fun s'=>s'++[_]) (fun s'=>zH _) ?_;rintro _ _ ⟨v8,s8,rfl,rfl,h8⟩
     repeat' first|refine sk126 ?_|intro b;conv=>whnf
     exact Rt.by ((Vs.row h8 (aO9 _ _ _)).trans (Vs.drop (yG _ _))) ⟨_,rfl,rfl,hG2⟩
    ·have hpb2:am2 c.other=true:=by
      cases h9:c.other with
      | nil=>exact absurd h9 hot
      | cons a b=>rw [h9] at hob;exact hob
     have hol:0<c.other.length:=xS.2 hot;have HE2:=bc3 x w hw hp hfit k hk c.other hpb2 hl2 bm G2 hG2;have hp:∀ i,i<l.length->APure prog 112 [iD i,.ro [slI (endL x w k c.path)],.ro [slI (endL x w k c.other)],.ro (cndC c)] (bD (holdV x w k (l.getD i []) c)):=fun i hi=>by
      have hm:l.getD i []∈l:=by rw [List.getD_eq_getElem?_getD,zD hi];exact wE ..
      have hin:=az8 hfit c.other k hk hl2 l hl _ hm;rw [aL6 hop,if_neg hot];exact br7 _ _ c i _ _ (aI2 hl _ hi) (aI2 hl _ hi) ⟨by omega,by omega⟩
     rw [hcd] at hp;have HS:=aW8 l.length (by omega) _ hp b5 _ _ (aq5 (e:=4) (g:=bD) false l.length bo (by unfold maxLen;omega))
     repeat' first|refine sk128 ?_|intro b;conv=>whnf
     refine Bc.l ?_
     repeat' first|refine sk128 ?_|intro b;conv=>whnf
     refine pA6 HE2 (bp9 _ _ _ _ _ _) (fun s'=>s'++_) (fun s'=>zH _) ?_;rintro _ _ ⟨G4,rfl,rfl,hG4⟩
     repeat' first|refine sk128 ?_|intro b;conv=>whnf|((with_reducible refine' Ld.at 3 ?h1 ?h2 ?h3 ?_);(case h1=>exact rfl);(case h2=>exact rfl);(case h3=>exact rfl))|((with_reducible refine' Ld.at 4 ?h1 ?h2 ?h3 ?_);(case h1=>exact rfl);(case h2=>exact rfl);(case h3=>exact rfl))|((with_reducible refine' Ld.at 5 ?h1 ?h2 ?h3 ?_);(case h1=>exact rfl);(case h2=>exact rfl);(case h3=>exact rfl))|((with_reducible refine' Sv.at 3 ?h1 ?h2 ?h3 ?h4 ?h5 ?_);(case h1=>exact rfl);(case h2=>exact rfl);(case h3=>exact rfl);(case h4=>exact rfl);(case h5=>exact cl29))|((with_reducible refine' Sv.at 4 ?h1 ?h2 ?h3 ?h4 ?h5 ?_);(case h1=>exact rfl);(case h2=>exact rfl);(case h3=>exact rfl);(case h4=>exact rfl);(case h5=>exact cl29))|((with_reducible refine' Sv.at 5 ?h1 ?h2 ?h3 ?h4 ?h5 ?_);(case h1=>exact rfl);(case h2=>exact rfl);(case h3=>exact rfl);(case h4=>exact rfl);(case h5=>exact cl29))
     refine Bc.j ?_;refine ay2 (Sc.drop (ρ:=[_]) (bV7 _ _ _ _ _ _)) ?_;refine aj5 (i:=11) (d:=.v (.pointer (some ⟨b11,0,none⟩))) (d':=.ro [slI (endL x w k c.other)]) rfl (fun h=>by cases h) (Vs.ptr (tb:=22) (zH _)) ?_;clear hG2;obtain⟨G2,rfl⟩:∃ G2,G2=G4:=⟨_,rfl⟩
     have hG2:=hG4;refine aj5 (i:=10) (d:=.v (.pointer (some ⟨b10,0,none⟩))) (d':=.ro [slI (endL x w k c.path)]) rfl (fun h=>by cases h) (Vs.ptr (tb:=22) (zH _)) ?_;refine ar5 mixed aa0 ?_
     repeat' first|refine sk126 ?_|intro b;conv=>whnf
     refine pA6 HS (zH ([_,_]++[_])) (fun s'=>s'++[_]) (fun s'=>zH _) ?_;rintro _ _ ⟨v8,s8,rfl,rfl,h8⟩
     repeat' first|refine sk126 ?_|intro b;conv=>whnf
     exact Rt.by ((Vs.row h8 (aO9 _ _ _)).trans (Vs.drop (yG _ _))) ⟨_,rfl,rfl,hG2⟩
   clear hform;have hlk:∀ (a:Cnd) (i:Nat),i<l.length->(aq2 x w k a)[i]?=some (holdV x w k (l.getD i []) a):=fun a i hi=>by
    rw [ax7 hl,zP,xV hi];rfl
   have hll2:∀ a,(aq2 x w k a).length=l.length:=fun a=>by rw [ax7 hl];simp
   by_cases hop3:c.op=3
   ·obtain⟨a,ha⟩:∃ a,c.kids=[a]:=by
     rw [hop3] at hkn;exact List.length_eq_one_iff.1 (by simp at hkn;omega)
    have hp:∀ i,i<l.length->APure prog 113 [iD i,.ro [slS2 (c.kids.map (aq2 x w k))]] (bD (holdV x w k (l.getD i []) c)):=fun i hi=>by
     rw [bX6 hop3 ha,ha];exact cr8 (aq2 x w k a) _ i _ rfl (hlk a i hi)
    have HS:=bi6 l.length (by omega) _ hp b5 _ _ (aq5 (e:=4) (g:=bD) false l.length bo (by unfold maxLen;omega))
    repeat' first|refine sk128 ?_|intro b;conv=>whnf
    refine Bc.l ?_
    repeat' first|refine sk128 ?_|intro b;conv=>whnf
    refine Bc.j ?_;refine ay2 ((Sc.drop (bD8 _ _ _ _ _)).trans (Sc.frz (j:=0) rfl h7 (ys:=(c.kids.map (aq2 x w k)).map fun l=>[slB l]) (by rw [vA];exact LeR.refl _))) ?_;refine aj5 (i:=7) (d:=.v (.pointer (some ⟨b7,0,none⟩))) (d':=.ro [slS2 (c.kids.map (aq2 x w k))]) rfl (fun h=>by cases h) (Vs.ptr (tb:=206) (zH _)) ?_;refine ar5 mixed aa0 ?_
    repeat' first|refine sk126 ?_|intro b;conv=>whnf
    refine pA6 HS (zH ([_,_]++[_])) (fun s'=>s'++[_]) (fun s'=>zH _) ?_;rintro _ _ ⟨v8,s8,rfl,rfl,h8⟩
    repeat' first|refine sk126 ?_|intro b;conv=>whnf
    exact Rt.by ((Vs.row h8 (aO9 _ _ _)).trans (Vs.drop (yG _ _))) ⟨_,rfl,rfl,hG1⟩
   by_cases hop4:c.op=4
   ·obtain⟨a,b2,ha⟩:∃ a b,c.kids=[a,b]:=by
     rw [hop4] at hkn;exact ba5 (by simp at hkn;omega)
    have hp:∀ i,i<l.length->APure prog 114 [iD i,.ro [slS2 (c.kids.map (aq2 x w k))]] (bD (holdV x w k (l.getD i []) c)):=fun i hi=>by
     rw [bX7 hop4 ha,ha];exact cs7 (aq2 x w k a) (aq2 x w k b2) _ i _ _ rfl rfl (hlk a i hi) (hlk b2 i hi)
    have HS:=bi6 l.length (by omega) _ hp b5 _ _ (aq5 (e:=4) (g:=bD) false l.length bo (by unfold maxLen;omega))
    repeat' first|refine sk128 ?_|intro b;conv=>whnf
    refine Bc.l ?_
    repeat' first|refine sk128 ?_|intro b;conv=>whnf
    refine Bc.j ?_;refine ay2 ((Sc.drop (bD8 _ _ _ _ _)).trans (Sc.frz (j:=0) rfl h7 (ys:=(c.kids.map (aq2 x w k)).map fun l=>[slB l]) (by rw [vA];exact LeR.refl _))) ?_;refine aj5 (i:=7) (d:=.v (.pointer (some ⟨b7,0,none⟩))) (d':=.ro [slS2 (c.kids.map (aq2 x w k))]) rfl (fun h=>by cases h) (Vs.ptr (tb:=206) (zH _)) ?_;refine ar5 mixed aa0 ?_
    repeat' first|refine sk126 ?_|intro b;conv=>whnf
    refine pA6 HS (zH ([_,_]++[_])) (fun s'=>s'++[_]) (fun s'=>zH _) ?_;rintro _ _ ⟨v8,s8,rfl,rfl,h8⟩
    repeat' first|refine sk126 ?_|intro b;conv=>whnf
    exact Rt.by ((Vs.row h8 (aO9 _ _ _)).trans (Vs.drop (yG _ _))) ⟨_,rfl,rfl,hG1⟩
   by_cases hop5:c.op=5
   ·obtain⟨a,b2,ha⟩:∃ a b,c.kids=[a,b]:=by
     rw [hop5] at hkn;exact ba5 (by simp at hkn;omega)
    have hp:∀ i,i<l.length->APure prog 115 [iD i,.ro [slS2 (c.kids.map (aq2 x w k))]] (bD (holdV x w k (l.getD i []) c)):=fun i hi=>by
     rw [cr7 hop5 ha,ha];exact cx3 (aq2 x w k a) (aq2 x w k b2) _ i _ _ rfl rfl (hlk a i hi) (hlk b2 i hi)
    have HS:=bi6 l.length (by omega) _ hp b5 _ _ (aq5 (e:=4) (g:=bD) false l.length bo (by unfold maxLen;omega))
    repeat' first|refine sk128 ?_|intro b;conv=>whnf
    refine Bc.l ?_
    repeat' first|refine sk128 ?_|intro b;conv=>whnf
    refine Bc.j ?_;refine ay2 ((Sc.drop (bD8 _ _ _ _ _)).trans (Sc.frz (j:=0) rfl h7 (ys:=(c.kids.map (aq2 x w k)).map fun l=>[slB l]) (by rw [vA];exact LeR.refl _))) ?_;refine aj5 (i:=7) (d:=.v (.pointer (some ⟨b7,0,none⟩))) (d':=.ro [slS2 (c.kids.map (aq2 x w k))]) rfl (fun h=>by cases h) (Vs.ptr (tb:=206) (zH _)) ?_;refine ar5 mixed aa0 ?_
    repeat' first|refine sk126 ?_|intro b;conv=>whnf
    refine pA6 HS (zH ([_,_]++[_])) (fun s'=>s'++[_]) (fun s'=>zH _) ?_;rintro _ _ ⟨v8,s8,rfl,rfl,h8⟩
    repeat' first|refine sk126 ?_|intro b;conv=>whnf
    exact Rt.by ((Vs.row h8 (aO9 _ _ _)).trans (Vs.drop (yG _ _))) ⟨_,rfl,rfl,hG1⟩
   have hop0:c.op=0:=by omega
   have hp:∀ i,i<l.length->APure prog 116 [iD i] (bD (holdV x w k (l.getD i []) c)):=fun i hi=>by
    rw [bX8 hop0];exact ct0 i
   have HS:=ca7 l.length (by omega) _ hp b5 _ _ (aq5 (e:=4) (g:=bD) false l.length bo (by unfold maxLen;omega))
   repeat' first|refine sk126 ?_|intro b;conv=>whnf
   refine pA6 HS (cn1 _ _ _ _ _ _ _) (fun s'=>s'++_) (fun s'=>zH _) ?_;rintro _ _ ⟨v8,s8,rfl,rfl,h8⟩
   repeat' first|refine sk126 ?_|intro b;conv=>whnf
   exact Rt.by ((Vs.row h8 (cn0 _ _ _ _)).trans (Vs.drop (xU _ _))) ⟨_,rfl,rfl,hG1⟩
end
section
open Go Go.RowKit Go.Shelf
section
variable {P:Program} {r:Option Nat} {n:Nat} {df:Nat} {N:Nat} {σ:aa1} {f:Frm} {L:List Oper} {T:TypeId->Option TI}
theorem OtE.copy0 (hT:∀ t i,T t=some i->tiOf P t=some i) {o:Oper} {p x:Operand} {t t2 e:TypeId} {i j:TI} {ag:Bool} {by_ b off dc jj:Nat} {tb:TypeId} {cs:List D} {ys:List (List D)} {K:Frm->aa1->Prop}
  (ho:o.op = .call { callee:=.builtin .copy,args:=#[p,x],argTypes:=#[t,t2] }) (hp:evF f p = .v (.slice (some ⟨b,off,none⟩) 0 dc)) (ht:T t=some i) (hs:i.sl=some (e,ag,1,by_)) (hj:T e=some j) (hjs:j.size=1)
  (hb:σ[jj]?=some (b,.cells tb cs)) (hfit:off<=cs.length) (hx:evF f x = .sl 1 ys) (hy:ys≠[]) (kk:W (putK N o.dst (.v (.int .i64 0)) f (fun f'=>K f' σ))):OtE P r n df L N o f σ K:=by
 refine⟨fun rest Q a hsp hw hk=>?_⟩;refine ah3 hw (by rw [ho];rfl) fun w X fr hst=>?_;have hpv:=hsp.le p _ _ _ (hst.fr.eval p);rw [hp] at hpv;have hpv:=hpv.val rfl;have hxv:=hsp.le x _ _ _ (hst.fr.eval x);rw [hx] at hxv;obtain⟨hu,hsz,_⟩:=al0 (hT t i ht) hs;have hsz1:(P.info? e).map (·.size)=some 1:=by
  obtain⟨inf,u,q1,_,_,q4,_⟩:=as9 (hT e j hj);rw [q1];simp [← q4,hjs]
 obtain⟨_,ob,hob,vs,rfl,hvs⟩:=hst.st.at_ b _ (zG hb);obtain⟨a0,c,news,hxe,hrd,hnl,hcl⟩:=aX2 hxv (by omega);obtain⟨ad,rfl,hcell⟩:=hcl hy;have hrun:=run_copy_row (P:=P) w t t2 o.type e b off 0 dc ad ys.length c vs.toArray tb [] hu hsz1 hob (by simp) (fun j v h=>by simp at h) (by simp [hvs.len];omega) (fun v h=>by cases h);have ee:(execOp fr.eval o).run P w = .ok (.value (goInt 0)) w:=by
  simp only [execOp,ho,resolve,invoke,builtin,Sem.run_bind,Sem.run_pure,Result.andThen,vD,List.map_cons,List.map_nil,hpv,hxe,hrun];rw [show (vs.toArray.toList.take off++([]:List Value)++vs.toArray.toList.drop (off+([]:List Value).length)).toArray=vs.toArray by simp];rw [setRow_self w b _ tb _ hob]
  rfl
 rw [ee];obtain⟨f',hs',h4⟩:=ae5 kk.h hsp;exact⟨.v (.int .i64 0),σ,Mv.refl _ _,hst.put (.v _) o.dst,hk _ _ _ h4 hs'⟩
end
theorem aV6 (e:TypeId) (d:D) (m b:Nat) (hm:m<=maxLen):RowIs e 1 (List.replicate m [d]) (.slice (some ⟨b,0,none⟩) m m) [(b,.cells e (List.replicate m d))]:=
 ⟨fun y hy=>by rw [(List.mem_replicate.1 hy).2];rfl,.inr ⟨b,m,[],by simp,by simp,by simp,hm,by simp,fun d hd=>by cases hd⟩⟩
theorem bt1 (x y:Nat) (hx:x<18446744073709551616) (hy:y<18446744073709551616):APure prog 117 [.v (.int .u64 x),.v (.int .u64 y)] (.tup [.v (.int .u64 ((x*y/18446744073709551616:Nat):Int)),.v (.int .u64 ((x*y%18446744073709551616:Nat):Int))]):=by
 refine⟨enters_of func117 (by kernel_rfl) rfl,fun w O vs hv _=>?_⟩;obtain⟨v0,h0,r0⟩:=hv.get (j:=0) rfl;obtain⟨v1,h1,r1⟩:=hv.get (j:=1) rfl;have hl:=hv.len;have e0:=r0.val rfl;have e1:=r1.val rfl;subst e0 e1;obtain rfl:vs=[.int .u64 x,.int .u64 y]:=by
  match vs,hl,h0,h1 with
  | [a,b],_,h0,h1=>simp at h0 h1;rw [h0,h1]
 refine (bits_Mul x y hx hy w).mono ?_;rintro e w' ⟨rfl,rfl⟩;exact⟨_,rfl,.tup _ [_,_] rfl (fun j d u hd hu=>by
  match j,hd,hu with
  | 0,hd,hu=>simp at hd hu;subst hd hu;exact .v _
  | 1,hd,hu=>simp at hd hu;subst hd hu;exact .v _
  | j+2,hd,hu=>simp at hd),Ex.refl _⟩
theorem bB4 (j m k:Nat):spl (List.replicate j (iD 1)++List.replicate (m+k) (iD 0)) j (List.replicate m (iD 1))=List.replicate (j+m) (iD 1)++List.replicate k (iD 0):=by
 unfold spl;rw [List.take_left' (by simp),List.drop_append,List.drop_of_length_le (by simp),zY,zY,List.nil_append,List.drop_replicate,show m+k-(j+m-j)=k by omega,List.replicate_append_replicate]
theorem sk129 {A B:Prop} (k:B) (h:Hd7 B->A:=by intro q7;(first|refine sb0 ?_|refine sb1 ?_|(refine' cp7x ?hc ?_;(case hc=>exact bt1 1 n (by decide) (by omega))));exact q7.1):A:=h ⟨k⟩
def vK:=@List.take_append_of_le_length
theorem cb1 (n:Nat) (hn:n<=1000):ACall prog 62 [.sl 1 [[iD 1]],iD n] [] (fun d s=>∃ v,d = .v v/\RowR 3 iD (List.replicate n 1) v s):=by
 have e1:1*n/18446744073709551616=0:=by omega
 have e2:1*n%18446744073709551616=n:=by omega
 refine eC7 func62 ntmps62 fun BB=>?_
 repeat' first|refine sk129 ?_|intro b;conv=>whnf|((with_reducible refine' Ot.yd ?hyd ?_);(case hyd=>first|exact bz1 rfl rfl underlying3 underlying180 (by first|rfl|(rw [IntKind.wrap_u64];omega))|exact bz1 rfl rfl underlying180 underlying3 (by rw [IntKind.wrap_i64];omega)))
 rw [e2];refine Mk.go n rfl rfl rfl rfl rfl rfl (by omega) (by omega) (fun b=>?_)
 repeat' first|refine sk129 ?_|intro b;conv=>whnf
 have hms:((((n:Nat):Int).toNat):Nat)=n:=rfl;rcases uA n with rfl|hn0
 ·refine OtE.copy0 aa0 (jj:=0) (off:=0) rfl rfl rfl rfl rfl rfl rfl (zW _) rfl (by simp) ?_
  repeat' first|refine sk129 ?_|intro b;conv=>whnf
  refine ac2 mixed aa0 (γ:=Unit) (fun _=>[(8,iD 0)]) (fun _=>[(b,.cells 3 (List.replicate 0 (iD 0)))]) (fun _=>True) (fun _=>0) () (aa2 cl2) cl3 trivial ?_;rintro - -
  repeat' first|refine sk129 ?_|intro b;conv=>whnf
  exact Rt.same ⟨_,rfl,aV6 _ _ 0 b (by unfold maxLen;omega)⟩
 ·have e3:spl (List.replicate n (iD 0)) 0 [iD 1]=List.replicate 1 (iD 1)++List.replicate (n-1) (iD 0):=by
   have:=bB4 0 1 (n-1);rw [show 1+(n-1)=n by omega] at this
   simpa using this
  have e4:Nat.min ([[iD 1]]:List (List D)).length n=1:=by show min 1 n=1;omega
  refine OtE.copy aa0 (jj:=0) (off:=0) (new:=[iD 1]) (cs:=List.replicate n (iD 0)) rfl rfl rfl rfl rfl rfl rfl (by simp;omega) rfl (by simp) (.inl ⟨[[iD 1]],rfl,by rw [e4];rfl,by rw [e4];rfl⟩) ?_
  repeat' first|refine sk129 ?_|intro b;conv=>whnf
  refine ac2 mixed aa0 (γ:=Nat) (fun j=>[(8,iD j)]) (fun j=>[(b,.cells 3 (List.replicate j (iD 1)++List.replicate (n-j) (iD 0)))]) (fun j=>1<=j/\j<=n) (fun j=>n-j) 1 (aa2 cl2) (by rw [← e3];exact (xQ _)) ⟨by omega,by omega⟩ ?_;rintro j ⟨hj1,hj2⟩;by_cases hjn:j<n
  ·obtain⟨m,hm,hm1,hm2,hm3⟩:∃ m,Nat.min (j-0) (n-j)=m/\m<=j/\m<=n-j/\1<=m:=⟨_,rfl,by show min _ _<=_;omega,by show min _ _<=_;omega,by show 1<=min _ _;omega⟩
   have e5:spl (List.replicate j (iD 1)++List.replicate (n-j) (iD 0)) (0+j*1) (List.replicate m (iD 1))=List.replicate (j+m) (iD 1)++List.replicate (n-(j+m)) (iD 0):=by
    have:=bB4 j m (n-(j+m));rw [show m+(n-(j+m))=n-j by omega] at this
    simpa using this
   repeat' first|refine sk129 ?_|intro b;conv=>whnf|((with_reducible refine' Ot.yd ?hyd ?_);(case hyd=>first|exact bm6 aa0 rfl rfl rfl rfl (.inr ⟨_,_,rfl,rfl⟩) (.inl ⟨rfl,rfl⟩) (by omega) (by omega) (by omega)|exact bm6 aa0 rfl rfl rfl rfl (.inl ⟨rfl,rfl⟩) (.inr ⟨_,_,rfl,rfl⟩) (by omega) (by omega) (by omega)))
   refine OtE.copy aa0 (jj:=0) (off:=0+j*1) (new:=List.replicate m (iD 1)) (cs:=List.replicate j (iD 1)++List.replicate (n-j) (iD 0)) rfl rfl rfl rfl rfl rfl rfl (by simp;omega) (by simp [oneD,Value.oneCell',iD]) (by simp;omega) (.inr ⟨0+0*1,j-0,n-0,rfl,by show _=List.take (Nat.min (j-0) (n-j)) _;rw [hm,Nat.zero_mul,Nat.add_zero,List.drop_zero,vK (by simp;omega),List.take_replicate,vH hm1],by show _=Nat.min (j-0) (n-j);rw [hm,zY]⟩) ?_
   repeat' first|refine sk129 ?_|intro b;conv=>whnf
   rw [zY];exact⟨j+m,(aa2 cl4),by rw [← e5];exact (xQ _),⟨by omega,by omega⟩,by omega⟩
  ·obtain rfl:j=n:=by omega
   repeat' first|refine sk129 ?_|intro b;conv=>whnf
   rw [wH,List.replicate_zero,zZ];refine Rt.same ⟨_,rfl,?_⟩
   show RowIs _ _ (List.map _ (List.replicate j (1:Int))) _ _;rw [List.map_replicate];exact aV6 _ _ j b (by unfold maxLen;omega)
theorem aM9 {f:Int->Int->Int} {a:Int} {l:List Int} {j:Nat} {y:Int} (h:l[j]?=some y):(l.take (j+1)).foldl f a=f ((l.take j).foldl f a) y:=by
 rw [xC,h];simp
theorem bs1 {f:Int->Int->Int} {l:List Int} (h:l≠[]) (hf:∀ a,f a a=a):(l.take 1).foldl f (l.headD 0)=l.headD 0:=by
 cases l with
 | nil=>exact absurd rfl h
 | cons a l=>simp [hf]
theorem cl30 {p:Prop} (h:p:=by repeat (first|exact Chk.nil|refine Chk.cons rfl ?_|(refine Chk.cons (zM (fun n=>some (iD n)) ?h) ?_;(case h=>(first|omega|(simp only [Int.min_def,Int.max_def];split<;>omega)|((try simp only [zL,zR,zI,List.length_cons,List.length_nil,zY,Nat.reduceAdd]);omega)))))):p:=h
theorem aT3 (l:List Int) (h:l≠[]) (hl:l.length<=1000000):APure prog 64 [slI l] (iD (l.foldl min (l.headD 0))):=by
 have h0:0<l.length:=xS.2 h;obtain⟨a,ha⟩:∃ a,l[(0:Int).toNat]?=some a:=⟨_,zD (by simpa using h0)⟩
 have hd:l.headD 0=a:=by cases l with|nil=>exact absurd rfl h|cons b l=>simpa using ha
 refine eP7 func64 ntmps64 fun BB=>?_
 repeat' first|refine sk2 ?_|intro b;conv=>whnf
 refine ac2 mixed aa0 (γ:=Nat) (fun j=>[(3,iD ((l.take j).foldl min (l.headD 0))),(4,iD j)]) (fun _=>[]) (fun j=>1<=j/\j<=l.length) (fun j=>l.length-j) 1 (by rw [bs1 h (fun a=>Int.min_self a),hd];exact (aa2 cl2)) cl3 ⟨by omega,by omega⟩ ?_;rintro j ⟨h1,h2⟩;by_cases hjl:j<l.length
 ·obtain⟨y,hy⟩:∃ y,l[j]?=some y:=⟨_,zD hjl⟩
  have hy':l[((j:Nat):Int).toNat]?=some y:=hy;have e:=aM9 (f:=min) (a:=l.headD 0) hy
  repeat' first|refine sk2 ?_|intro b;conv=>whnf
  exact⟨j+1,by rw [e];exact (aa2 cl30),cl3,⟨by omega,by omega⟩,by omega⟩
 ·obtain rfl:j=l.length:=by omega
  repeat' first|refine sk2 ?_|intro b;conv=>whnf
  refine Rt.pure (zM iD ?_);rw [yM]
theorem aT4 (l:List Int) (h:l≠[]) (hl:l.length<=1000000):APure prog 65 [slI l] (iD (l.foldl max (l.headD 0))):=by
 have h0:0<l.length:=xS.2 h;obtain⟨a,ha⟩:∃ a,l[(0:Int).toNat]?=some a:=⟨_,zD (by simpa using h0)⟩
 have hd:l.headD 0=a:=by cases l with|nil=>exact absurd rfl h|cons b l=>simpa using ha
 refine eP7 func65 ntmps65 fun BB=>?_
 repeat' first|refine sk2 ?_|intro b;conv=>whnf
 refine ac2 mixed aa0 (γ:=Nat) (fun j=>[(3,iD ((l.take j).foldl max (l.headD 0))),(4,iD j)]) (fun _=>[]) (fun j=>1<=j/\j<=l.length) (fun j=>l.length-j) 1 (by rw [bs1 h (fun a=>Int.max_self a),hd];exact (aa2 cl2)) cl3 ⟨by omega,by omega⟩ ?_;rintro j ⟨h1,h2⟩;by_cases hjl:j<l.length
 ·obtain⟨y,hy⟩:∃ y,l[j]?=some y:=⟨_,zD hjl⟩
  have hy':l[((j:Nat):Int).toNat]?=some y:=hy;have e:=aM9 (f:=max) (a:=l.headD 0) hy
  repeat' first|refine sk2 ?_|intro b;conv=>whnf
  exact⟨j+1,by rw [e];exact (aa2 cl30),cl3,⟨by omega,by omega⟩,by omega⟩
 ·obtain rfl:j=l.length:=by omega
  repeat' first|refine sk2 ?_|intro b;conv=>whnf
  refine Rt.pure (zM iD ?_);rw [yM]
end
section
open Go Go.Maps Go.MapKept
theorem sk130 {A B:Prop} (k:B) (h:Hd7 B->A:=by intro q7;(first|refine sb0 ?_|refine sb1 ?_|(refine' cp7x ?hc ?_;(case hc=>first|exact HN)));exact q7.1):A:=h ⟨k⟩
theorem bt7 (x:Sch) (w:Wd) (q:Qry) (p:Prb) (ps:List Prb) (hp:aj9 x=p::ps) (hne:p.2.2.2≠0) (HV:APure prog 143 [schD x] (iD (ad4 x))):APure prog 24 [schD x,slW w,qryD q] (.tup [iD 0,bD false,iD p.2.2.2]):=by
 have HN:=bO1 x w p ps hp HV;refine eP7 func24 ntmps24 fun BB=>?_
 repeat' first|refine sk130 ?_|intro b;conv=>whnf
 exact Rt.pure rfl
def ai0 (x:Sch) (w:Wd) (k:Nat) (q:Qry) (l:List (List Int)):List Int:=(l.filter fun r=>holdV x w k r q.cond).map fun r=>if q.op=0 then 1 else endV x w k r q.path
theorem ay6 (x:Sch) (w:Wd) (k:Nat) (q:Qry) (l:List (List Int)):(ai0 x w k q l).length<=l.length:=by
 unfold ai0;rw [zL];exact List.length_filter_le ..
theorem aG8 {x:Sch} {w:Wd} {k:Nat} {q:Qry} {l:List (List Int)} {i:Nat} {r:List Int} (h:l[i]?=some r):ai0 x w k q (l.take (i+1))=ai0 x w k q (l.take i)++(if holdV x w k r q.cond then [if q.op=0 then 1 else endV x w k r q.path] else []):=by
 unfold ai0;rw [af7 h,vZ,yB,List.filter_cons,List.filter_nil]
 cases holdV x w k r q.cond<;>rfl
def vP:=@List.mem_filter
theorem aW1 {x:Sch} {w:Wd} (hfit:fitW x w=true) {k:Nat} (hk:k<x.kz.length) {q:Qry} (hld:af4 x k q.path=true) {l:List (List Int)} (hl:w[k]?=some l):∀ z∈ai0 x w k q l,-1099511627776<=z/\z<=1099511627776:=by
 intro z hz;unfold ai0 at hz;obtain⟨r,hr,rfl⟩:=xM.1 hz;split
 ·omega
 ·exact az8 hfit q.path k hk hld l hl r (vP.1 hr).1
theorem bB2 {l:List Int} (h:∀ z∈l,-1099511627776<=z/\z<=1099511627776):-1099511627776*(l.length:Int)<=l.sum/\l.sum<=1099511627776*(l.length:Int):=by
 induction l with
 | nil=>simp
 | cons a l ih=>
  have h1:=h a yN;have h2:=ih fun z hz=>h z (yQ _ hz);simp only [List.sum_cons,List.length_cons];omega
theorem aX0 {l:List Int} {j:Nat} {y:Int} (h:l[j]?=some y):(l.take (j+1)).sum=(l.take j).sum+y:=by rw [xC,h];simp
theorem sk131 {A B:Prop} (k:B) (h:Hd7 B->A:=by intro q7;(first|refine sb0 ?_|refine sb1 ?_|(refine' cp7x ?hc ?_;(case hc=>first|exact HQ|exact HK|exact aT3 _ (by assumption) (by omega)|exact aT4 _ (by assumption) (by omega))));exact q7.1):A:=h ⟨k⟩
theorem sk132 {A B:Prop} (k:B) (h:Hd7 B->A:=by intro q7;(first|refine sb0 ?_|refine sb57 ?_|(refine' cp7x ?hc ?_;(case hc=>first|exact HQ|exact HK|exact aT3 _ (by assumption) (by omega)|exact aT4 _ (by assumption) (by omega))));exact q7.1):A:=h ⟨k⟩
theorem sk133 {A B:Prop} (k:B) (h:Hd7 B->A:=by intro q7;(first|refine sb0 ?_|refine sb127 ?_|(refine' cp7x ?hc ?_;(case hc=>first|exact HQ|exact HK|exact aT3 _ (by assumption) (by omega)|exact aT4 _ (by assumption) (by omega))));exact q7.1):A:=h ⟨k⟩
theorem sq2 {A B:Prop} (k:B) (h:Hd7 B->A:=by intro q7;(first|refine sk131 ?_|(with_reducible refine Br.t (wP _) ?_)|(with_reducible refine Br.f Bool.not_true ?_)|(with_reducible refine Br.t (yJ trivial) ?_)|(with_reducible refine Br.t (yJ rfl) ?_));exact q7.1):A:=h ⟨k⟩
theorem sq3 {A B:Prop} (k:B) (h:Hd7 B->A:=by intro q7;(first|refine sk132 ?_|(with_reducible refine Br.t (wP _) ?_)|(with_reducible refine Br.f Bool.not_true ?_)|(with_reducible refine Br.t (yJ trivial) ?_)|(with_reducible refine Br.t (yJ rfl) ?_));exact q7.1):A:=h ⟨k⟩
theorem sq4 {A B:Prop} (k:B) (h:Hd7 B->A:=by intro q7;(first|refine sk133 ?_|(with_reducible refine Br.t (wP _) ?_)|(with_reducible refine Br.f Bool.not_true ?_)|(with_reducible refine Br.t (yJ trivial) ?_)|(with_reducible refine Br.t (yJ rfl) ?_));exact q7.1):A:=h ⟨k⟩
theorem bb9 (x:Sch) (w:Wd) (q:Qry) (hw:Ws w) (hp:aj9 x=[]) (hs:q.cond.size<=1000000) (hpl:q.path.length<=1000000) (hA:q.cond.All CndS) (HV:APure prog 143 [schD x] (iD (ad4 x))) :
  APure prog 24 [schD x,slW w,qryD q] (.tup [iD (af1 x w q).1,bD (af1 x w q).2.1,iD (af1 x w q).2.2]):=by
 have HN:=bW4 x w hw hp HV;have hV:=(aN2 hp).vld;have hnk:=hV.nk;have hnf:∀ k∈x.kz,k.fields.length<=1000000:=fun k hk=>by have:=hV.nf k hk;omega
 have HQ:=bD1 x q hp (by omega) hnf hs hpl hA HV;have hwl:=hw.nk;have hcd:cndC q.cond=[iD q.cond.op,.sl 5 (aD1 q.cond),slS q.cond.path,slS q.cond.other,iD q.cond.n]:=rfl;refine eP7 func24 ntmps24 fun BB=>?_
 repeat' first|refine sq2 ?_|intro b;conv=>whnf|(with_reducible refine Br.f (yE (fun h=>h rfl)) ?_)
 refine pA6 HN (zH ([]++[])) (fun s'=>s') (fun s'=>by simp) ?_;rintro d σ (⟨hfit,rfl,rfl⟩|⟨hfit,c,rm,lm,F,sa,rfl,rfl,-⟩)
 ·have hE:af1 x w q=(0,false,2):=by unfold af1;rw [if_pos hfit]
  rw [hE]
  repeat' first|refine sq2 ?_|intro b;conv=>whnf|(with_reducible refine Br.f (yE (fun h=>h rfl)) ?_)
  exact Rt.pure rfl
 ·by_cases hq0:ap6 x q≠0
  ·have hE:af1 x w q=(0,false,ap6 x q):=by unfold af1;rw [if_neg (by rw [hfit];decide),if_pos hq0]
   rw [hE]
   repeat' first|refine sq2 ?_|intro b;conv=>whnf|(with_reducible refine Br.f (yE (fun h=>h rfl)) ?_)
   exact Rt.pure rfl
  ·have hq:ap6 x q=0:=by omega
   have hq2:=hq;unfold ap6 at hq2;split at hq2
   ·omega
   split at hq2
   ·omega
   split at hq2
   ·omega
   split at hq2
   ·rename_i h1 h2 h3 h4;obtain⟨k,hk⟩:∃ k:Nat,aa9 x q.kind=k:=⟨_,(xX (by omega)).symm⟩
    have hkl:aa9 x q.kind<x.kz.length:=ay3 _ _;have HK:=aj7 x q.kind (by omega);have hE:af1 x w q=((am6 q (ay7 x w k q)).1,(am6 q (ay7 x w k q)).2,0):=by unfold af1;rw [if_neg (by rw [hfit];decide),if_neg (by omega),hk,Int.toNat_natCast]
    rw [hE];rw [hk] at HK hkl h4;rw [Int.toNat_natCast,zJ] at h4;obtain⟨hl1,hl2⟩:=h4;obtain⟨hlen,hrows,hrefs⟩:=an0 hfit;obtain⟨l,hl⟩:∃ l,w[k]?=some l:=⟨_,zD (by omega)⟩
    have hll:=hw.nr l (zG hl);have hV2:ay7 x w k q=ai0 x w k q l:=by unfold ay7 ai0;rw [aa8 hl]
    rw [hV2];rw [Bool.not_eq_false] at h1 h2;have hform:formedB q.cond=true:=by unfold as1 at h2;simp only [zJ] at h2;exact h2.2
    have hHl:(aq2 x w k q.cond).length=l.length:=by rw [ax7 hl];simp
    repeat' first|refine sq3 ?_|intro b;conv=>whnf|(with_reducible refine Br.f (yE (fun h=>h rfl)) ?_)
    refine dr7 ?_;refine ay2 (Sc.sl (yV _)) ?_;refine ak3 mixed aa0 rfl [0,1,2,3,4,5] 4 (inE [6]) (.one 6 (.fst 7 (.fst 8 (.fst 9 .done)))) (γ:=Nat) (fun bm=>[(12,.ro (tbC x w k bm))]) (fun bm=>[(bm,Blk.mp prog 9 fun _=>none)]) (fun _=>True) (by decide +kernel) ?_ ?_
    ·repeat' first|refine sk132 ?_|intro b;conv=>whnf|(refine OtE.makeMapM (k:=9) rfl (fun bm=>?_);conv=>whnf)|(refine And.intro ?_ ?_<;>(conv=>whnf))
     exact⟨bm,(aa2 cl2),Sc.refl _,trivial⟩
    rintro bm -;have HH:=bn8 x w hw hp hfit k (by omega) bm q.cond.size q.cond (zT _) hform hl2 hA (fun _=>none) (fun key d h=>by cases h);have HR:=cb1 l.length (by omega)
    repeat' first|refine sq3 ?_|intro b;conv=>whnf|(with_reducible refine Br.f (yE (fun h=>h rfl)) ?_)
    refine pA6 HH (zH ([_]++[])) (fun s'=>s'++[]) (fun s'=>zH _) ?_;rintro _ _ ⟨G,rfl,rfl,hG⟩
    repeat' first|refine sq3 ?_|intro b;conv=>whnf|(with_reducible refine Br.f (yE (fun h=>h rfl)) ?_)
    rw [zL,hHl];refine pA6 HR (zH ([]++[_])) (fun s'=>s'++[_]) (fun s'=>zH _) ?_;rintro _ _ ⟨v1,h1r⟩;obtain⟨rfl,h1r⟩:=h1r;rename_i s1;by_cases hop:q.op=0
    ·repeat' first|refine sq3 ?_|intro b;conv=>whnf|(with_reducible refine Br.f (yE (fun h=>h rfl)) ?_)
     refine aa5 mixed aa0 (γ:=Nat × Value × aa1) (fun g=>[(15,.v g.2.1),(62,iD g.1)]) (fun g=>g.2.2++s1) (fun g=>g.1<=l.length/\RowR 3 iD (ai0 x w k q (l.take g.1)) g.2.1 g.2.2) (fun g=>l.length-g.1) (0,.slice none 0 0,[]) (aa2 cl2) (Sc.sl (xU _ _)) ⟨zW _,RowIs.nil _ _⟩ ?_;rintro⟨i,v,s⟩ ⟨hi,hrow⟩;simp only at hi hrow ⊢;by_cases hil:i<l.length
     ·obtain⟨r,hr⟩:∃ r,l[i]?=some r:=⟨_,zD hil⟩
      have hh:(aq2 x w k q.cond)[((i:Nat):Int).toNat]?=some (holdV x w k r q.cond):=by unfold aq2;rw [aa8 hl,Int.toNat_natCast,zP,hr];rfl
      have hsn:=aG8 (x:=x) (w:=w) (k:=k) (q:=q) hr;rw [if_pos hop] at hsn;have hlt:=ay6 x w k q (l.take i);rw [zR] at hlt;obtain⟨b5,cap5,cs5,rfl,rfl,hc5,_⟩:=al9 h1r (i:=i) (b:=1) (by rw [wF,if_pos hil]);rw [zY] at *
      cases hv:holdV x w k r q.cond with
      | false=>
       rw [hv] at hh hsn
       repeat' first|refine sq3 ?_|intro b;conv=>whnf|(with_reducible refine Br.f (yE (fun h=>h rfl)) ?_)
       exact⟨(i+1,v,s),(aa2 cl2),Sc.refl _,⟨by simp only;omega,by rw [hsn];simpa using hrow⟩,by simp only;omega⟩
      | true=>
       rw [hv] at hh hsn
       repeat' first|refine sq3 ?_|intro b;conv=>whnf|(with_reducible refine Br.f (yE (fun h=>h rfl)) ?_)
       refine Ld.cellm (tb:=3) (cs:=cs5) (by simp) (by rw [ix1];exact hc5) ?_
       repeat' first|refine sq3 ?_|intro b;conv=>whnf|(with_reducible refine Br.f (yE (fun h=>h rfl)) ?_)
       refine Ap.go rfl rfl rfl rfl hrow (zH _) rfl (zs:=(ai0 x w k q (l.take (i+1))).map fun b=>[iD b]) (by rw [hsn];simp) (by rw [hsn];simp;omega) (by rw [hsn];simp;omega) (fun s'=>s'++_) (fun s'=>zH _) (fun a3 c3 s3 h3=>?_)
       repeat' first|refine sq3 ?_|intro b;conv=>whnf|(with_reducible refine Br.f (yE (fun h=>h rfl)) ?_)
       exact⟨(i+1,_,s3),(aa2 cl2),Sc.refl _,⟨by simp only;omega,h3⟩,by simp only;omega⟩
     ·obtain rfl:i=l.length:=by omega
      rw [yM] at hrow;have hin:=aW1 hfit (by omega) (q:=q) hl1 hl;have hln:=ay6 x w k q l;generalize ai0 x w k q l=L at *
      repeat' first|refine sq4 ?_|intro b;conv=>whnf|(with_reducible refine Br.f (yE (fun h=>h rfl)) ?_)
      refine Bc.j ?_;refine aj5 (i:=15) (d:=.v v) (d':=slI L) rfl (fun h=>by cases h) (Vs.row hrow (show List.Perm (s++_) (s++_) from zH _)) ?_;refine ar5 mixed aa0 ?_;have h01:q.op=0\/q.op=1:=.inl hop;have hA':am6 q L=(L.sum,true):=by unfold am6;rw [if_pos h01]
      rw [hA'];have hb:∀ j,(L.take j).length<=1000/\(-1099511627776*((L.take j).length:Int)<=(L.take j).sum/\(L.take j).sum<=1099511627776*((L.take j).length:Int)):=fun j=>⟨by rw [zR];omega,bB2 fun z hz=>hin z (xG hz)⟩
      repeat' first|refine sq3 ?_|intro b;conv=>whnf|(with_reducible refine Br.f (yE (fun h=>h rfl)) ?_)
      refine aa5 mixed aa0 (γ:=Nat) (fun j=>[(18,iD (L.take j).sum),(87,iD j)]) (fun _=>[]) (fun j=>j<=L.length) (fun j=>L.length-j) 0 (aa2 cl2) (Sc.sl (yV _)) (zW _) ?_;intro j hj;simp only at hj ⊢;by_cases hjl:j<L.length
      ·obtain⟨y,hy⟩:∃ y,L[j]?=some y:=⟨_,zD hjl⟩
       have hy':L[((j:Nat):Int).toNat]?=some y:=hy;have e:=aX0 hy;have hy2:=hin y (zG hy);obtain⟨q1,q2,q3⟩:=hb j
       repeat' first|refine sq3 ?_|intro b;conv=>whnf|(with_reducible refine Br.f (yE (fun h=>h rfl)) ?_)
       exact⟨j+1,by rw [e];exact (aa2 cl4),Sc.refl _,by omega,by omega⟩
      ·obtain rfl:j=L.length:=by omega
       rw [yM]
       repeat' first|refine sq3 ?_|intro b;conv=>whnf|(with_reducible refine Br.f (yE (fun h=>h rfl)) ?_)
       exact Rt.pure rfl
    ·have hpb:am2 q.path=true:=by
      unfold as1 at h2;simp only [zJ,xO,zQ] at h2;rcases h2.1.1 with ⟨_,h⟩|⟨h,_⟩
      ·exact h
      ·exact absurd h hop
     have HE:=bc3 x w hw hp hfit k (by omega) q.path hpb hl1 bm G hG
     repeat' first|refine sq3 ?_|intro b;conv=>whnf|(with_reducible refine Br.f (yE (fun h=>h rfl)) ?_)
     refine pA6 HE (yT (l₁:=s1) (l₂:=[_])) (fun s'=>s'++s1) (fun s'=>zH _) ?_;rintro _ _ ⟨G2,rfl,rfl,hG2⟩
     repeat' first|refine sq3 ?_|intro b;conv=>whnf|(with_reducible refine Br.f (yE (fun h=>h rfl)) ?_)
     refine aa5 mixed aa0 (γ:=Nat × Value × aa1) (fun g=>[(15,.v g.2.1),(62,iD g.1)]) (fun g=>g.2.2) (fun g=>g.1<=l.length/\RowR 3 iD (ai0 x w k q (l.take g.1)) g.2.1 g.2.2) (fun g=>l.length-g.1) (0,.slice none 0 0,[]) (aa2 cl2) (Sc.sl (yV _)) ⟨zW _,RowIs.nil _ _⟩ ?_;rintro⟨i,v,s⟩ ⟨hi,hrow⟩;simp only at hi hrow ⊢;by_cases hil:i<l.length
     ·obtain⟨r,hr⟩:∃ r,l[i]?=some r:=⟨_,zD hil⟩
      have hh:(aq2 x w k q.cond)[((i:Nat):Int).toNat]?=some (holdV x w k r q.cond):=by unfold aq2;rw [aa8 hl,Int.toNat_natCast,zP,hr];rfl
      have he:(endL x w k q.path)[((i:Nat):Int).toNat]?=some (endV x w k r q.path):=by unfold endL;rw [aa8 hl,Int.toNat_natCast,zP,hr];rfl
      have hsn:=aG8 (x:=x) (w:=w) (k:=k) (q:=q) hr;rw [if_neg hop] at hsn;have hlt:=ay6 x w k q (l.take i);rw [zR] at hlt
      cases hv:holdV x w k r q.cond with
      | false=>
       rw [hv] at hh hsn
       repeat' first|refine sq3 ?_|intro b;conv=>whnf|(with_reducible refine Br.f (yE (fun h=>h rfl)) ?_)
       exact⟨(i+1,v,s),(aa2 cl2),Sc.refl _,⟨by simp only;omega,by rw [hsn];simpa using hrow⟩,by simp only;omega⟩
      | true=>
       rw [hv] at hh hsn
       repeat' first|refine sq3 ?_|intro b;conv=>whnf|(with_reducible refine Br.f (yE (fun h=>h rfl)) ?_)
       refine Ap.go rfl rfl rfl rfl hrow (by simp:s.Perm (s++[])) rfl (zs:=(ai0 x w k q (l.take (i+1))).map fun b=>[iD b]) (by rw [hsn];simp) (by rw [hsn];simp;omega) (by rw [hsn];simp;omega) (fun s'=>s') (fun s'=>by simp) (fun a3 c3 s3 h3=>?_)
       repeat' first|refine sq3 ?_|intro b;conv=>whnf|(with_reducible refine Br.f (yE (fun h=>h rfl)) ?_)
       exact⟨(i+1,_,s3),(aa2 cl2),Sc.refl _,⟨by simp only;omega,h3⟩,by simp only;omega⟩
     ·obtain rfl:i=l.length:=by omega
      rw [yM] at hrow;have hin:=aW1 hfit (by omega) (q:=q) hl1 hl;have hln:=ay6 x w k q l;generalize ai0 x w k q l=L at *
      repeat' first|refine sq4 ?_|intro b;conv=>whnf|(with_reducible refine Br.f (yE (fun h=>h rfl)) ?_)
      refine Bc.j ?_;refine aj5 (i:=15) (d:=.v v) (d':=slI L) rfl (fun h=>by cases h) (Vs.row hrow (by simp:s.Perm (s++[]))) ?_;refine ar5 mixed aa0 ?_;by_cases h01:q.op=0\/q.op=1
      ·have hA':am6 q L=(L.sum,true):=by unfold am6;rw [if_pos h01]
       rw [hA'];have hb:∀ j,(L.take j).length<=1000/\(-1099511627776*((L.take j).length:Int)<=(L.take j).sum/\(L.take j).sum<=1099511627776*((L.take j).length:Int)):=fun j=>⟨by rw [zR];omega,bB2 fun z hz=>hin z (xG hz)⟩
       repeat' first|refine sq3 ?_|intro b;conv=>whnf|(with_reducible refine Br.f (yE (fun h=>h rfl)) ?_)
       refine aa5 mixed aa0 (γ:=Nat) (fun j=>[(18,iD (L.take j).sum),(87,iD j)]) (fun _=>[]) (fun j=>j<=L.length) (fun j=>L.length-j) 0 (aa2 cl2) (Sc.sl (yV _)) (zW _) ?_;intro j hj;simp only at hj ⊢;by_cases hjl:j<L.length
       ·obtain⟨y,hy⟩:∃ y,L[j]?=some y:=⟨_,zD hjl⟩
        have hy':L[((j:Nat):Int).toNat]?=some y:=hy;have e:=aX0 hy;have hy2:=hin y (zG hy);obtain⟨q1,q2,q3⟩:=hb j
        repeat' first|refine sq3 ?_|intro b;conv=>whnf|(with_reducible refine Br.f (yE (fun h=>h rfl)) ?_)
        exact⟨j+1,by rw [e];exact (aa2 cl4),Sc.refl _,by omega,by omega⟩
       ·obtain rfl:j=L.length:=by omega
        rw [yM]
        repeat' first|refine sq3 ?_|intro b;conv=>whnf|(with_reducible refine Br.f (yE (fun h=>h rfl)) ?_)
        exact Rt.pure rfl
      ·have h23:q.op=2\/q.op=3:=by
        unfold as1 aa3 at h2;simp only [zJ,xO,zQ] at h2;omega
       by_cases hL:L=[]
       ·have hA':am6 q L=(0,false):=by unfold am6;rw [if_neg h01,if_pos hL]
        rw [hA'];subst hL
        repeat' first|refine sq3 ?_|intro b;conv=>whnf|(with_reducible refine Br.f (yE (fun h=>h rfl)) ?_)
        exact Rt.pure rfl
       ·have hL1:0<L.length:=xS.2 hL;rcases h23 with h0|h0
        ·have hA':am6 q L=(L.foldl min (L.headD 0),true):=by unfold am6;rw [if_neg h01,if_neg hL,if_pos h0]
         rw [hA']
         repeat' first|refine sq3 ?_|intro b;conv=>whnf|(with_reducible refine Br.f (yE (fun h=>h rfl)) ?_)
         exact Rt.pure rfl
        ·have hA':am6 q L=(L.foldl max (L.headD 0),true):=by unfold am6;rw [if_neg h01,if_neg hL,if_neg (by omega)]
         rw [hA']
         repeat' first|refine sq3 ?_|intro b;conv=>whnf|(with_reducible refine Br.f (yE (fun h=>h rfl)) ?_)
         exact Rt.pure rfl
   ·omega
end
section
open Go
def aC1 (w:Wd):List (Int × Int)->Int->Int->Int × Bool
 | [],_,_=>(0,false)
 | (f,m)::rest,k,i=>if m<0 then (valI w k i f,false) else if valI w k i f<0\/cntI w m<=valI w k i f then (0,true) else aC1 w rest m (valI w k i f)
def ao2 (x:Sch) (w:Wd) (k:Nat) (i:Int) (p:List ByteArray):Int × Bool:=aC1 w (if af4 x k p then ar8 x k p else []) k i
def holdQ (x:Sch) (w:Wd) (k:Nat) (i:Int):Cnd->Bool × Bool
 | .c0 o p q n=>if o=1\/o=2 then cmp o p q n else (true,false)
 | .c1 o p q n a=>if o=1\/o=2 then ((cmp o p q n).1,(holdQ x w k i a).2||(cmp o p q n).2) else if o=3 then (!(holdQ x w k i a).1,(holdQ x w k i a).2) else (true,(holdQ x w k i a).2)
 | .c2 o p q n a b=>if o=1\/o=2 then ((cmp o p q n).1,(holdQ x w k i a).2||(holdQ x w k i b).2||(cmp o p q n).2) else if o=3 then (!(holdQ x w k i a).1,(holdQ x w k i a).2||(holdQ x w k i b).2) else if o=4 then ((holdQ x w k i a).1&&(holdQ x w k i b).1,(holdQ x w k i a).2||(holdQ x w k i b).2) else if o=5 then ((holdQ x w k i a).1||(holdQ x w k i b).1,(holdQ x w k i a).2||(holdQ x w k i b).2) else (true,(holdQ x w k i a).2||(holdQ x w k i b).2)
where
 cmp (o:Int) (p q:List ByteArray) (n:Int):Bool × Bool:=
  let r:=if q=[] then (n,false) else (n+(ao2 x w k i q).1,(ao2 x w k i q).2)
  (if o=1 then decide ((ao2 x w k i p).1=r.1) else decide ((ao2 x w k i p).1<r.1),(ao2 x w k i p).2||r.2)
theorem bm9 {x:Sch} {w:Wd} (hfit:fitW x w=true):∀ (p:List ByteArray) (k:Nat),k<x.kz.length->af4 x k p=true->p≠[]->∀ l,w[k]?=some l->∀ (i:Nat) r,l[i]?=some r->aC1 w (ar8 x k p) k i=(endV x w k r p,false)
 | [],k,hk,h,hne,l,hl,i,r,hr=>absurd rfl hne
 | [s],k,hk,h,_,l,hl,i,r,hr=>by
  have h1:0<=aa4 (kdOf x k) s:=by simpa [af4] using h
  rw [ar8,aC1,if_pos (by decide)];unfold valI endV vatR;rw [if_neg (by omega),Int.toNat_natCast,Int.toNat_natCast,av3 hl,av3 hr]
 | s::t::p,k,hk,h,_,l,hl,i,r,hr=>by
  obtain⟨hlen,hrows,hrefs⟩:=an0 hfit;obtain⟨q,f,nm,g,H⟩:=aM7 x w (s::t::p) k hk h 0 (by simp);have hv:=H.val r;have hq:q=k:=by have:=H.way;simp [wayE] at this;exact this.1.symm
  have hnm:s=nm:=by have:=H.name;simpa using this
  subst hq hnm;obtain⟨u,f',h1,h2,h3,h4⟩:=H.next (by simp)
  have h5:=av0 H.kind ((ao3 (hrows _ _ hl)).2 r (zG hr));have hf:=(zE.1 H.fld).1;obtain⟨z,hz⟩:∃ z,r[f]?=some z:=⟨_,zD (by omega)⟩
  obtain⟨lu,hlu⟩:∃ l,w[u]?=some l:=⟨_,zD (by omega)⟩
  have hok:=hrefs _ (aH2 H.kind H.fld h2) l hl r (zG hr);unfold refOk at hok;simp only [h3,Int.toNat_natCast] at hok;rw [aa8 hlu,aa8 hz] at hok;simp only [xJ,wA,xF] at hok;rw [h1,aa8 hz] at hv;simp only [List.drop_zero] at hv;obtain⟨r2,hr2⟩:∃ r2,lu[z.toNat]?=some r2:=⟨_,zD (by omega)⟩
  have hrec:aC8 w u z.toNat=r2:=by unfold aC8;rw [aa8 hlu,aa8 hr2]
  rw [hrec] at hv;rw [hv];simp only [af4,zJ,zQ] at h;have hn:ak2 x q s=u:=by rw [aw0 H.kind H.ix H.fld,if_pos h2,h3]
  rw [hn,Int.toNat_natCast] at h;have ih:=bm9 hfit (t::p) u h4 h.2 (by simp) lu hlu z.toNat r2 hr2;rw [xX (by omega)] at ih;have hvi:valI w q i (aa4 (kdOf x q) s)=z:=by
   unfold valI;rw [H.ix,if_neg (by omega),Int.toNat_natCast,Int.toNat_natCast,Int.toNat_natCast,av3 hl,av3 hr,av3 hz]
  have hci:cntI w (u:Int)=lu.length:=by
   unfold cntI;rw [if_neg (by omega),Int.toNat_natCast,av3 hlu]
  rw [ar8,aC1,hn,if_neg (by omega),hvi,hci,if_neg (by omega),Int.toNat_natCast];exact ih
theorem aX4 {x:Sch} {w:Wd} (hfit:fitW x w=true) {p:List ByteArray} {k:Nat} (hk:k<x.kz.length) (h:af4 x k p=true) (hne:p≠[]) {l:List (List Int)} (hl:w[k]?=some l) {i:Nat} {r:List Int} (hr:l[i]?=some r):ao2 x w k i p=(endV x w k r p,false):=by
 unfold ao2;rw [if_pos h];exact bm9 hfit p k hk h hne l hl i r hr
theorem bj8 {p:List ByteArray} (h:am2 p=true):p≠[]:=by
 unfold am2 at h;simp only [zJ,zQ] at h;intro e;subst e;simp at h
theorem bl8 {x:Sch} {w:Wd} (hfit:fitW x w=true) {k:Nat} (hk:k<x.kz.length) {l:List (List Int)} (hl:w[k]?=some l) {i:Nat} {r:List Int} (hr:l[i]?=some r) {o:Int} {p q:List ByteArray} {n:Int} (ho:o=1\/o=2) (hp:am2 p=true) (hq:q=[]\/am2 q=true) (h1:af4 x k p=true) (h2:af4 x k q=true) :
  holdQ.cmp x w k i o p q n=(if o=1 then decide (endV x w k r p=(if q=[] then 0 else endV x w k r q)+n) else decide (endV x w k r p<(if q=[] then 0 else endV x w k r q)+n),false):=by
 unfold holdQ.cmp;rw [aX4 hfit hk h1 (bj8 hp) hl hr];by_cases hqe:q=[]
 ·simp only [if_pos hqe,Bool.or_false,Int.zero_add]
 ·have hq2:am2 q=true:=hq.resolve_left hqe;rw [aX4 hfit hk h2 (bj8 hq2) hl hr];simp only [if_neg hqe,Bool.or_false];rw [Int.add_comm n]
theorem aB0 {c:Cnd} (h:aK6 c=true) (ho:c.op=1\/c.op=2):am2 c.path=true/\(c.other=[]\/am2 c.other=true) /\ -1048576<=c.n/\c.n<=1048576:=by
 unfold aK6 aa3 at h;rw [if_pos ho] at h;simp only [zJ,xO,zQ,vE] at h;exact⟨h.1.1,h.1.2,h.2⟩
theorem aL7 {x:Sch} {w:Wd} (hfit:fitW x w=true) {k:Nat} (hk:k<x.kz.length) {l:List (List Int)} (hl:w[k]?=some l) {i:Nat} {r:List Int} (hr:l[i]?=some r):∀ c:Cnd,formedB c=true->leadsB x k c=true->holdQ x w k i c=(holdV x w k r c,false)
 | .c0 o p q n,hf,hd=>by
  simp only [formedB,leadsB,zJ] at hf hd;unfold holdQ holdV;by_cases ho:o=1\/o=2
  ·obtain⟨g1,g2,_⟩:=aB0 (c:=.c0 o p q n) hf.2 ho;rw [if_pos ho,bl8 (p:=p) (q:=q) hfit hk hl hr ho g1 g2 hd.1 hd.2];rcases ho with h|h<;>simp [h]
  ·rw [if_neg ho,if_neg (show ¬ o=1 by omega),if_neg (show ¬ o=2 by omega)]
 | .c1 o p q n a,hf,hd=>by
  simp only [formedB,leadsB,zJ] at hf hd;have ia:=aL7 hfit hk hl hr a hf.1.2 hd.2;unfold holdQ holdV;rw [ia];by_cases ho:o=1\/o=2
  ·obtain⟨g1,g2,_⟩:=aB0 (c:=.c1 o p q n a) hf.2 ho;rw [if_pos ho,bl8 (p:=p) (q:=q) hfit hk hl hr ho g1 g2 hd.1.1 hd.1.2];rcases ho with h|h<;>simp [h]
  ·rw [if_neg ho,if_neg (show ¬ o=1 by omega),if_neg (show ¬ o=2 by omega)];by_cases h3:o=3<;>simp [h3]
 | .c2 o p q n a b,hf,hd=>by
  simp only [formedB,leadsB,zJ] at hf hd;have ia:=aL7 hfit hk hl hr a hf.1.2.1 hd.2.1;have ib:=aL7 hfit hk hl hr b hf.1.2.2 hd.2.2;unfold holdQ holdV;rw [ia,ib];by_cases ho:o=1\/o=2
  ·obtain⟨g1,g2,_⟩:=aB0 (c:=.c2 o p q n a b) hf.2 ho;rw [if_pos ho,bl8 (p:=p) (q:=q) hfit hk hl hr ho g1 g2 hd.1.1 hd.1.2];rcases ho with h|h<;>simp [h]
  ·rw [if_neg ho,if_neg (show ¬ o=1 by omega),if_neg (show ¬ o=2 by omega)];by_cases h3:o=3
   ·simp [h3]
   ·by_cases h4:o=4
    ·simp [h4]
    ·by_cases h5:o=5<;>simp [h3,h4,h5]
end
section
open Go Go.Maps Go.MapKept
abbrev askB (b:Nat) (x:Sch) (w:Wd) (bad:Bool):Nat × Blk:=(b,.cells 158 [iD x.vz,slK x.kz,slL x.lz,slR x.rules,.ifc 76 (srcD w),bD bad])
theorem sk134 {A B:Prop} (k:B) (h:Hd7 B->A:=by intro q7;(first|refine sb0 ?_|refine sb1 ?_|(refine' cp7x ?hc ?_;(case hc=>exact HQ)));exact q7.1):A:=h ⟨k⟩
theorem bj5 (x:Sch) (w:Wd) (hw1:w.length<=1000000) (hw2:∀ l∈w,l.length<=1000000/\∀ r∈l,r.length<=1000000) (hnk:x.kz.length<=1000000) (hnf:∀ k∈x.kz,k.fields.length<=1000000) (ba:Nat) (k:Nat) (hk:k<x.kz.length) (i:Int) (p:List ByteArray) (hpl:p.length<=1000000) (bad:Bool) :
  ACall prog 74 [.v (.pointer (some ⟨ba,0,none⟩)),iD k,iD i,slS p] [askB ba x w bad] (fun d σ=>d=iD (ao2 x w k i p).1/\σ=[askB ba x w (bad||(ao2 x w k i p).2)]):=by
 have hw3:∀ l∈w,l.length<=1000000:=fun l hl=>(hw2 l hl).1;have HQ:=aZ6 x k p hk hpl hnk hnf;have hsl:=aT2 x k p;unfold ao2
 cases hld:af4 x k p with
 | false=>
  rw [hld] at HQ;refine eC7 func74 ntmps74 fun BB=>?_
  repeat' first|refine sk134 ?_|intro b;conv=>whnf|((with_reducible refine' Ot.yd ?hydn ?_);(case hydn=>first|exact af2 rfl rfl az4 (ay9 w _ _ _ hw1 hw2)|exact af2 rfl rfl ae6 (ae4 w _ hw1 hw3)))
  refine aa5 mixed aa0 (γ:=Unit) (fun _=>[(26,iD 0)]) (fun _=>[askB ba x w bad]) (fun _=>True) (fun _=>0) () (aa2 cl2) (Sc.refl _) trivial ?_;rintro - -
  repeat' first|refine sk134 ?_|intro b;conv=>whnf|((with_reducible refine' Ot.yd ?hydn ?_);(case hydn=>first|exact af2 rfl rfl az4 (ay9 w _ _ _ hw1 hw2)|exact af2 rfl rfl ae6 (ae4 w _ hw1 hw3)))
  exact Rt.same ⟨rfl,by rw [if_neg (by decide)];simp [aC1]⟩
 | true=>
  rw [hld] at HQ;rw [if_pos rfl];rw [if_pos rfl] at HQ;generalize ar8 x k p=L at *;refine eC7 func74 ntmps74 fun BB=>?_
  repeat' first|refine sk134 ?_|intro b;conv=>whnf|((with_reducible refine' Ot.yd ?hydn ?_);(case hydn=>first|exact af2 rfl rfl az4 (ay9 w _ _ _ hw1 hw2)|exact af2 rfl rfl ae6 (ae4 w _ hw1 hw3)))
  refine aa5 mixed aa0 (γ:=Nat × Int × Int) (fun g=>[(26,iD g.1),(1,iD g.2.1),(2,iD g.2.2)]) (fun _=>[askB ba x w bad]) (fun g=>g.1<=L.length/\aC1 w (L.drop g.1) g.2.1 g.2.2=aC1 w L k i) (fun g=>L.length-g.1) (0,(k:Int),i) (aa2 cl2) (Sc.refl _) ⟨zW _,rfl⟩ ?_;rintro⟨j,k2,i2⟩ ⟨hj,hwk⟩;simp only at hj hwk ⊢;by_cases hjl:j<L.length
  ·obtain⟨⟨f,m⟩,hy⟩:∃ y,L[j]?=some y:=⟨_,zD hjl⟩
   have hy':L[((j:Nat):Int).toNat]?=some (f,m):=hy;have hdr:L.drop j=(f,m)::L.drop (j+1):=by
    rw [vG hjl]
    congr 1
    exact (zE.1 hy).2
   rw [hdr,aC1] at hwk;by_cases hm:m<0
   ·rw [if_pos hm] at hwk;rw [← hwk]
    repeat' first|refine sk134 ?_|intro b;conv=>whnf|((with_reducible refine' Ot.yd ?hydn ?_);(case hydn=>first|exact af2 rfl rfl az4 (ay9 w _ _ _ hw1 hw2)|exact af2 rfl rfl ae6 (ae4 w _ hw1 hw3)))
    exact Rt.by (Vs.drop (yG _ _)) ⟨rfl,by simp⟩
   ·rw [if_neg hm] at hwk;by_cases hv0:valI w k2 i2 f<0
    ·rw [if_pos (.inl hv0)] at hwk;rw [← hwk]
     repeat' first|refine sk134 ?_|intro b;conv=>whnf|((with_reducible refine' Ot.yd ?hydn ?_);(case hydn=>first|exact af2 rfl rfl az4 (ay9 w _ _ _ hw1 hw2)|exact af2 rfl rfl ae6 (ae4 w _ hw1 hw3)))
     exact Rt.by (Vs.drop (yG _ _)) ⟨rfl,by simp⟩
    ·by_cases hv1:cntI w m<=valI w k2 i2 f
     ·rw [if_pos (.inr hv1)] at hwk;rw [← hwk]
      repeat' first|refine sk134 ?_|intro b;conv=>whnf|((with_reducible refine' Ot.yd ?hydn ?_);(case hydn=>first|exact af2 rfl rfl az4 (ay9 w _ _ _ hw1 hw2)|exact af2 rfl rfl ae6 (ae4 w _ hw1 hw3)))
      exact Rt.by (Vs.drop (yG _ _)) ⟨rfl,by simp⟩
     ·rw [if_neg (by omega)] at hwk
      repeat' first|refine sk134 ?_|intro b;conv=>whnf|((with_reducible refine' Ot.yd ?hydn ?_);(case hydn=>first|exact af2 rfl rfl az4 (ay9 w _ _ _ hw1 hw2)|exact af2 rfl rfl ae6 (ae4 w _ hw1 hw3)))
      exact⟨(j+1,m,valI w k2 i2 f),(aa2 cl4),Sc.sl (yG _ _),⟨by simp only;omega,hwk⟩,by simp only;omega⟩
  ·obtain rfl:j=L.length:=by omega
   rw [List.drop_length,aC1] at hwk;rw [← hwk]
   repeat' first|refine sk134 ?_|intro b;conv=>whnf|((with_reducible refine' Ot.yd ?hydn ?_);(case hydn=>first|exact af2 rfl rfl az4 (ay9 w _ _ _ hw1 hw2)|exact af2 rfl rfl ae6 (ae4 w _ hw1 hw3)))
   exact Rt.same ⟨rfl,by simp⟩
end
section
open Go Go.Maps Go.MapKept
structure Wv (w:Wd):Prop where
 ct:w.length<=1000000
 row:∀ l∈w,l.length<=1000000/\∀ r∈l,r.length<=1000000
 v:∀ l∈w,∀ r∈l,∀ n∈r,-1099511627776<=n/\n<=1099511627776
theorem bZ6 {w:Wd} (h:Wv w) (k i f:Int):-1099511627776<=valI w k i f/\valI w k i f<=1099511627776:=by
 unfold valI;split
 ·omega
 ·rw [List.getD_eq_getElem?_getD (l:=w),List.getD_eq_getElem?_getD,List.getD_eq_getElem?_getD]
  cases h1:w[k.toNat]? with
  | none=>simp
  | some l=>
   simp only [Option.getD_some]
   cases h2:l[i.toNat]? with
   | none=>simp
   | some r=>
    simp only [Option.getD_some]
    cases h3:r[f.toNat]? with
    | none=>simp
    | some n=>exact h.v l (zG h1) r (zG h2) n (zG h3)
theorem bz2 {w:Wd} (h:Wv w):∀ (L:List (Int × Int)) (k i:Int),-1099511627776<=(aC1 w L k i).1/\(aC1 w L k i).1<=1099511627776
 | [],_,_=>by simp [aC1]
 | (f,m)::L,k,i=>by
  rw [aC1];split
  ·exact bZ6 h k i f
  ·split
   ·simp
   ·exact bz2 h L m _
theorem bj0 {x:Sch} {w:Wd} (h:Wv w) (k:Nat) (i:Int) (p:List ByteArray):-1099511627776<=(ao2 x w k i p).1/\(ao2 x w k i p).1<=1099511627776:=bz2 h _ _ _
theorem r_is (a b:Int):APure prog 137 [iD a,iD b] (bD (decide (a=b))):=by
 refine eP7 func137 ntmps137 fun BB=>?_
 repeat' first|refine sk2 ?_|intro b;conv=>whnf
 exact Rt.pure rfl
theorem cc1 (a b:Int):APure prog 138 [iD a,iD b] (bD (decide (a<b))):=by
 refine eP7 func138 ntmps138 fun BB=>?_
 repeat' first|refine sk2 ?_|intro b;conv=>whnf
 exact Rt.pure rfl
theorem sk135 {A B:Prop} (k:B) (h:Hd7 B->A:=by intro q7;(first|refine sb0 ?_|refine sb67 ?_|(refine' cp7x ?hc ?_;(case hc=>exact HF _ _)));exact q7.1):A:=h ⟨k⟩
theorem bc7 (x:Sch) (w:Wd) (hw:Wv w) (hnk:x.kz.length<=1000000) (hnf:∀ k∈x.kz,k.fields.length<=1000000) (ba:Nat) (k:Nat) (hk:k<x.kz.length) (i:Int) (c:Cnd) (hp1:c.path.length<=1000000) (hp2:c.other.length<=1000000) (hn:-1048576<=c.n/\c.n<=1048576) (bad:Bool) (F:FuncId) (R:Int->Int->Bool) (HF:∀ a b,APure prog F [iD a,iD b] (bD (R a b))) :
  ACall prog 136 [.v (.func (.func F) #[] #[]),.ro [.v (.pointer (some ⟨ba,0,none⟩))],.ro [iD k],.ro [iD i],.ro (cndC c)] [askB ba x w bad] (fun d σ=>d=bD (R (ao2 x w k i c.path).1 (if c.other=[] then c.n else c.n+(ao2 x w k i c.other).1))/\σ=[askB ba x w (bad||((ao2 x w k i c.path).2||(if c.other=[] then false else (ao2 x w k i c.other).2)))]):=by
 have hb1:=bj0 (x:=x) hw k i c.path;have hb2:=bj0 (x:=x) hw k i c.other;have HV:=bj5 x w hw.ct hw.row hnk hnf ba k hk i c.path hp1 bad;have HV2:=bj5 x w hw.ct hw.row hnk hnf ba k hk i c.other hp2 (bad||(ao2 x w k i c.path).2);refine eC7 func136 ntmps136 fun BB=>?_
 repeat' first|refine sk135 ?_|intro b;conv=>whnf
 (refine Dr.r ?_;refine W.mk ?_)
 refine ak3 mixed aa0 rfl [0,1,2,3,4,6,7] 3 (inE [5]) (.one 5 (.fst 8 (.fst 9 .done))) (γ:=Unit) (fun _=>[(7,iD (ao2 x w k i c.path).1),(8,iD c.n)]) (fun _=>[askB ba x w (bad||(ao2 x w k i c.path).2)]) (fun _=>True) (by decide +kernel) ?_ ?_
 ·repeat' first|refine sk135 ?_|intro b;conv=>whnf|(refine And.intro ?_ ?_<;>(conv=>whnf))|(refine pA6 HV (zH ([askB ba x w _]++[])) (fun s'=>s'++[]) (fun s'=>zH _) ?_;(rintro _ _ ⟨rfl,rfl⟩))
  exact⟨(),(aa2 cl2),Sc.refl _,trivial⟩
 ·rintro - -;by_cases he:c.other=[]
  ·have hol:c.other.length=0:=by rw [he];rfl
   rw [if_pos he,if_pos he]
   repeat' first|refine sk135 ?_|intro b;conv=>whnf
   exact Rt.same ⟨rfl,by simp⟩
  ·have hol:0<c.other.length:=xS.2 he;rw [if_neg he,if_neg he]
   repeat' first|refine sk135 ?_|intro b;conv=>whnf
   (refine pA6 HV2 (zH ([askB ba x w _]++[])) (fun s'=>s'++[]) (fun s'=>zH _) ?_;(rintro _ _ ⟨rfl,rfl⟩))
   repeat' first|refine sk135 ?_|intro b;conv=>whnf
   exact Rt.same ⟨rfl,by simp [Bool.or_assoc]⟩
end
section
open Go Go.Maps Go.MapKept
theorem ct9 (x:Sch) (w:Wd) (k:Nat) (i o:Int) (p q:List ByteArray) (n:Int):holdQ.cmp x w k i o p q n=(if o=1 then decide ((ao2 x w k i p).1=(if q=[] then n else n+(ao2 x w k i q).1)) else decide ((ao2 x w k i p).1<(if q=[] then n else n+(ao2 x w k i q).1)),(ao2 x w k i p).2||(if q=[] then false else (ao2 x w k i q).2)):=by
 unfold holdQ.cmp;by_cases h:q=[]
 ·simp only [if_pos h]
 ·simp only [if_neg h]
theorem cx2 (x:Sch) (w:Wd) (k:Nat) (i:Int) {c:Cnd} (h:c.op=0) (hk:c.kids.length=0):c.kids=[]/\holdQ x w k i c=(true,false):=by
 cases c with
 | c0 o p q n=>
  have h':o=0:=h;exact⟨rfl,by unfold holdQ;rw [if_neg (by omega)]⟩
 | c1=>simp [Cnd.kids] at hk
 | c2=>simp [Cnd.kids] at hk
theorem cx1 (x:Sch) (w:Wd) (k:Nat) (i:Int) {c:Cnd} (h:c.op=3) (hk:c.kids.length=1):∃ a,c.kids=[a]/\holdQ x w k i c=(!(holdQ x w k i a).1,(holdQ x w k i a).2):=by
 cases c with
 | c0=>simp [Cnd.kids] at hk
 | c1 o p q n a=>
  have h':o=3:=h;exact⟨a,rfl,by rw [holdQ,if_neg (by omega),if_pos h']⟩
 | c2=>simp [Cnd.kids] at hk
theorem cx0 (x:Sch) (w:Wd) (k:Nat) (i:Int) {c:Cnd} (h:c.op=4) (hk:c.kids.length=2):∃ a b,c.kids=[a,b]/\holdQ x w k i c=((holdQ x w k i a).1&&(holdQ x w k i b).1,(holdQ x w k i a).2||(holdQ x w k i b).2):=by
 cases c with
 | c0=>simp [Cnd.kids] at hk
 | c1=>simp [Cnd.kids] at hk
 | c2 o p q n a b=>
  have h':o=4:=h;exact⟨a,b,rfl,by rw [holdQ,if_neg (by omega),if_neg (by omega),if_pos h']⟩
theorem cw9 (x:Sch) (w:Wd) (k:Nat) (i:Int) {c:Cnd} (h:c.op=5) (hk:c.kids.length=2):∃ a b,c.kids=[a,b]/\holdQ x w k i c=((holdQ x w k i a).1||(holdQ x w k i b).1,(holdQ x w k i a).2||(holdQ x w k i b).2):=by
 cases c with
 | c0=>simp [Cnd.kids] at hk
 | c1=>simp [Cnd.kids] at hk
 | c2 o p q n a b=>
  have h':o=5:=h;exact⟨a,b,rfl,by rw [holdQ,if_neg (by omega),if_neg (by omega),if_neg (by omega),if_pos h']⟩
theorem bC6 (x:Sch) (w:Wd) (hw:Wv w) (hnk:x.kz.length<=1000000) (hnf:∀ k∈x.kz,k.fields.length<=1000000) (ba:Nat) (k:Nat) (hk:k<x.kz.length) (i:Int):∀ (m:Nat) (c:Cnd),c.size<=m->formedB c=true->c.All CndS->∀ bad:Bool,
  ACall prog 73 [.v (.pointer (some ⟨ba,0,none⟩)),iD k,iD i,cndD c] [askB ba x w bad] (fun d σ=>d=bD (holdQ x w k i c).1/\σ=[askB ba x w (bad||(holdQ x w k i c).2)])
 | 0,c,h,_,_,_=>by rw [ai1] at h;omega
 | m+1,c,h,hfm,hA,bad=>by
  have hkl:=c.kids_len;have hfm2:=hfm;rw [aw3] at hfm;simp only [zJ,yA] at hfm;obtain⟨⟨hhead,hfk⟩,hform⟩:=hfm;obtain⟨⟨hI1,hI2⟩,hp1,hp2⟩:=hA.one;unfold cndD;have hcd:cndC c=[iD c.op,.sl 5 (c.kids.map cndC),slS c.path,slS c.other,iD c.n]:=by rw [← am9];rfl
  rw [hcd];refine eC7 func73 ntmps73 fun BB=>?_
  repeat' first|refine sk2 ?_|intro b;conv=>whnf
  refine aa5 mixed aa0 (γ:=Nat × Bool × Value × aa1) (fun g=>[(16,iD g.1),(9,.v g.2.2.1)]) (fun g=>askB ba x w g.2.1::g.2.2.2) (fun g=>g.1<=c.kids.length/\g.2.1=(bad||(c.kids.take g.1).any fun y=>(holdQ x w k i y).2)/\RowR 4 bD ((c.kids.take g.1).map fun y=>(holdQ x w k i y).1) g.2.2.1 g.2.2.2) (fun g=>c.kids.length-g.1) (0,bad,.slice none 0 0,[]) (aa2 cl2) (Sc.refl _) ⟨zW _,by simp,RowIs.nil _ _⟩ ?_;rintro⟨j,b1,v,s⟩ ⟨hj,hb1,hrow⟩;simp only at hj hb1 hrow ⊢;by_cases hjl:j<c.kids.length
  ·obtain⟨y,hy0⟩:∃ y,c.kids[j]?=some y:=⟨_,zD hjl⟩
   have hy:c.kids[((j:Nat):Int).toNat]?=some y:=hy0;have hym:=zG hy0;have HK:=bC6 x w hw hnk hnf ba k hk i m y (by have:=Cnd.kid_size hym;omega) (hfk y hym) (hA.kid hym) b1
   repeat' first|refine sk2 ?_|intro b;conv=>whnf
   (refine pA6 HK (show List.Perm (_::askB ba x w _::_) ([askB ba x w _]++(_::_)) from List.Perm.swap _ _ _) (fun s'=>s'++(_::_)) (fun s'=>zH _) ?_;(rintro _ _ ⟨rfl,rfl⟩))
   repeat' first|refine sk2 ?_|intro b;conv=>whnf
   refine Ap.go rfl rfl rfl rfl hrow (τ:=[askB ba x w (b1||(holdQ x w k i y).2),(b,.cells 51 (cndC y))]) (yT (l₁:=[_,_]) (l₂:=s)) rfl (zs:=((c.kids.take (j+1)).map fun y=>(holdQ x w k i y).1).map fun b=>[bD b]) (by rw [af7 hy0];simp) (by simp;omega) (by simp;omega) (fun s'=>[askB ba x w (b1||(holdQ x w k i y).2),(b,.cells 51 (cndC y))]++s') (fun s'=>yT (l₂:=[_,_])) (fun a2 c2 s2 hr2=>?_)
   repeat' first|refine sk2 ?_|intro b;conv=>whnf
   exact⟨(j+1,b1||(holdQ x w k i y).2,_,s2),(aa2 cl4),Sc.sl (.cons_cons _ (yG _ _)),⟨by simp only;omega,by simp only;rw [hb1,af7 hy0,List.any_append];simp [Bool.or_assoc],hr2⟩,by simp only;omega⟩
  ·obtain rfl:j=c.kids.length:=by omega
   rw [yM] at hb1 hrow;have hne:∀ p:List ByteArray,p.length<=1000->p.length<=1000000:=fun p h=>by omega
   unfold aK5 aa3 at hhead;simp only [zJ,zQ] at hhead;obtain⟨⟨ho1,ho2⟩,hkn⟩:=hhead;unfold az5 at hkn;by_cases h12:c.op=1\/c.op=2
   ·rw [if_neg (show ¬ c.op=3 by omega),if_neg (show ¬ (c.op=4\/c.op=5) by omega)] at hkn;obtain⟨g1,g2,g3,g4⟩:=aB0 hform h12;have hb2:b1=bad:=by
     have:c.kids=[]:=wX.1 (by omega);rw [hb1,this];simp
    have hcq:holdQ x w k i c=holdQ.cmp x w k i c.op c.path c.other c.n:=by
     cases c with
     | c0 o p q n=>
      have h13:o=1\/o=2:=h12;unfold holdQ;rw [if_pos h13];rfl
     | c1=>simp [Cnd.kids] at hkn
     | c2=>simp [Cnd.kids] at hkn
    subst hb2;rw [hcq,ct9];rcases h12 with h1|h1
    ·have HI:=bc7 x w hw hnk hnf ba k hk i c (hne _ hp1) (hne _ hp2) ⟨g3,g4⟩ b1 137 (fun a b=>decide (a=b)) r_is;rw [hcd] at HI;rw [if_pos h1]
     repeat' first|refine sk2 ?_|intro b;conv=>whnf
     refine pA6 HI (zH ([askB ba x w b1]++s)) (fun s'=>s'++s) (fun s'=>zH _) ?_;rintro _ _ ⟨rfl,rfl⟩
     repeat' first|refine sk2 ?_|intro b;conv=>whnf
     exact Rt.by (Vs.drop (xU _ _)) ⟨rfl,rfl⟩
    ·have HI:=bc7 x w hw hnk hnf ba k hk i c (hne _ hp1) (hne _ hp2) ⟨g3,g4⟩ b1 138 (fun a b=>decide (a<b)) cc1;rw [hcd] at HI;rw [if_neg (show ¬ c.op=1 by omega)]
     repeat' first|refine sk2 ?_|intro b;conv=>whnf
     refine pA6 HI (zH ([askB ba x w b1]++s)) (fun s'=>s'++s) (fun s'=>zH _) ?_;rintro _ _ ⟨rfl,rfl⟩
     repeat' first|refine sk2 ?_|intro b;conv=>whnf
     exact Rt.by (Vs.drop (xU _ _)) ⟨rfl,rfl⟩
   have hno:¬ c.op=1/\¬ c.op=2:=by omega
   by_cases hop3:c.op=3
   ·rw [if_pos hop3] at hkn;obtain⟨a,ha,hq⟩:=cx1 x w k i hop3 (by omega);rw [ha] at hrow hb1;rw [hq];have hb2:b1=(bad||(holdQ x w k i a).2):=by rw [hb1];simp
    subst hb2;obtain⟨b0,cap0,cs0,rfl,rfl,hc0,_⟩:=al9 hrow (i:=0) rfl
    repeat' first|refine sk2 ?_|intro b;conv=>whnf
    (refine Ld.cellm (tb:=4) (cs:=cs0) (by simp) hc0 ?_)
    repeat' first|refine sk2 ?_|intro b;conv=>whnf
    exact Rt.by (Vs.drop (xU [_] _)) ⟨rfl,rfl⟩
   by_cases hop4:c.op=4
   ·rw [if_neg hop3,if_pos (.inl hop4)] at hkn;obtain⟨a,a2,ha,hq⟩:=cx0 x w k i hop4 (by omega);rw [ha] at hrow hb1;rw [hq];have hb2:b1=(bad||((holdQ x w k i a).2||(holdQ x w k i a2).2)):=by rw [hb1];simp
    subst hb2;have hrow2:=hrow;obtain⟨b0,cap0,cs0,rfl,rfl,hc0,_⟩:=al9 hrow (i:=0) (b:=(holdQ x w k i a).1) rfl;obtain⟨_,_,_,e1,e2,hc1,_⟩:=al9 hrow2 (i:=1) (b:=(holdQ x w k i a2).1) rfl
    cases e2
    generalize (holdQ x w k i a).1=u1 at *;generalize (holdQ x w k i a2).1=u2 at *
    cases u1
    all_goals
     repeat' first|refine sk2 ?_|intro b;conv=>whnf
     (refine Ld.cellm (tb:=4) (cs:=cs0) (by simp) hc0 ?_)
     repeat' first|refine sk2 ?_|intro b;conv=>whnf
     try ((refine Ld.cellm (tb:=4) (cs:=cs0) (by simp) hc1 ?_))
     repeat' first|refine sk2 ?_|intro b;conv=>whnf
     exact Rt.by (Vs.drop (xU [_] _)) ⟨by simp,rfl⟩
   by_cases hop5:c.op=5
   ·rw [if_neg hop3,if_pos (.inr hop5)] at hkn;obtain⟨a,a2,ha,hq⟩:=cw9 x w k i hop5 (by omega);rw [ha] at hrow hb1;rw [hq];have hb2:b1=(bad||((holdQ x w k i a).2||(holdQ x w k i a2).2)):=by rw [hb1];simp
    subst hb2;have hrow2:=hrow;obtain⟨b0,cap0,cs0,rfl,rfl,hc0,_⟩:=al9 hrow (i:=0) (b:=(holdQ x w k i a).1) rfl;obtain⟨_,_,_,e1,e2,hc1,_⟩:=al9 hrow2 (i:=1) (b:=(holdQ x w k i a2).1) rfl
    cases e2
    generalize (holdQ x w k i a).1=u1 at *;generalize (holdQ x w k i a2).1=u2 at *
    cases u1
    all_goals
     repeat' first|refine sk2 ?_|intro b;conv=>whnf
     (refine Ld.cellm (tb:=4) (cs:=cs0) (by simp) hc0 ?_)
     repeat' first|refine sk2 ?_|intro b;conv=>whnf
     try ((refine Ld.cellm (tb:=4) (cs:=cs0) (by simp) hc1 ?_))
     repeat' first|refine sk2 ?_|intro b;conv=>whnf
     exact Rt.by (Vs.drop (xU [_] _)) ⟨by simp,rfl⟩
   have hop0:c.op=0:=by omega
   rw [if_neg hop3,if_neg (by omega)] at hkn;obtain⟨ha,hq⟩:=cx2 x w k i hop0 (by omega);rw [ha] at hb1;rw [hq];have hb2:b1=bad:=by rw [hb1];simp
   subst hb2
   repeat' first|refine sk2 ?_|intro b;conv=>whnf
   exact Rt.by (Vs.drop (xU [_] _)) ⟨rfl,by simp⟩
end
end Go.Proofs.YtlcfiilejnnlnaaGreatDoor
