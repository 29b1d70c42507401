/- A part of the proof: R09e R09f R09g Cg Ch. -/
import Derived.Test.YtjbbmjjildhfbaaGreatDoorW12
set_option maxRecDepth 100000
set_option maxHeartbeats 4000000
set_option linter.unusedVariables false
set_option linter.unusedSimpArgs false
namespace Go.Proofs.YtjbbmjjildhfbaaGreatDoor
section
open Go
structure aC1 (f:Fld):Prop where
 lo:-9223372036854775807≤f.lo∧f.lo≤9223372036854775807
 hi:-9223372036854775807≤f.hi∧f.hi≤9223372036854775807
 ws:∀ n∈f.weights,-9223372036854775807≤n∧n≤9223372036854775807
def sp:ByteArray:=⟨#[32]⟩
def aZ0 (out:ByteArray) (f:Fld):Nat→ByteArray
 | 0=>andS out f.words.length
 | q+1=>match f.words[q]?,f.weights[q]? with
  | some s,some n=>andS (aZ0 out f q ++ sp ++ s) n
  | _,_=>aZ0 out f q
def ar2 (f:Fld):ByteArray:=
 let o0:=(⟨#[10]⟩:ByteArray) ++ (aw4[f.kind.toNat]?).getD ⟨#[]⟩ ++ sp ++ f.name
 let o1:=if ad4 f.kind then o0 ++ sp ++ f.up else o0
 let o2:=if ad5 f.kind then o1 ++ sp ++ ax2 f.of else o1
 let o3:=if ad8 f.kind then andS o2 f.lo else o2
 let o4:=if ad6 f.kind then andS o3 f.hi else o3
 if ac1 f.kind then aZ0 o4 f f.words.length else o4
/-! Sizes of texts -/
theorem sz1 (c:UInt8):(⟨#[c]⟩:ByteArray).size≤1:=Nat.le_refl 1
theorem sz0:(⟨#[]⟩:ByteArray).size≤0:=Nat.le_refl 0
theorem szA {a b:ByteArray} {m n:Nat} (h:a.size≤m) (k:b.size≤n):(a ++ b).size≤m+n:=by rw [ByteArray.size_append];omega
theorem aN3 {s:ByteArray} {n:Int} {m:Nat} (h:s.size≤m) (k:-9223372036854775807≤n∧n≤9223372036854775807):(andS s n).size≤m+22:=by have:=aj2 (s:=s) k;have:=ae9 n;omega
theorem szN {s:ByteArray} {m:Nat} (h:s.size≤m):(ax2 s).size≤m+1:=by have:=ay6 s;omega
theorem szLe {s:ByteArray} {m M:Nat} (h:s.size≤m) (k:m≤M):s.size≤M:=Nat.le_trans h k
theorem szSum {a b:ByteArray} {m n M:Nat} (h:a.size≤m) (k:b.size≤n) (c:m+n≤M):a.size+b.size≤M:=by omega
theorem sb25 {A B:Prop} (k:B) (h:Hd7 B→A:=by intro hk7q;(first|((with_reducible refine W.mk ?_);(conv=>whnf))|(with_reducible refine Br.tt ?_)|(with_reducible refine Br.ff ?_)|(with_reducible refine Br.n ?_)|((with_reducible refine' Br.eq ?h ?_);(case h=>(simp only [List.length_map,List.length_take,List.length_append,List.length_cons,List.length_nil,List.length_replicate,Nat.reduceAdd];exact rfl)))|((with_reducible refine Sd.go ?s ?_);(case s=>first|trivial|(constructor <;> omega)|omega|assumption|(refine' szSum ?a ?b ?c;(case a=>repeat' (first|((show (_:Nat)≤_);assumption)|exact sz1 _|exact sz0|(refine' aN3 ?_ (by assumption))|refine' szN ?_|refine' szA ?_ ?_));(case b=>repeat' (first|((show (_:Nat)≤_);assumption)|exact sz1 _|exact sz0|(refine' aN3 ?_ (by assumption))|refine' szN ?_|refine' szA ?_ ?_));(case c=>first|decide|omega))))|((with_reducible refine Ck.go ?qs7 ?_);(case qs7=>kernel_rfl))|((with_reducible refine' Ix.mapAt ?hy ?h0 ?_);(case hy=>assumption);(case h0=>omega))|((with_reducible refine' Ix.at ?hy ?h0 ?_);(case hy=>exact rfl);(case h0=>omega))|((with_reducible refine Ix.mapM ?h0 ?_);(case h0=>first|omega|(simp only [List.length_map,List.length_take,List.length_append,List.length_cons,List.length_nil,List.length_replicate,Nat.reduceAdd] at *;omega)))|((with_reducible refine' Ld.at 0 ?h1 ?h2 ?h3 ?_);(case h1=>exact rfl);(case h2=>exact rfl);(case h3=>exact rfl))|((with_reducible refine' Ld.at 1 ?h1 ?h2 ?h3 ?_);(case h1=>exact rfl);(case h2=>exact rfl);(case h3=>exact rfl))|((with_reducible refine' Ld.at 2 ?h1 ?h2 ?h3 ?_);(case h1=>exact rfl);(case h2=>exact rfl);(case h3=>exact rfl))|((with_reducible refine' Sv.at 0 ?h1 ?h2 ?h3 ?h4 ?h5 ?_);(case h1=>exact rfl);(case h2=>exact rfl);(case h3=>exact rfl);(case h4=>exact rfl);(case h5=>exact (by first|(simp only [List.set_cons_succ,List.set_cons_zero,spl,ah8,mkD,List.take_succ_cons,List.take_zero,List.drop_succ_cons,List.drop_zero,List.length_cons,List.length_nil,List.nil_append,List.cons_append,Nat.reduceAdd,Nat.zero_add,List.append_nil,List.map_cons,List.map_nil];rfl)|rfl)))|((with_reducible refine' Sv.at 1 ?h1 ?h2 ?h3 ?h4 ?h5 ?_);(case h1=>exact rfl);(case h2=>exact rfl);(case h3=>exact rfl);(case h4=>exact rfl);(case h5=>exact (by first|(simp only [List.set_cons_succ,List.set_cons_zero,spl,ah8,mkD,List.take_succ_cons,List.take_zero,List.drop_succ_cons,List.drop_zero,List.length_cons,List.length_nil,List.nil_append,List.cons_append,Nat.reduceAdd,Nat.zero_add,List.append_nil,List.map_cons,List.map_nil];rfl)|rfl)))|((with_reducible refine' Sv.at 2 ?h1 ?h2 ?h3 ?h4 ?h5 ?_);(case h1=>exact rfl);(case h2=>exact rfl);(case h3=>exact rfl);(case h4=>exact rfl);(case h5=>exact (by first|(simp only [List.set_cons_succ,List.set_cons_zero,spl,ah8,mkD,List.take_succ_cons,List.take_zero,List.drop_succ_cons,List.drop_zero,List.length_cons,List.length_nil,List.nil_append,List.cons_append,Nat.reduceAdd,Nat.zero_add,List.append_nil,List.map_cons,List.map_nil];rfl)|rfl)))|((with_reducible refine' Ot.yd ?hyd ?_);(case hyd=>first|(refine' yd_sidx aa0 rfl rfl rfl rfl rfl ?hc ?h0;(case hc=>assumption);(case h0=>omega))|(refine yd_slto aa0 rfl rfl rfl rfl rfl ?_;first|omega|(simp only [List.length_map,List.length_take,List.length_append,List.length_cons,List.length_nil,List.length_replicate,Nat.reduceAdd];omega))|(refine aV7 aa0 rfl rfl rfl rfl rfl ?_;omega)|exact yd_bne rfl rfl rfl Tryz.underlying4|exact yd_min rfl rfl rfl|exact yd_max rfl rfl rfl))|((with_reducible refine' Rs.tc aa0 (m:=0) ?h ?hi ?hj ?hb ?ht ?hag ?hs ?_);(case h=>exact rfl);(case hi=>exact rfl);(case hj=>exact rfl);(case hb=>exact rfl);(case ht=>exact rfl);(case hag=>exact rfl);(case hs=>exact rfl))|((with_reducible refine' Rs.ct aa0 (m:=0) ?h ?hi ?hj ?hb ?ht ?hag ?hs ?_);(case h=>exact rfl);(case hi=>exact rfl);(case hj=>exact rfl);(case hb=>exact rfl);(case ht=>exact rfl);(case hag=>exact rfl);(case hs=>exact rfl))|((with_reducible refine' Rs.c aa0 (m:=0) ?h ?hj ?hb ?ht ?hag ?hs ?_);(case h=>exact rfl);(case hj=>exact rfl);(case hb=>exact rfl);(case ht=>exact rfl);(case hag=>exact rfl);(case hs=>exact rfl))|((with_reducible refine Br.dt ?h ?_);(case h=>omega))|((with_reducible refine Br.df ?h ?_);(case h=>omega))|((with_reducible refine Br.t ?h ?_);(case h=>assumption))|((with_reducible refine Br.f ?h ?_);(case h=>assumption))|((with_reducible refine Br.t ?h ?_);(case h=>(refine decide_eq_true ?_;omega)))|((with_reducible refine Br.f ?h ?_);(case h=>(refine decide_eq_false ?_;omega))));exact hk7q.run):A:=h ⟨k⟩
theorem sk26 {A B:Prop} (k:B) (h:Hd7 B→A:=by intro hk7q;(first|refine sb25 ?_|refine sb1 ?_|((with_reducible refine' Cp.by ?hc ?_);(case hc=>first|exact HU|exact bf1|exact aF2 _|(refine aY9 _ _ ?hs ?hn;(case hn=>first|assumption|omega|(simp only [List.length_map,List.length_take,List.length_append,List.length_cons,List.length_nil,List.length_replicate,Nat.reduceAdd];omega));(case hs=>(refine' szLe ?a ?c;(case a=>repeat' (first|((show (_:Nat)≤_);assumption)|exact sz1 _|exact sz0|(refine' aN3 ?_ (by assumption))|refine' szN ?_|refine' szA ?_ ?_));(case c=>first|decide|omega))))))|((with_reducible refine' CE.pure ?hc ?_);(case hc=>first|exact HU|exact bf1|exact aF2 _|(refine aY9 _ _ ?hs ?hn;(case hn=>first|assumption|omega|(simp only [List.length_map,List.length_take,List.length_append,List.length_cons,List.length_nil,List.length_replicate,Nat.reduceAdd];omega));(case hs=>(refine' szLe ?a ?c;(case a=>repeat' (first|((show (_:Nat)≤_);assumption)|exact sz1 _|exact sz0|(refine' aN3 ?_ (by assumption))|refine' szN ?_|refine' szA ?_ ?_));(case c=>first|decide|omega)))))));exact hk7q.run):A:=h ⟨k⟩
theorem r09_line_0 (f:Fld) (hk:f.kind=0) (hs:aC1 f) (hn1:f.name.size≤100000) (hn2:f.of.size≤100000) (hn3:f.up.size≤100000) (hws:∀ s∈f.words,s.size≤100000) (hwl:f.words.length≤12) (hp:ac1 f.kind=true→f.words.length=f.weights.length):APure Tryz.prog 149 [fldD f] (sD (ar2 f)):=by
 have hlo:=hs.lo
 have hhi:=hs.hi
 have HU:APure Tryz.prog 171 [iD f.kind] (.tup [bD false,bD false,bD true,bD false,bD false]):=by rw [hk];exact ag0 0
 have hy:aw4[f.kind.toNat]?=some ⟨#[107,101,121]⟩:=by rw [hk];rfl
 have hw0:(⟨#[107,101,121]⟩:ByteArray).size≤9:=by decide
 refine APure.of_call (aa3 mixed aa0 Tryz.func149 (by kernel_rfl) rfl Tryz.ntmps149 rfl ?_);intro BB
 repeat' (first|refine sk26 ?_|(intro b;conv=>whnf))
 refine Rt.pure (congrArg sD ?_)
 unfold ar2;rw [hy];simp [hk,ad4,ad5,ad8,ad6,ac1,sp]
theorem r09_line_1 (f:Fld) (hk:f.kind=1) (hs:aC1 f) (hn1:f.name.size≤100000) (hn2:f.of.size≤100000) (hn3:f.up.size≤100000) (hws:∀ s∈f.words,s.size≤100000) (hwl:f.words.length≤12) (hp:ac1 f.kind=true→f.words.length=f.weights.length):APure Tryz.prog 149 [fldD f] (sD (ar2 f)):=by
 have hlo:=hs.lo
 have hhi:=hs.hi
 have HU:APure Tryz.prog 171 [iD f.kind] (.tup [bD true,bD false,bD true,bD true,bD false]):=by rw [hk];exact ag0 1
 have hy:aw4[f.kind.toNat]?=some ⟨#[114,101,102]⟩:=by rw [hk];rfl
 have hw0:(⟨#[114,101,102]⟩:ByteArray).size≤9:=by decide
 refine APure.of_call (aa3 mixed aa0 Tryz.func149 (by kernel_rfl) rfl Tryz.ntmps149 rfl ?_);intro BB
 repeat' (first|refine sk26 ?_|(intro b;conv=>whnf))
 refine Rt.pure (congrArg sD ?_)
 unfold ar2;rw [hy];simp [hk,ad4,ad5,ad8,ad6,ac1,sp]
theorem r09_line_2 (f:Fld) (hk:f.kind=2) (hs:aC1 f) (hn1:f.name.size≤100000) (hn2:f.of.size≤100000) (hn3:f.up.size≤100000) (hws:∀ s∈f.words,s.size≤100000) (hwl:f.words.length≤12) (hp:ac1 f.kind=true→f.words.length=f.weights.length):APure Tryz.prog 149 [fldD f] (sD (ar2 f)):=by
 have hlo:=hs.lo
 have hhi:=hs.hi
 have HU:APure Tryz.prog 171 [iD f.kind] (.tup [bD false,bD false,bD true,bD true,bD false]):=by rw [hk];exact ag0 2
 have hy:aw4[f.kind.toNat]?=some ⟨#[110,117,109]⟩:=by rw [hk];rfl
 have hw0:(⟨#[110,117,109]⟩:ByteArray).size≤9:=by decide
 refine APure.of_call (aa3 mixed aa0 Tryz.func149 (by kernel_rfl) rfl Tryz.ntmps149 rfl ?_);intro BB
 repeat' (first|refine sk26 ?_|(intro b;conv=>whnf))
 refine Rt.pure (congrArg sD ?_)
 unfold ar2;rw [hy];simp [hk,ad4,ad5,ad8,ad6,ac1,sp]
theorem r09_line_3 (f:Fld) (hk:f.kind=3) (hs:aC1 f) (hn1:f.name.size≤100000) (hn2:f.of.size≤100000) (hn3:f.up.size≤100000) (hws:∀ s∈f.words,s.size≤100000) (hwl:f.words.length≤12) (hp:ac1 f.kind=true→f.words.length=f.weights.length):APure Tryz.prog 149 [fldD f] (sD (ar2 f)):=by
 have hlo:=hs.lo
 have hhi:=hs.hi
 have HU:APure Tryz.prog 171 [iD f.kind] (.tup [bD false,bD false,bD false,bD false,bD true]):=by rw [hk];exact ag0 3
 have hy:aw4[f.kind.toNat]?=some ⟨#[112,105,99,107]⟩:=by rw [hk];rfl
 have hw0:(⟨#[112,105,99,107]⟩:ByteArray).size≤9:=by decide
 refine APure.of_call (aa3 mixed aa0 Tryz.func149 (by kernel_rfl) rfl Tryz.ntmps149 rfl ?_);intro BB
 repeat' (first|refine sk26 ?_|(intro b;conv=>whnf))
 have hn4:-9223372036854775807≤(f.words.length:Int)∧(f.words.length:Int)≤9223372036854775807:=by omega
 have hwg:=hp (by rw [hk];rfl)
 obtain ⟨o0,ho0⟩:∃ o0,o0=({ data:=#[10] } ++ { data:=#[112,105,99,107] } ++ { data:=#[32] } ++ f.name:ByteArray):=⟨_,rfl⟩
 have hz0:o0.size≤100100:=by rw [ho0];(refine' szLe ?a ?c;(case a=>repeat' (first|((show (_:Nat)≤_);assumption)|exact sz1 _|exact sz0|(refine' aN3 ?_ (by assumption))|refine' szN ?_|refine' szA ?_ ?_));(case c=>first|decide|omega))
 have hz1:(andS o0 f.words.length).size≤100122:=szLe (aN3 hz0 hn4) (by decide)
 simp only [List.length_map,← ho0]
 refine ae3 mixed aa0 (γ:=Nat × ByteArray) (fun g=>[(8,sD g.2),(9,iD g.1)]) (fun _=>[]) (fun g=>g.1≤f.words.length∧g.2=aZ0 o0 f g.1∧g.2.size≤100122+100023*g.1) (fun g=>f.words.length - g.1) (0,andS o0 f.words.length) rfl rfl ⟨Nat.zero_le _,rfl,by simp only;omega⟩ ?_
 rintro ⟨q,t⟩ ⟨hq,ht,hz⟩
 simp only at hq ht hz ⊢
 by_cases hlt:q<f.words.length
 ·obtain ⟨y,hy1⟩:∃ y,f.words[(q:Int).toNat]?=some y:=⟨_,List.getElem?_eq_getElem hlt⟩
  obtain ⟨z,hy2⟩:∃ z,f.weights[(q:Int).toNat]?=some z:=⟨_,List.getElem?_eq_getElem (by simpa using (show q<f.weights.length by omega))⟩
  have hys:=hws y (List.mem_of_getElem? hy1)
  have hzs:=hs.ws z (List.mem_of_getElem? hy2)
  have hz':t.size≤1300398:=by omega
  repeat' (first|refine sk26 ?_|(intro b;conv=>whnf))
  have hzn:(andS (t ++ { data:=#[32] } ++ y) z).size≤t.size+1+y.size+22:=aN3 (szA (szA (Nat.le_refl _) (sz1 _)) (Nat.le_refl _)) hzs
  refine ⟨(q+1,andS (t ++ { data:=#[32] } ++ y) z),(aa2 cl2),rfl,⟨by simp only;omega,?_,by simp only;omega⟩,by simp only;omega⟩
  simp only [aZ0]
  rw [show f.words[q]?=some y from hy1,show f.weights[q]?=some z from hy2,← ht]
  rfl
 ·obtain rfl:q=f.words.length:=by omega
  repeat' (first|refine sk26 ?_|(intro b;conv=>whnf))
  refine Rt.pure (congrArg sD ?_)
  unfold ar2;rw [hy,ht,ho0];simp [hk,ad4,ad5,ad8,ad6,ac1,sp]
theorem r09_line_4 (f:Fld) (hk:f.kind=4) (hs:aC1 f) (hn1:f.name.size≤100000) (hn2:f.of.size≤100000) (hn3:f.up.size≤100000) (hws:∀ s∈f.words,s.size≤100000) (hwl:f.words.length≤12) (hp:ac1 f.kind=true→f.words.length=f.weights.length):APure Tryz.prog 149 [fldD f] (sD (ar2 f)):=by
 have hlo:=hs.lo
 have hhi:=hs.hi
 have HU:APure Tryz.prog 171 [iD f.kind] (.tup [bD true,bD false,bD true,bD true,bD false]):=by rw [hk];exact ag0 4
 have hy:aw4[f.kind.toNat]?=some ⟨#[100,97,121]⟩:=by rw [hk];rfl
 have hw0:(⟨#[100,97,121]⟩:ByteArray).size≤9:=by decide
 refine APure.of_call (aa3 mixed aa0 Tryz.func149 (by kernel_rfl) rfl Tryz.ntmps149 rfl ?_);intro BB
 repeat' (first|refine sk26 ?_|(intro b;conv=>whnf))
 refine Rt.pure (congrArg sD ?_)
 unfold ar2;rw [hy];simp [hk,ad4,ad5,ad8,ad6,ac1,sp]
theorem r09_line_5 (f:Fld) (hk:f.kind=5) (hs:aC1 f) (hn1:f.name.size≤100000) (hn2:f.of.size≤100000) (hn3:f.up.size≤100000) (hws:∀ s∈f.words,s.size≤100000) (hwl:f.words.length≤12) (hp:ac1 f.kind=true→f.words.length=f.weights.length):APure Tryz.prog 149 [fldD f] (sD (ar2 f)):=by
 have hlo:=hs.lo
 have hhi:=hs.hi
 have HU:APure Tryz.prog 171 [iD f.kind] (.tup [bD true,bD false,bD true,bD true,bD false]):=by rw [hk];exact ag0 5
 have hy:aw4[f.kind.toNat]?=some ⟨#[115,116,101,112]⟩:=by rw [hk];rfl
 have hw0:(⟨#[115,116,101,112]⟩:ByteArray).size≤9:=by decide
 refine APure.of_call (aa3 mixed aa0 Tryz.func149 (by kernel_rfl) rfl Tryz.ntmps149 rfl ?_);intro BB
 repeat' (first|refine sk26 ?_|(intro b;conv=>whnf))
 refine Rt.pure (congrArg sD ?_)
 unfold ar2;rw [hy];simp [hk,ad4,ad5,ad8,ad6,ac1,sp]
theorem r09_line_6 (f:Fld) (hk:f.kind=6) (hs:aC1 f) (hn1:f.name.size≤100000) (hn2:f.of.size≤100000) (hn3:f.up.size≤100000) (hws:∀ s∈f.words,s.size≤100000) (hwl:f.words.length≤12) (hp:ac1 f.kind=true→f.words.length=f.weights.length):APure Tryz.prog 149 [fldD f] (sD (ar2 f)):=by
 have hlo:=hs.lo
 have hhi:=hs.hi
 have HU:APure Tryz.prog 171 [iD f.kind] (.tup [bD true,bD false,bD false,bD false,bD false]):=by rw [hk];exact ag0 6
 have hy:aw4[f.kind.toNat]?=some ⟨#[115,117,109]⟩:=by rw [hk];rfl
 have hw0:(⟨#[115,117,109]⟩:ByteArray).size≤9:=by decide
 refine APure.of_call (aa3 mixed aa0 Tryz.func149 (by kernel_rfl) rfl Tryz.ntmps149 rfl ?_);intro BB
 repeat' (first|refine sk26 ?_|(intro b;conv=>whnf))
 refine Rt.pure (congrArg sD ?_)
 unfold ar2;rw [hy];simp [hk,ad4,ad5,ad8,ad6,ac1,sp]
theorem r09_line_7 (f:Fld) (hk:f.kind=7) (hs:aC1 f) (hn1:f.name.size≤100000) (hn2:f.of.size≤100000) (hn3:f.up.size≤100000) (hws:∀ s∈f.words,s.size≤100000) (hwl:f.words.length≤12) (hp:ac1 f.kind=true→f.words.length=f.weights.length):APure Tryz.prog 149 [fldD f] (sD (ar2 f)):=by
 have hlo:=hs.lo
 have hhi:=hs.hi
 have HU:APure Tryz.prog 171 [iD f.kind] (.tup [bD true,bD true,bD true,bD true,bD false]):=by rw [hk];exact ag0 7
 have hy:aw4[f.kind.toNat]?=some ⟨#[115,104,97,114,101]⟩:=by rw [hk];rfl
 have hw0:(⟨#[115,104,97,114,101]⟩:ByteArray).size≤9:=by decide
 refine APure.of_call (aa3 mixed aa0 Tryz.func149 (by kernel_rfl) rfl Tryz.ntmps149 rfl ?_);intro BB
 repeat' (first|refine sk26 ?_|(intro b;conv=>whnf))
 refine Rt.pure (congrArg sD ?_)
 unfold ar2;rw [hy];simp [hk,ad4,ad5,ad8,ad6,ac1,sp]
theorem r09_line_8 (f:Fld) (hk:f.kind=8) (hs:aC1 f) (hn1:f.name.size≤100000) (hn2:f.of.size≤100000) (hn3:f.up.size≤100000) (hws:∀ s∈f.words,s.size≤100000) (hwl:f.words.length≤12) (hp:ac1 f.kind=true→f.words.length=f.weights.length):APure Tryz.prog 149 [fldD f] (sD (ar2 f)):=by
 have hlo:=hs.lo
 have hhi:=hs.hi
 have HU:APure Tryz.prog 171 [iD f.kind] (.tup [bD true,bD true,bD false,bD false,bD false]):=by rw [hk];exact ag0 8
 have hy:aw4[f.kind.toNat]?=some ⟨#[99,111,112,121]⟩:=by rw [hk];rfl
 have hw0:(⟨#[99,111,112,121]⟩:ByteArray).size≤9:=by decide
 refine APure.of_call (aa3 mixed aa0 Tryz.func149 (by kernel_rfl) rfl Tryz.ntmps149 rfl ?_);intro BB
 repeat' (first|refine sk26 ?_|(intro b;conv=>whnf))
 refine Rt.pure (congrArg sD ?_)
 unfold ar2;rw [hy];simp [hk,ad4,ad5,ad8,ad6,ac1,sp]
theorem r09_line (f:Fld) (hk:0≤f.kind∧f.kind≤8) (hs:aC1 f) (hn1:f.name.size≤100000) (hn2:f.of.size≤100000) (hn3:f.up.size≤100000) (hws:∀ s∈f.words,s.size≤100000) (hwl:f.words.length≤12) (hp:ac1 f.kind=true→f.words.length=f.weights.length):APure Tryz.prog 149 [fldD f] (sD (ar2 f)):=by
 have:f.kind=0∨f.kind=1∨f.kind=2∨f.kind=3∨f.kind=4∨f.kind=5∨f.kind=6∨f.kind=7∨f.kind=8:=by omega
 rcases this with h|h|h|h|h|h|h|h|h
 ·exact r09_line_0 f h hs hn1 hn2 hn3 hws hwl hp
 ·exact r09_line_1 f h hs hn1 hn2 hn3 hws hwl hp
 ·exact r09_line_2 f h hs hn1 hn2 hn3 hws hwl hp
 ·exact r09_line_3 f h hs hn1 hn2 hn3 hws hwl hp
 ·exact r09_line_4 f h hs hn1 hn2 hn3 hws hwl hp
 ·exact r09_line_5 f h hs hn1 hn2 hn3 hws hwl hp
 ·exact r09_line_6 f h hs hn1 hn2 hn3 hws hwl hp
 ·exact r09_line_7 f h hs hn1 hn2 hn3 hws hwl hp
 ·exact r09_line_8 f h hs hn1 hn2 hn3 hws hwl hp
theorem sum_take1 (g:Int→Nat) (l:List Int) (q:Nat) (z:Int) (h:l[q]?=some z):((l.take (q+1)).map g).sum=((l.take q).map g).sum+g z:=by
 simp [List.take_add_one,h,List.sum_append]
theorem sum_take1' (g:ByteArray→Nat) (l:List ByteArray) (q:Nat) (z:ByteArray) (h:l[q]?=some z):((l.take (q+1)).map g).sum=((l.take q).map g).sum+g z:=by
 simp [List.take_add_one,h,List.sum_append]
theorem aU0 (o:ByteArray) (f:Fld) (hs:∀ n∈f.weights,-9223372036854775807≤n∧n≤9223372036854775807) (hl:f.words.length≤12):∀ q,q≤f.words.length→q≤f.weights.length→(aZ0 o f q).size≤o.size+1+intB f.words.length+((f.words.take q).map fun s=>1+s.size).sum+((f.weights.take q).map fun n=>1+intB n).sum
 | 0,_,_=>by
  have:=aj2 (s:=o) (n:=(f.words.length:Int)) (by omega)
  simpa [aZ0] using this
 | q+1,h1,h2=>by
  have ih:=aU0 o f hs hl q (by omega) (by omega)
  obtain ⟨y,hy⟩:∃ y,f.words[q]?=some y:=⟨_,List.getElem?_eq_getElem (by omega)⟩
  obtain ⟨z,hz⟩:∃ z,f.weights[q]?=some z:=⟨_,List.getElem?_eq_getElem (by omega)⟩
  rw [sum_take1 _ _ _ _ hz,sum_take1' _ _ _ _ hy]
  simp only [aZ0,hy,hz]
  have h3:=aj2 (s:=aZ0 o f q ++ sp ++ y) (n:=z) (hs z (List.mem_of_getElem? hz))
  rw [ByteArray.size_append,ByteArray.size_append] at h3
  have:sp.size=1:=rfl
  omega
theorem lineS_size (f:Fld) (hk:0≤f.kind∧f.kind≤8) (hs:aC1 f) (hwl:f.words.length≤12) (hp:ac1 f.kind=true→f.words.length=f.weights.length):(ar2 f).size≤aj1 f:=by
 have hsp:sp.size=1:=rfl
 have h10:(⟨#[10]⟩:ByteArray).size=1:=rfl
 have hw:((aw4[f.kind.toNat]?).getD ⟨#[]⟩).size≤5:=by
  have:f.kind=0∨f.kind=1∨f.kind=2∨f.kind=3∨f.kind=4∨f.kind=5∨f.kind=6∨f.kind=7∨f.kind=8:=by omega
  rcases this with h|h|h|h|h|h|h|h|h <;> rw [h] <;> decide
 unfold ar2 aj1
 generalize (aw4[f.kind.toNat]?).getD ⟨#[]⟩=w0 at *
 have e0:((⟨#[10]⟩:ByteArray) ++ w0 ++ sp ++ f.name).size=2+w0.size+f.name.size:=by simp only [ByteArray.size_append];omega
 generalize ((⟨#[10]⟩:ByteArray) ++ w0 ++ sp ++ f.name)=o0 at *
 simp only
 have e1:(if ad4 f.kind=true then o0 ++ sp ++ f.up else o0).size≤o0.size+1+f.up.size:=by
  split
  ·simp only [ByteArray.size_append];omega
  ·omega
 generalize (if ad4 f.kind=true then o0 ++ sp ++ f.up else o0)=o1 at *
 have e2:(if ad5 f.kind=true then o1 ++ sp ++ ax2 f.of else o1).size≤o1.size+2+f.of.size:=by
  have:=ay6 f.of
  split
  ·simp only [ByteArray.size_append];omega
  ·omega
 generalize (if ad5 f.kind=true then o1 ++ sp ++ ax2 f.of else o1)=o2 at *
 have e3:(if ad8 f.kind=true then andS o2 f.lo else o2).size≤o2.size+1+intB f.lo:=by
  split
  ·exact aj2 hs.lo
  ·omega
 generalize (if ad8 f.kind=true then andS o2 f.lo else o2)=o3 at *
 have e4:(if ad6 f.kind=true then andS o3 f.hi else o3).size≤o3.size+1+intB f.hi:=by
  split
  ·exact aj2 hs.hi
  ·omega
 generalize (if ad6 f.kind=true then andS o3 f.hi else o3)=o4 at *
 split
 ·rename_i hu
  have:=aU0 o4 f hs.ws hwl f.words.length (Nat.le_refl _) (by have:=hp hu;omega)
  rw [List.take_length,hp hu,List.take_length,← hp hu] at this
  omega
 ·omega
end
section
open Go
structure FldOK (f:Fld):Prop where
 kind:0≤f.kind∧f.kind≤8
 sane:aC1 f
 name:f.name.size≤100000
 of:f.of.size≤100000
 up:f.up.size≤100000
 ws:∀ s∈f.words,s.size≤100000
 wl:f.words.length≤12
 pw:ac1 f.kind=true→f.words.length=f.weights.length
structure KndOK (k:Knd):Prop where
 name:k.name.size≤100000
 lo:-9223372036854775807≤k.lo∧k.lo≤9223372036854775807
 hi:-9223372036854775807≤k.hi∧k.hi≤9223372036854775807
 fs:∀ f∈k.fields,FldOK f
 fl:k.fields.length≤1000000
structure LifOK (x:Lif):Prop where
 name:x.name.size≤100000
 ss:∀ s∈x.states,s.size≤100000
 sl:x.states.length≤1000000
 ms:∀ m∈x.moves,(-9223372036854775807≤m.1∧m.1≤9223372036854775807)∧(-9223372036854775807≤m.2∧m.2≤9223372036854775807)
 ml:x.moves.length≤1000000
structure RulOK (r:Rul):Prop where
 name:r.name.size≤100000
 kind:r.kind.size≤100000
 a:r.a.size≤100000
 b:r.b.size≤100000
 n:-9223372036854775807≤r.n∧r.n≤9223372036854775807
structure SrcOK (x:Sch):Prop where
 ver:-9223372036854775807≤x.version∧x.version≤9223372036854775807
 kinds:∀ k∈x.kinds,KndOK k
 lives:∀ l∈x.lives,LifOK l
 rules:∀ r∈x.rules,RulOK r
 kl:x.kinds.length≤1000000
 ll:x.lives.length≤1000000
 rl:x.rules.length≤1000000
 src:srcB x≤1000000
theorem sb27 {A B:Prop} (k:B) (h:Hd7 B→A:=by intro hk7q;(first|((with_reducible refine W.mk ?_);(conv=>whnf))|(with_reducible refine Br.tt ?_)|(with_reducible refine Br.ff ?_)|(with_reducible refine Br.n ?_)|((with_reducible refine' Br.eq ?h ?_);(case h=>(simp only [List.length_map,List.length_take,List.length_append,List.length_cons,List.length_nil,List.length_replicate,Nat.reduceAdd];exact rfl)))|((with_reducible refine Sd.go ?qs7 ?_);(case qs7=>first|trivial|(constructor <;> omega)|omega|assumption|(refine' szSum ?a ?b ?c;(case a=>repeat' (first|((show (_:Nat)≤_);assumption)|exact sz1 _|exact sz0|(refine' aN3 ?_ (by assumption))|refine' szN ?_|refine' szA ?_ ?_));(case b=>repeat' (first|((show (_:Nat)≤_);assumption)|exact sz1 _|exact sz0|(refine' aN3 ?_ (by assumption))|refine' szN ?_|refine' szA ?_ ?_));(case c=>first|decide|omega))))|((with_reducible refine Ck.go ?qs7 ?_);(case qs7=>kernel_rfl))|((with_reducible refine' Ix.mapAt ?hy ?h0 ?_);(case hy=>assumption);(case h0=>omega))|((with_reducible refine' Ix.at ?hy ?h0 ?_);(case hy=>exact rfl);(case h0=>omega))|((with_reducible refine Ix.mapM ?h0 ?_);(case h0=>first|omega|(simp only [List.length_map,List.length_take,List.length_append,List.length_cons,List.length_nil,List.length_replicate,Nat.reduceAdd] at *;omega)))|((with_reducible refine' Ld.at 0 ?h1 ?h2 ?h3 ?_);(case h1=>exact rfl);(case h2=>exact rfl);(case h3=>exact rfl))|((with_reducible refine' Ld.at 1 ?h1 ?h2 ?h3 ?_);(case h1=>exact rfl);(case h2=>exact rfl);(case h3=>exact rfl))|((with_reducible refine' Ld.at 2 ?h1 ?h2 ?h3 ?_);(case h1=>exact rfl);(case h2=>exact rfl);(case h3=>exact rfl))|((with_reducible refine' Sv.at 0 ?h1 ?h2 ?h3 ?h4 ?h5 ?_);(case h1=>exact rfl);(case h2=>exact rfl);(case h3=>exact rfl);(case h4=>exact rfl);(case h5=>exact (by first|(simp only [List.set_cons_succ,List.set_cons_zero,spl,ah8,mkD,List.take_succ_cons,List.take_zero,List.drop_succ_cons,List.drop_zero,List.length_cons,List.length_nil,List.nil_append,List.cons_append,Nat.reduceAdd,Nat.zero_add,List.append_nil,List.map_cons,List.map_nil];rfl)|rfl)))|((with_reducible refine' Sv.at 1 ?h1 ?h2 ?h3 ?h4 ?h5 ?_);(case h1=>exact rfl);(case h2=>exact rfl);(case h3=>exact rfl);(case h4=>exact rfl);(case h5=>exact (by first|(simp only [List.set_cons_succ,List.set_cons_zero,spl,ah8,mkD,List.take_succ_cons,List.take_zero,List.drop_succ_cons,List.drop_zero,List.length_cons,List.length_nil,List.nil_append,List.cons_append,Nat.reduceAdd,Nat.zero_add,List.append_nil,List.map_cons,List.map_nil];rfl)|rfl)))|((with_reducible refine' Sv.at 2 ?h1 ?h2 ?h3 ?h4 ?h5 ?_);(case h1=>exact rfl);(case h2=>exact rfl);(case h3=>exact rfl);(case h4=>exact rfl);(case h5=>exact (by first|(simp only [List.set_cons_succ,List.set_cons_zero,spl,ah8,mkD,List.take_succ_cons,List.take_zero,List.drop_succ_cons,List.drop_zero,List.length_cons,List.length_nil,List.nil_append,List.cons_append,Nat.reduceAdd,Nat.zero_add,List.append_nil,List.map_cons,List.map_nil];rfl)|rfl)))|((with_reducible refine' Ot.yd ?hyd ?_);(case hyd=>first|(refine' yd_sidx aa0 rfl rfl rfl rfl rfl ?hc ?h0;(case hc=>assumption);(case h0=>omega))|(refine yd_slto aa0 rfl rfl rfl rfl rfl ?_;first|omega|(simp only [List.length_map,List.length_take,List.length_append,List.length_cons,List.length_nil,List.length_replicate,Nat.reduceAdd];omega))|(refine aV7 aa0 rfl rfl rfl rfl rfl ?_;omega)|exact yd_bne rfl rfl rfl Tryz.underlying4|exact yd_min rfl rfl rfl|exact yd_max rfl rfl rfl))|((with_reducible refine' Rs.tc aa0 (m:=0) ?h ?hi ?hj ?hb ?ht ?hag ?hs ?_);(case h=>exact rfl);(case hi=>exact rfl);(case hj=>exact rfl);(case hb=>exact rfl);(case ht=>exact rfl);(case hag=>exact rfl);(case hs=>exact rfl))|((with_reducible refine' Rs.ct aa0 (m:=0) ?h ?hi ?hj ?hb ?ht ?hag ?hs ?_);(case h=>exact rfl);(case hi=>exact rfl);(case hj=>exact rfl);(case hb=>exact rfl);(case ht=>exact rfl);(case hag=>exact rfl);(case hs=>exact rfl))|((with_reducible refine' Rs.c aa0 (m:=0) ?h ?hj ?hb ?ht ?hag ?hs ?_);(case h=>exact rfl);(case hj=>exact rfl);(case hb=>exact rfl);(case ht=>exact rfl);(case hag=>exact rfl);(case hs=>exact rfl))|((with_reducible refine Br.dt ?h ?_);(case h=>omega))|((with_reducible refine Br.df ?h ?_);(case h=>omega))|((with_reducible refine Br.t ?h ?_);(case h=>assumption))|((with_reducible refine Br.f ?h ?_);(case h=>assumption))|((with_reducible refine Br.t ?h ?_);(case h=>(refine decide_eq_true ?_;omega)))|((with_reducible refine Br.f ?h ?_);(case h=>(refine decide_eq_false ?_;omega))));exact hk7q.run):A:=h ⟨k⟩
theorem sk28 {A B:Prop} (k:B) (h:Hd7 B→A:=by intro hk7q;(first|refine sb27 ?_|refine sb1 ?_|((with_reducible refine' Cp.by ?hc ?_);(case hc=>first|exact aF2 _|exact HLN|(refine aY9 _ _ ?hs ?hn;(case hn=>first|assumption|omega|(simp only [List.length_map,List.length_take,List.length_append,List.length_cons,List.length_nil,List.length_replicate,Nat.reduceAdd];omega));(case hs=>(refine' szLe ?a ?c;(case a=>repeat' (first|((show (_:Nat)≤_);assumption)|exact sz1 _|exact sz0|(refine' aN3 ?_ (by assumption))|refine' szN ?_|refine' szA ?_ ?_));(case c=>first|decide|omega))))))|((with_reducible refine' CE.pure ?hc ?_);(case hc=>first|exact aF2 _|exact HLN|(refine aY9 _ _ ?hs ?hn;(case hn=>first|assumption|omega|(simp only [List.length_map,List.length_take,List.length_append,List.length_cons,List.length_nil,List.length_replicate,Nat.reduceAdd];omega));(case hs=>(refine' szLe ?a ?c;(case a=>repeat' (first|((show (_:Nat)≤_);assumption)|exact sz1 _|exact sz0|(refine' aN3 ?_ (by assumption))|refine' szN ?_|refine' szA ?_ ?_));(case c=>first|decide|omega)))))));exact hk7q.run):A:=h ⟨k⟩
theorem r09_source (x:Sch) (hx:SrcOK x):ASome Tryz.prog 123 [schD x] (fun d=>∃ s:ByteArray,d=sD s∧s.size≤srcB x):=by
 have hver:=hx.ver
 have hkl:=hx.kl
 have hll:=hx.ll
 have hrl:=hx.rl
 have hsr:=hx.src
 have l6:(⟨#[115,99,104,101,109,97]⟩:ByteArray).size≤6:=by decide
 have lk:(⟨#[10,107,105,110,100,32]⟩:ByteArray).size≤6:=by decide
 have ll6:(⟨#[10,108,105,102,101,32]⟩:ByteArray).size≤6:=by decide
 have lm:(⟨#[10,109,111,118,101]⟩:ByteArray).size≤5:=by decide
 have lr:(⟨#[10,114,117,108,101,32]⟩:ByteArray).size≤6:=by decide
 have hb0:=aj2 (s:=(⟨#[115,99,104,101,109,97]⟩:ByteArray)) hver
 have hi0:=ae9 x.version
 refine ASome.of_call ?_
 refine aa3 mixed aa0 Tryz.func123 (by kernel_rfl) rfl Tryz.ntmps123 rfl ?_;intro BB
 repeat' (first|refine sk28 ?_|(intro b;conv=>whnf))
 refine aa6 mixed aa0 (γ:=Nat × ByteArray) (fun g=>[(3,sD g.2),(4,iD g.1)]) (fun _=>[]) (fun g=>g.1≤x.kinds.length∧g.2.size<29+sumB kndB (x.kinds.take g.1)) (fun g=>x.kinds.length - g.1) (0,andS (⟨#[115,99,104,101,109,97]⟩:ByteArray) x.version) (aa2 cl2) cl3 ⟨Nat.zero_le _,by simp only [List.take_zero,sumB,List.map_nil,List.sum_nil];omega⟩ ?_
 rintro ⟨q,t⟩ ⟨hq,hz⟩
 simp only at hq hz ⊢
 have hsk:=aj3 kndB x.kinds q
 have hsl:=aj3 lifB x.lives 0
 by_cases hlt:q<x.kinds.length
 ·obtain ⟨k,hk0⟩:∃ k,x.kinds[(q:Int).toNat]?=some k:=⟨_,List.getElem?_eq_getElem hlt⟩
  have hkk:=hx.kinds k (List.mem_of_getElem? hk0)
  have hkn:=hkk.name
  have hklo:=hkk.lo
  have hkhi:=hkk.hi
  have hkfl:=hkk.fl
  have hzn:t.size≤1000000:=by unfold srcB at hsr;omega
  have hst:=aj8 kndB x.kinds q k hk0
  have hsk':=aj3 kndB x.kinds (q+1)
  repeat' (first|refine sk28 ?_|(intro b;conv=>whnf))
  have hy1:=aj2 (s:=t ++ { data:=#[10,107,105,110,100,32] } ++ k.name) hklo
  have hy2:=aj2 (s:=andS (t ++ { data:=#[10,107,105,110,100,32] } ++ k.name) k.lo) hkhi
  simp only [ByteArray.size_append] at hy1
  have hd:kndB k=8+k.name.size+intB k.lo+intB k.hi+sumB aj1 k.fields:=rfl
  refine aa6 mixed aa0 (γ:=Nat × ByteArray) (fun g=>[(3,sD g.2),(6,iD g.1)]) (fun _=>[(b,.cells 97 (kndC k))]) (fun g=>g.1≤k.fields.length∧g.2.size<29+sumB kndB (x.kinds.take q)+(8+k.name.size+intB k.lo+intB k.hi)+sumB aj1 (k.fields.take g.1)) (fun g=>k.fields.length - g.1) (0,andS (andS (t ++ { data:=#[10,107,105,110,100,32] } ++ k.name) k.lo) k.hi) (aa2 cl2) (List.Sublist.refl _) ⟨Nat.zero_le _,by simp only [List.take_zero,sumB,List.map_nil,List.sum_nil] at *;omega⟩ ?_
  rintro ⟨j,u⟩ ⟨hj,hu⟩
  simp only at hj hu ⊢
  have hfj:=aj3 aj1 k.fields j
  by_cases hjl:j<k.fields.length
  ·obtain ⟨f,hf0⟩:∃ f,k.fields[(j:Int).toNat]?=some f:=⟨_,List.getElem?_eq_getElem hjl⟩
   have hf:=hkk.fs f (List.mem_of_getElem? hf0)
   have HLN:=r09_line f hf.kind hf.sane hf.name hf.of hf.up hf.ws hf.wl hf.pw
   have hfs:=lineS_size f hf.kind hf.sane hf.wl hf.pw
   have hft:=aj8 aj1 k.fields j f hf0
   have hft':=aj3 aj1 k.fields (j+1)
   have hun:u.size≤1000000:=by unfold srcB at hsr;omega
   have hln:(ar2 f).size≤1000000:=by unfold srcB at hsr;omega
   have hua:(u ++ ar2 f).size=u.size+(ar2 f).size:=ByteArray.size_append
   repeat' (first|refine sk28 ?_|(intro b;conv=>whnf))
   exact ⟨(j+1,u ++ ar2 f),(aa2 cl2),(List.Sublist.refl _),⟨by simp only;omega,by simp only;omega⟩,by simp only;omega⟩
  ·obtain rfl:j=k.fields.length:=by omega
   rw [List.take_length] at hu
   repeat' (first|refine sk28 ?_|(intro b;conv=>whnf))
   exact ⟨(q+1,u),(aa2 cl2),cl3,⟨by simp only;omega,by simp only;omega⟩,by simp only;omega⟩
 ·obtain rfl:q=x.kinds.length:=by omega
  rw [List.take_length] at hz
  repeat' (first|refine sk28 ?_|(intro b;conv=>whnf))
  refine aa6 mixed aa0 (γ:=Nat × ByteArray) (fun g=>[(3,sD g.2),(7,iD g.1)]) (fun _=>[]) (fun g=>g.1≤x.lives.length∧g.2.size<29+sumB kndB x.kinds+sumB lifB (x.lives.take g.1)) (fun g=>x.lives.length - g.1) (0,t) (aa2 cl2) cl3 ⟨Nat.zero_le _,by simp only [List.take_zero,sumB,List.map_nil,List.sum_nil] at *;omega⟩ ?_
  clear hz hlt hq hsk hsl
  rintro ⟨q,t⟩ ⟨hq,hz⟩
  simp only at hq hz ⊢
  have hsk:=aj3 lifB x.lives q
  by_cases hlt:q<x.lives.length
  ·obtain ⟨k,hk0⟩:∃ k,x.lives[(q:Int).toNat]?=some k:=⟨_,List.getElem?_eq_getElem hlt⟩
   have hkk:=hx.lives k (List.mem_of_getElem? hk0)
   have hkn:=hkk.name
   have hsl:=hkk.sl
   have hml:=hkk.ml
   have hln:-9223372036854775807≤(k.states.length:Int)∧(k.states.length:Int)≤9223372036854775807:=by omega
   have hzn:t.size≤1000000:=by unfold srcB at hsr;omega
   have hst:=aj8 lifB x.lives q k hk0
   have hsk':=aj3 lifB x.lives (q+1)
   have hy1:=aj2 (s:=t ++ { data:=#[10,108,105,102,101,32] } ++ k.name) hln
   simp only [ByteArray.size_append] at hy1
   have hd:lifB k=7+k.name.size+intB k.states.length+sumB (fun s=>1+s.size) k.states+sumB movB k.moves:=rfl
   repeat' (first|refine sk28 ?_|(intro b;conv=>whnf))
   simp only [List.length_map]
   refine aa6 mixed aa0 (γ:=Nat × ByteArray) (fun g=>[(3,sD g.2),(9,iD g.1)]) (fun _=>[(b,.cells 102 (lifC k))]) (fun g=>g.1≤k.states.length∧g.2.size<29+sumB kndB x.kinds+sumB lifB (x.lives.take q)+(7+k.name.size+intB k.states.length)+sumB (fun s=>1+s.size) (k.states.take g.1)) (fun g=>k.states.length - g.1) (0,andS (t ++ { data:=#[10,108,105,102,101,32] } ++ k.name) k.states.length) (aa2 cl2) (List.Sublist.refl _) ⟨Nat.zero_le _,by simp only [List.take_zero,sumB,List.map_nil,List.sum_nil] at *;omega⟩ ?_
   rintro ⟨j,u⟩ ⟨hj,hu⟩
   simp only at hj hu ⊢
   have hfj:=aj3 (fun s:ByteArray=>1+s.size) k.states j
   by_cases hjl:j<k.states.length
   ·obtain ⟨f,hf0⟩:∃ f,k.states[(j:Int).toNat]?=some f:=⟨_,List.getElem?_eq_getElem hjl⟩
    have hf:=hkk.ss f (List.mem_of_getElem? hf0)
    have hft:=aj8 (fun s:ByteArray=>1+s.size) k.states j f hf0
    have hft':=aj3 (fun s:ByteArray=>1+s.size) k.states (j+1)
    have hun:u.size≤1000000:=by unfold srcB at hsr;omega
    have hua:(u ++ { data:=#[32] } ++ f).size=u.size+1+f.size:=by rw [ByteArray.size_append,ByteArray.size_append];rfl
    repeat' (first|refine sk28 ?_|(intro b;conv=>whnf))
    exact ⟨(j+1,u ++ { data:=#[32] } ++ f),(aa2 cl2),(List.Sublist.refl _),⟨by simp only;omega,by simp only;omega⟩,by simp only;omega⟩
   ·obtain rfl:j=k.states.length:=by omega
    rw [List.take_length] at hu
    repeat' (first|refine sk28 ?_|(intro b;conv=>whnf))
    refine aa6 mixed aa0 (γ:=Nat × ByteArray) (fun g=>[(3,sD g.2),(10,iD g.1)]) (fun _=>[(b,.cells 102 (lifC k))]) (fun g=>g.1≤k.moves.length∧g.2.size<29+sumB kndB x.kinds+sumB lifB (x.lives.take q)+(7+k.name.size+intB k.states.length)+sumB (fun s=>1+s.size) k.states+sumB movB (k.moves.take g.1)) (fun g=>k.moves.length - g.1) (0,u) (aa2 cl2) (List.Sublist.refl _) ⟨Nat.zero_le _,by simp only [List.take_zero,sumB,List.map_nil,List.sum_nil] at *;omega⟩ ?_
    clear hj hu hfj hjl
    rintro ⟨j,u⟩ ⟨hj,hu⟩
    simp only at hj hu ⊢
    have hfj:=aj3 movB k.moves j
    by_cases hjl:j<k.moves.length
    ·obtain ⟨f,hf0⟩:∃ f,k.moves[(j:Int).toNat]?=some f:=⟨_,List.getElem?_eq_getElem hjl⟩
     have hf:=hkk.ms f (List.mem_of_getElem? hf0)
     have hf1:=hf.1
     have hf2:=hf.2
     have hft:=aj8 movB k.moves j f hf0
     have hft':=aj3 movB k.moves (j+1)
     have hun:u.size≤1000000:=by unfold srcB at hsr;omega
     have hd2:movB f=7+intB f.1+intB f.2:=rfl
     repeat' (first|refine sk28 ?_|(intro b;conv=>whnf))
     have hy3:=aj2 (s:=u ++ { data:=#[10,109,111,118,101] }) hf1
     have hy4:=aj2 (s:=andS (u ++ { data:=#[10,109,111,118,101] }) f.1) hf2
     simp only [ByteArray.size_append] at hy3
     exact ⟨(j+1,andS (andS (u ++ { data:=#[10,109,111,118,101] }) f.1) f.2),(aa2 cl2),(List.Sublist.refl _),⟨by simp only;omega,by simp only;omega⟩,by simp only;omega⟩
    ·obtain rfl:j=k.moves.length:=by omega
     rw [List.take_length] at hu
     repeat' (first|refine sk28 ?_|(intro b;conv=>whnf))
     exact ⟨(q+1,u),(aa2 cl2),cl3,⟨by simp only;omega,by simp only;omega⟩,by simp only;omega⟩
  ·obtain rfl:q=x.lives.length:=by omega
   rw [List.take_length] at hz
   repeat' (first|refine sk28 ?_|(intro b;conv=>whnf))
   refine aa6 mixed aa0 (γ:=Nat × ByteArray) (fun g=>[(3,sD g.2),(11,iD g.1)]) (fun _=>[]) (fun g=>g.1≤x.rules.length∧g.2.size<29+sumB kndB x.kinds+sumB lifB x.lives+sumB rulB (x.rules.take g.1)) (fun g=>x.rules.length - g.1) (0,t) (aa2 cl2) cl3 ⟨Nat.zero_le _,by simp only [List.take_zero,sumB,List.map_nil,List.sum_nil] at *;omega⟩ ?_
   clear hz hlt hq hsk
   rintro ⟨q,t⟩ ⟨hq,hz⟩
   simp only at hq hz ⊢
   have hsk:=aj3 rulB x.rules q
   by_cases hlt:q<x.rules.length
   ·obtain ⟨k,hk0⟩:∃ k,x.rules[(q:Int).toNat]?=some k:=⟨_,List.getElem?_eq_getElem hlt⟩
    have hkk:=hx.rules k (List.mem_of_getElem? hk0)
    have hk1:=hkk.name
    have hk2:=hkk.kind
    have hk3:=hkk.a
    have hk4:=hkk.b
    have hk5:=hkk.n
    have hzn:t.size≤1000000:=by unfold srcB at hsr;omega
    have hst:=aj8 rulB x.rules q k hk0
    have hsk':=aj3 rulB x.rules (q+1)
    have hd:rulB k=12+k.name.size+k.kind.size+k.a.size+k.b.size+intB k.n:=rfl
    have hn1:=ay6 k.a
    have hn2:=ay6 k.b
    have s1:(⟨#[32]⟩:ByteArray).size=1:=rfl
    have hy1:=aj2 (s:=t ++ { data:=#[10,114,117,108,101,32] } ++ k.name ++ { data:=#[32] } ++ k.kind ++ { data:=#[32] } ++ ax2 k.a ++ { data:=#[32] } ++ ax2 k.b) hk5
    simp only [ByteArray.size_append] at hy1
    repeat' (first|refine sk28 ?_|(intro b;conv=>whnf))
    exact ⟨(q+1,andS (t ++ { data:=#[10,114,117,108,101,32] } ++ k.name ++ { data:=#[32] } ++ k.kind ++ { data:=#[32] } ++ ax2 k.a ++ { data:=#[32] } ++ ax2 k.b) k.n),(aa2 cl2),cl3,⟨by simp only;omega,by simp only;omega⟩,by simp only;omega⟩
   ·obtain rfl:q=x.rules.length:=by omega
    rw [List.take_length] at hz
    have hzn:t.size≤1000000:=by unfold srcB at hsr;omega
    have hl:(t ++ { data:=#[10] }).size=t.size+1:=by rw [ByteArray.size_append];rfl
    repeat' (first|refine sk28 ?_|(intro b;conv=>whnf))
    exact Rt.same ⟨_,rfl,by rw [hl];unfold srcB;omega⟩
end
section
open Go
structure Good (x:Sch):Prop where
 ver:-9223372036854775807≤x.version∧x.version≤9223372036854775807
 fsane:∀ k∈x.kinds,∀ f∈k.fields,aC1 f∧(-9223372036854775807≤f.kind∧f.kind≤9223372036854775807)
 ksane:∀ k∈x.kinds,(-9223372036854775807≤k.lo∧k.lo≤9223372036854775807)∧(-9223372036854775807≤k.hi∧k.hi≤9223372036854775807)
 msane:∀ l∈x.lives,∀ m∈l.moves,(-9223372036854775807≤m.1∧m.1≤9223372036854775807)∧(-9223372036854775807≤m.2∧m.2≤9223372036854775807)
 rsane:∀ r∈x.rules,-9223372036854775807≤r.n∧r.n≤9223372036854775807
 sm:SmSch x
 src:ag5 x=true→srcB x≤8192
theorem aq4 {s:ByteArray} (h:isNm s=true):s.size≤12:=by
 simp only [isNm,ab5,Bool.and_eq_true,decide_eq_true_eq] at h
 omega
theorem ax6 {s:ByteArray} (h:isE s=true∨isNm s=true):s.size≤100000:=by
 rcases h with h|h
 ·rw [isE_size h];omega
 ·have:=aq4 h;omega
theorem fldOK_of {f:Fld} (h:aa9 f=true) (hs:aC1 f):FldOK f:=by
 simp only [aa9,Bool.and_eq_true] at h
 obtain ⟨⟨h1,h2⟩,h3⟩:=h
 simp only [ao0,Bool.and_eq_true,Bool.or_eq_true] at h2
 obtain ⟨⟨⟨⟨o1,o2⟩,_⟩,_⟩,o5⟩:=h2
 have hk:0≤f.kind∧f.kind≤8:=by
  unfold ak7 at h3
  by_cases hh:0≤f.kind∧f.kind≤8
  ·exact hh
  ·repeat rw [if_neg (by omega)] at h3
   cases h3
 have hpick:f.kind=3→af4 f.words f.weights=true:=fun e=>by
  unfold ak7 at h3
  rw [if_neg (by omega),if_neg (by omega),if_neg (by omega),if_pos e] at h3
  exact h3
 have hof:f.of.size≤100000:=by
  rcases o1 with o1|o1
  ·refine ax6 ?_
   unfold ak7 at h3
   simp only [ad5,Bool.or_eq_true,beq_iff_eq] at o1
   rcases o1 with ((((e|e)|e)|e)|e)|e <;> rw [e] at h3 <;> simp at h3 <;> first|exact .inr h3.1.1|exact .inr h3.1|exact .inr h3|exact h3.1
  ·exact ax6 (.inl o1)
 have hup:f.up.size≤100000:=by
  rcases o2 with o2|o2
  ·refine ax6 ?_
   unfold ak7 at h3
   simp only [ad4,Bool.or_eq_true,beq_iff_eq] at o2
   rcases o2 with e|e <;> rw [e] at h3 <;> simp at h3 <;> first|exact .inr h3.1.2|exact .inr h3.2
  ·exact ax6 (.inl o2)
 refine ⟨hk,hs,by have:=aq4 h1;omega,hof,hup,?_,?_,?_⟩
 ·intro s hsm
  rcases o5 with o5|o5
  ·have:=hpick (by simpa [ac1] using o5)
   simp only [af4,Bool.and_eq_true,List.all_eq_true] at this
   have:=aq4 (this.2 s hsm);omega
  ·simp only [Bool.and_eq_true,List.isEmpty_iff] at o5
   rw [o5.1] at hsm;cases hsm
 ·rcases o5 with o5|o5
  ·have:=hpick (by simpa [ac1] using o5)
   simp only [af4,ab5,Bool.and_eq_true,decide_eq_true_eq] at this
   omega
  ·simp only [Bool.and_eq_true,List.isEmpty_iff] at o5
   rw [o5.1];simp
 ·intro hu
  have:=hpick (by simpa [ac1] using hu)
  simp only [af4,Bool.and_eq_true,decide_eq_true_eq] at this
  exact this.1.1.2
theorem srcOK_of {x:Sch} (h:ag5 x=true) (g:Good x):SrcOK x:=by
 have hv:=vld_of h
 have h0:=h
 simp only [ag5,Bool.and_eq_true,decide_eq_true_eq,List.all_eq_true] at h0
 refine ⟨g.ver,fun k hk=>?_,fun l hl=>?_,fun r hr=>?_,by have:=hv.nk;omega,by have:=hv.nl;omega,by have:=hv.nr;omega,by have:=g.src h;omega⟩
 ·have hk':=hv.kinds k hk
  simp only [ag2,Bool.and_eq_true,decide_eq_true_eq,List.all_eq_true] at hk'
  exact ⟨by have:=aq4 hk'.1.1.1;omega,(g.ksane k hk).1,(g.ksane k hk).2,fun f hf=>fldOK_of (hk'.2 f hf) (g.fsane k hk f hf).1,by have:=hv.nf k hk;omega⟩
 ·have hl':=hv.lives l hl
  simp only [ag7,ab5,Bool.and_eq_true,decide_eq_true_eq,List.all_eq_true] at hl'
  exact ⟨by have:=aq4 hl'.1.1.1.1;omega,fun s hs=>by have:=aq4 (hl'.1.1.2 s hs);omega,by omega,g.msane l hl,by omega⟩
 ·have hr':=hv.rules r hr
  simp only [an3,Bool.and_eq_true,Bool.or_eq_true] at hr'
  exact ⟨by have:=aq4 hr'.1.1.1.1.1;omega,by have:=aq4 hr'.1.1.1.1.2;omega,ax6 hr'.1.1.1.2,ax6 hr'.1.1.2,g.rsane r hr⟩
end
section
open Go
structure CF (f:Fld):Prop where
 nm:f.name.size≤12
 of:f.of.size≤12
 up:f.up.size≤12
 nw:f.words.length≤3
 wd:∀ s∈f.words,s.size≤12
 ng:f.weights.length≤3
 wt:∀ n∈f.weights,-1000≤n∧n≤1000
 kd:0≤f.kind∧f.kind≤8
 lo:-1000≤f.lo∧f.lo≤1000
 hi:-1000≤f.hi∧f.hi≤1000
structure CK (k:Knd):Prop where
 nm:1≤k.name.size∧k.name.size≤12
 lo:-1000≤k.lo∧k.lo≤1000
 hi:-1000≤k.hi∧k.hi≤1000
 nf:k.fields.length≤10
 fs:∀ f∈k.fields,CF f
structure CL (l:Lif):Prop where
 nm:l.name.size≤12
 ns:l.states.length≤4
 st:∀ s∈l.states,s.size≤12
 nv:l.moves.length≤5
 mv:∀ m∈l.moves,(-1000≤m.1∧m.1≤1000)∧(-1000≤m.2∧m.2≤1000)
structure CR (r:Rul):Prop where
 nm:r.name.size≤12
 kd:r.kind.size≤12
 a:r.a.size≤12
 b:r.b.size≤12
 n:-2000≤r.n∧r.n≤2000
structure Cls (x:Sch):Prop where
 ver:-1000≤x.version∧x.version≤1000
 nk:x.kinds.length≤3
 ks:∀ k∈x.kinds,CK k
 nl:x.lives.length≤1
 ls:∀ l∈x.lives,CL l
 nr:x.rules.length≤3
 rs:∀ r∈x.rules,CR r
theorem ay2 {α:Type} {f:α→Nat} {c:Nat}:∀ {l:List α},(∀ x∈l,f x≤c)→sumB f l≤l.length*c
 | [],_=>by simp [sumB]
 | x :: l,h=>by
  have h1:=h x (by simp)
  have h2:=ay2 (l:=l) fun y hy=>h y (by simp [hy])
  simp only [sumB,List.map_cons,List.sum_cons,List.length_cons,Nat.succ_mul] at *
  omega
theorem aw2 {n:Int} (h:-9999999≤n∧n≤9999999):intB n=8:=by unfold intB;rw [if_pos h]
theorem CF.bd {f:Fld} (h:CF f):aj1 f≤200:=by
 have e1:=aw2 (n:=f.lo) (by have:=h.lo;omega)
 have e2:=aw2 (n:=f.hi) (by have:=h.hi;omega)
 have e3:=aw2 (n:=f.words.length) (by have:=h.nw;omega)
 have s1:(f.words.map fun s=>1+s.size).sum≤f.words.length*13:=ay2 (f:=fun s:ByteArray=>1+s.size) fun s hs=>by have:=h.wd s hs;omega
 have s2:(f.weights.map fun n=>1+intB n).sum≤f.weights.length*9:=ay2 (f:=fun n=>1+intB n) fun n hn=>by have:=aw2 (n:=n) (by have:=h.wt n hn;omega);omega
 have h1:=h.nm;have h2:=h.of;have h3:=h.up;have h4:=h.nw;have h5:=h.ng
 unfold aj1
 omega
theorem CK.bd {k:Knd} (h:CK k):kndB k≤2100:=by
 have e1:=aw2 (n:=k.lo) (by have:=h.lo;omega)
 have e2:=aw2 (n:=k.hi) (by have:=h.hi;omega)
 have s1:=ay2 (f:=aj1) (c:=200) fun f hf=>(h.fs f hf).bd
 have h1:=h.nm;have h2:=h.nf
 unfold kndB
 omega
theorem CL.bd {l:Lif} (h:CL l):lifB l≤300:=by
 have e1:=aw2 (n:=l.states.length) (by have:=h.ns;omega)
 have s1:=ay2 (f:=fun s:ByteArray=>1+s.size) (c:=13) fun s hs=>by have:=h.st s hs;show 1+s.size≤13;omega
 have s2:=ay2 (f:=movB) (c:=23) fun m hm=>by
  have:=h.mv m hm
  unfold movB
  rw [aw2 (by omega),aw2 (by omega)]
  omega
 have h1:=h.nm;have h2:=h.ns;have h3:=h.nv
 unfold lifB
 omega
theorem CR.bd {r:Rul} (h:CR r):rulB r≤100:=by
 have e1:=aw2 (n:=r.n) (by have:=h.n;omega)
 have h1:=h.nm;have h2:=h.kd;have h3:=h.a;have h4:=h.b
 unfold rulB
 omega
theorem Cls.src {x:Sch} (h:Cls x):srcB x≤8192:=by
 have s1:=ay2 (f:=kndB) fun k hk=>(h.ks k hk).bd
 have s2:=ay2 (f:=lifB) fun k hk=>(h.ls k hk).bd
 have s3:=ay2 (f:=rulB) fun k hk=>(h.rs k hk).bd
 have h1:=h.nk;have h2:=h.nl;have h3:=h.nr
 unfold srcB
 omega
theorem CF.sm {f:Fld} (h:CF f):SmF f:=⟨by have:=h.nm;unfold SmS;omega,by have:=h.of;unfold SmS;omega,by have:=h.up;unfold SmS;omega,fun s hs=>by have:=h.wd s hs;unfold SmS;omega,by have:=h.nw;omega,by have:=h.ng;omega⟩
theorem Cls.good {x:Sch} (h:Cls x):Good x where
 ver:=by have:=h.ver;omega
 fsane:=fun k hk f hf=>by
  have:=(h.ks k hk).fs f hf
  exact ⟨⟨by have:=this.lo;omega,by have:=this.hi;omega,fun n hn=>by have:=this.wt n hn;omega⟩,by have:=this.kd;omega⟩
 ksane:=fun k hk=>by have:=h.ks k hk;have h1:=this.lo;have h2:=this.hi;omega
 msane:=fun l hl m hm=>by have:=(h.ls l hl).mv m hm;omega
 rsane:=fun r hr=>by have:=(h.rs r hr).n;omega
 sm:={
  kinds:=fun k hk=>⟨by have:=(h.ks k hk).nm;unfold SmS;omega,fun f hf=>((h.ks k hk).fs f hf).sm,by have:=(h.ks k hk).nf;omega⟩
  lives:=fun l hl=>⟨by have:=(h.ls l hl).nm;unfold SmS;omega,fun s hs=>by have:=(h.ls l hl).st s hs;unfold SmS;omega,by have:=(h.ls l hl).ns;omega,by have:=(h.ls l hl).nv;omega⟩
  rules:=fun r hr=>by have:=h.rs r hr;exact ⟨by have:=this.nm;unfold SmS;omega,by have:=this.kd;unfold SmS;omega,by have:=this.a;unfold SmS;omega,by have:=this.b;unfold SmS;omega⟩
  nkinds:=by have:=h.nk;omega
  nlives:=by have:=h.nl;omega
  nrules:=by have:=h.nr;omega }
 src:=fun _=>h.src
end
section
open Go
theorem CF.e0 {nm of up:ByteArray} {kd lo hi:Int} (h1:nm.size≤12) (h2:of.size≤12) (h3:up.size≤12) (h4:0≤kd∧kd≤8) (h5:-1000≤lo∧lo≤1000) (h6:-1000≤hi∧hi≤1000):CF ⟨nm,of,up,kd,lo,hi,[],[]⟩:=
 ⟨h1,h2,h3,by simp,by simp,by simp,by simp,h4,h5,h6⟩
theorem PlainF.cf {fs:List Fld} (h:PlainF fs):fs.length≤2∧∀ f∈fs,CF f:=by
 cases h with
 | none=>exact ⟨by simp,by simp⟩
 | size a b ha hb=>exact ⟨by simp,fun f hf=>by rw [List.mem_singleton] at hf;subst hf;exact .e0 (by decide) (by decide) (by decide) (by omega) (by omega) (by omega)⟩
 | tag n ws hn hw h0 h1=>
  refine ⟨by simp,fun f hf=>?_⟩
  rw [List.mem_singleton] at hf
  subst hf
  refine ⟨show nTag.size≤12 by decide,show nE.size≤12 by decide,show nE.size≤12 by decide,?_,fun s hs=>?_,by show ws.length≤3;omega,fun z hz=>?_,show (0:Int)≤3∧(3:Int)≤8 by decide,show (-1000:Int)≤0∧(0:Int)≤1000 by decide,show (-1000:Int)≤0∧(0:Int)≤1000 by decide⟩
  ·show (List.take n _).length≤3
   rw [List.length_take];simp;omega
  ·have:=List.mem_of_mem_take hs
   simp only [List.mem_cons,List.not_mem_nil,or_false] at this
   rcases this with rfl|rfl|rfl <;> decide
  ·have:=h0 z hz;omega
 | born a b c d ha hb hc hd=>
  refine ⟨by simp,fun f hf=>?_⟩
  simp only [List.mem_cons,List.not_mem_nil,or_false] at hf
  rcases hf with rfl|rfl
  ·exact .e0 (by decide) (by decide) (by decide) (by omega) (by omega) (by omega)
  ·exact .e0 (by decide) (by decide) (by decide) (by omega) (by omega) (by omega)
 | state a b ha hb=>exact ⟨by simp,fun f hf=>by rw [List.mem_singleton] at hf;subst hf;exact .e0 (by decide) (by decide) (by decide) (by omega) (by omega) (by omega)⟩
 | low a b c d ha hb hc hd=>
  refine ⟨by simp,fun f hf=>?_⟩
  simp only [List.mem_cons,List.not_mem_nil,or_false] at hf
  rcases hf with rfl|rfl
  ·exact .e0 (by decide) (by decide) (by decide) (by omega) (by omega) (by omega)
  ·exact .e0 (by decide) (by decide) (by decide) (by omega) (by omega) (by omega)
structure CK1 (k:Knd):Prop where
 ck:CK k
 one:k.fields.length≤9∨0≤ao8 k.fields ar5
theorem knm_sz (n:Nat) (h:n≤2):1≤(knm n).size∧(knm n).size≤12:=by
 rcases n with _ | _ | _|n
 ·decide
 ·decide
 ·decide
 ·omega
theorem RefP.cf {ks ks':List Knd} {nm:ByteArray} {f1:List Fld} (h:RefP ks nm f1 ks') (hn:nm.size≤12) (hk:∀ k∈ks,CK1 k):(f1.length≤3∧∀ f∈f1,CF f)∧ks'.length=ks.length∧∀ k∈ks',CK1 k:=by
 have ofc:∀ {to:Nat} {y:Knd} {lo hi:Int},ks[to]?=some y→(lo=0∨lo=1)→hi∈[(4:Int),3,8,2]→CF (ofF y lo hi):=fun hy hl hh=>by
  have:=(hk _ (List.mem_of_getElem? hy)).ck.nm
  simp only [List.mem_cons,List.not_mem_nil,or_false] at hh
  exact .e0 (by decide) (by omega) (by decide) (by decide) (by omega) (by omega)
 have smc:∀ {to:Nat} {y:Knd} {sm:List Fld},ks[to]?=some y→(sm=[]∨∃ g,0≤ar7 y∧y.fields[(ar7 y).toNat]?=some g∧sm=[av9 g.name])→sm.length≤1∧∀ f∈sm,CF f:=fun hy hs=>by
  rcases hs with rfl|⟨g,_,hg,rfl⟩
  ·exact ⟨by simp,by simp⟩
  ·have:=((hk _ (List.mem_of_getElem? hy)).ck.fs g (List.mem_of_getElem? hg)).nm
   exact ⟨by simp,fun f hf=>by rw [List.mem_singleton] at hf;subst hf;exact .e0 (by decide) (by omega) (by decide) (by decide) (by decide) (by decide)⟩
 cases h with
 | none h=>exact ⟨⟨by simp,by simp⟩,rfl,hk⟩
 | of to y lo hi sm hy hl hh hs=>
  have h1:=ofc hy hl hh
  have h2:=smc hy hs
  exact ⟨⟨by have:=h2.1;simp only [List.length_cons];omega,fun f hf=>by
   rcases List.mem_cons.1 hf with rfl|hf
   ·exact h1
   ·exact h2.2 f hf⟩,rfl,hk⟩
 | part to y lo hi a b sm hy hl hh hs ht ha hb=>
  have h1:=ofc hy hl hh
  have h2:=smc hy hs
  have h3:=hk _ (List.mem_of_getElem? hy)
  refine ⟨⟨by have:=h2.1;simp only [List.length_cons,List.length_append,List.length_nil];omega,fun f hf=>?_⟩,List.length_set ..,fun k hk'=>?_⟩
  ·rcases List.mem_cons.1 hf with rfl|hf
   ·exact h1
   ·rcases List.mem_append.1 hf with hf|hf
    ·exact h2.2 f hf
    ·rw [List.mem_singleton] at hf;subst hf;exact .e0 (by decide) (by decide) (by decide) (by decide) (by omega) (by omega)
  ·rcases List.mem_or_eq_of_mem_set hk' with h|rfl
   ·exact hk k h
   ·refine ⟨⟨h3.ck.nm,h3.ck.lo,h3.ck.hi,?_,fun f hf=>?_⟩,.inr ?_⟩
    ·show (y.fields ++ [totF nm]).length≤10
     rw [List.length_append]
     have:=h3.one
     simp only [List.length_cons,List.length_nil]
     omega
    ·rcases List.mem_append.1 hf with hf|hf
     ·exact h3.ck.fs f hf
     ·rw [List.mem_singleton] at hf;subst hf;exact .e0 (by decide) hn (by decide) (by decide) (by decide) (by decide)
    ·have:=ar3 (fun f:Fld=>seq f.name ar5) (y.fields ++ [totF nm])
     rw [List.any_append,show List.any [totF nm] (fun f=>seq f.name ar5)=true by simp [totF,au7],Bool.or_true] at this
     exact of_decide_eq_true this
theorem KMade.cls {ks ks':List Knd} {k:Knd} (h:KMade ks k ks') (hl:ks.length≤2) (hk:∀ k∈ks,CK1 k):CK1 k∧ks'.length=ks.length∧∀ k∈ks',CK1 k:=by
 obtain ⟨lo,r,idl,f1,f2,p1,p2,h1,h2,h3,rfl,h5,h6,h7,h8,_⟩:=h.ex
 have hn:=knm_sz ks.length hl
 obtain ⟨⟨q1,q2⟩,q3,q4⟩:=h5.cf hn.2 hk
 have q5:=h7.cf
 have q6:=h8.cf
 have q7:f2.length≤1∧∀ f∈f2,CF f:=by
  rcases h6 with rfl|⟨y,hy,_,rfl⟩
  ·exact ⟨by simp,by simp⟩
  ·have:=(hk _ (List.mem_of_getElem? hy)).ck.nm
   exact ⟨by simp,fun f hf=>by rw [List.mem_singleton] at hf;subst hf;exact .e0 (by decide) (by omega) (by decide) (by decide) (by decide) (by decide)⟩
 have hlen:(idF idl :: (f1 ++ (f2 ++ (p1 ++ p2)))).length≤9:=by
  simp only [List.length_cons,List.length_append];omega
 simp only [List.mem_cons,List.not_mem_nil,or_false] at h1 h3
 refine ⟨⟨⟨hn,by show -1000≤lo∧lo≤1000;omega,by show -1000≤lo+r∧lo+r≤1000;omega,by show List.length (idF idl :: (f1 ++ (f2 ++ (p1 ++ p2))))≤10;omega,fun f hf=>?_⟩,.inl hlen⟩,q3,q4⟩
 rcases List.mem_cons.1 hf with rfl|hf
 ·exact .e0 (by decide) (by decide) (by decide) (by decide) (by omega) (by decide)
 ·rcases List.mem_append.1 hf with hf|hf
  ·exact q2 f hf
  ·rcases List.mem_append.1 hf with hf|hf
   ·exact q7.2 f hf
   ·rcases List.mem_append.1 hf with hf|hf
    ·exact q5.2 f hf
    ·exact q6.2 f hf
end
end Go.Proofs.YtjbbmjjildhfbaaGreatDoor
