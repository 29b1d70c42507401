/- A part of the proof: R09b R09c Cv R09d R09e R09f R09g Br Cg Xi Hb Hc Hd Hk. -/
import Derived.Test.YtlcfiilejnnlnaaGreatDoorB14
import Derived.Laws.IdiomStrings
import Derived.Laws.StructEq
import Derived.ChangeKeysEq
set_option maxRecDepth 100000
set_option maxHeartbeats 20000000
set_option linter.unusedVariables false
set_option linter.unusedSimpArgs false
namespace Go.Proofs.YtlcfiilejnnlnaaGreatDoor
section
open Go
theorem neE (s:ByteArray):(!(s.toList == (⟨#[]⟩:ByteArray).toList))=!isE s:=by rw [eqE]
theorem emp2 (a:List ByteArray) (b:List Int):(a.isEmpty && b.isEmpty)=decide (¬ (0<(a.length:Int)+b.length)):=by
 cases a <;> cases b <;> simp <;> omega
theorem sk90 {A B:Prop} (k:B) (h:Hd7 B→A:=by intro hk7q;(first|refine sb0 ?_|refine sb1 ?_|((with_reducible refine' Cp.by ?hc ?_);(case hc=>first|exact HU|exact al0 _|exact ah8 _ _ _|exact ax4 _ _ _ _|exact aO0 _ (by assumption) (by assumption)))|((with_reducible refine' CE.pure ?hc ?_);(case hc=>first|exact HU|exact al0 _|exact ah8 _ _ _|exact ax4 _ _ _ _|exact aO0 _ (by assumption) (by assumption))));exact hk7q.run):A:=h ⟨k⟩
theorem aS6 (f:Fld) (hw:f.words.length≤1000000) (hg:f.weights.length≤1000000) (hk:f.kind=0):APure Tryz.prog 212 [fldD f] (bD (ac3 f)):=by
 refine eP7 Tryz.func212 Tryz.ntmps212 fun BB=>?_
 have HU:APure Tryz.prog 244 [iD f.kind] (.tup [bD false,bD false,bD true,bD false,bD false]):=by rw [hk];exact an4 0
 repeat' first|refine sk90 ?_|(intro b;conv=>whnf)|(with_reducible refine Br.d (fun hc=>?_) (fun hc=>?_))|(with_reducible refine Br.b (fun hc=>?_) (fun hc=>?_))
 all_goals (refine Rt.pure (congrArg bD ?_);(try simp only [neE,eqE] at *);simp [ac3,aB1,aw6,ar0,aq9,ar1,aq1,aq0,emp2, *])
theorem aS5 (f:Fld) (hw:f.words.length≤1000000) (hg:f.weights.length≤1000000) (hk:f.kind=1):APure Tryz.prog 212 [fldD f] (bD (ac3 f)):=by
 refine eP7 Tryz.func212 Tryz.ntmps212 fun BB=>?_
 have HU:APure Tryz.prog 244 [iD f.kind] (.tup [bD true,bD false,bD true,bD true,bD false]):=by rw [hk];exact an4 1
 repeat' first|refine sk90 ?_|(intro b;conv=>whnf)|(with_reducible refine Br.d (fun hc=>?_) (fun hc=>?_))|(with_reducible refine Br.b (fun hc=>?_) (fun hc=>?_))
 all_goals (refine Rt.pure (congrArg bD ?_);(try simp only [neE,eqE] at *);simp [ac3,aB1,aw6,ar0,aq9,ar1,aq1,aq0,emp2, *])
theorem aS4 (f:Fld) (hw:f.words.length≤1000000) (hg:f.weights.length≤1000000) (hk:f.kind=2):APure Tryz.prog 212 [fldD f] (bD (ac3 f)):=by
 refine eP7 Tryz.func212 Tryz.ntmps212 fun BB=>?_
 have HU:APure Tryz.prog 244 [iD f.kind] (.tup [bD false,bD false,bD true,bD true,bD false]):=by rw [hk];exact an4 2
 repeat' first|refine sk90 ?_|(intro b;conv=>whnf)|(with_reducible refine Br.d (fun hc=>?_) (fun hc=>?_))|(with_reducible refine Br.b (fun hc=>?_) (fun hc=>?_))
 all_goals (refine Rt.pure (congrArg bD ?_);(try simp only [neE,eqE] at *);simp [ac3,aB1,aw6,ar0,aq9,ar1,aq1,aq0,emp2, *])
theorem aS3 (f:Fld) (hw:f.words.length≤1000000) (hg:f.weights.length≤1000000) (hk:f.kind=3):APure Tryz.prog 212 [fldD f] (bD (ac3 f)):=by
 refine eP7 Tryz.func212 Tryz.ntmps212 fun BB=>?_
 have HU:APure Tryz.prog 244 [iD f.kind] (.tup [bD false,bD false,bD false,bD false,bD true]):=by rw [hk];exact an4 3
 repeat' first|refine sk90 ?_|(intro b;conv=>whnf)|(with_reducible refine Br.d (fun hc=>?_) (fun hc=>?_))|(with_reducible refine Br.b (fun hc=>?_) (fun hc=>?_))
 all_goals (refine Rt.pure (congrArg bD ?_);(try simp only [neE,eqE] at *);simp [ac3,aB1,aw6,ar0,aq9,ar1,aq1,aq0,emp2, *])
theorem aS2 (f:Fld) (hw:f.words.length≤1000000) (hg:f.weights.length≤1000000) (hk:f.kind=4):APure Tryz.prog 212 [fldD f] (bD (ac3 f)):=by
 refine eP7 Tryz.func212 Tryz.ntmps212 fun BB=>?_
 have HU:APure Tryz.prog 244 [iD f.kind] (.tup [bD true,bD false,bD true,bD true,bD false]):=by rw [hk];exact an4 4
 repeat' first|refine sk90 ?_|(intro b;conv=>whnf)|(with_reducible refine Br.d (fun hc=>?_) (fun hc=>?_))|(with_reducible refine Br.b (fun hc=>?_) (fun hc=>?_))
 all_goals (refine Rt.pure (congrArg bD ?_);(try simp only [neE,eqE] at *);simp [ac3,aB1,aw6,ar0,aq9,ar1,aq1,aq0,emp2, *])
theorem aS1 (f:Fld) (hw:f.words.length≤1000000) (hg:f.weights.length≤1000000) (hk:f.kind=5):APure Tryz.prog 212 [fldD f] (bD (ac3 f)):=by
 refine eP7 Tryz.func212 Tryz.ntmps212 fun BB=>?_
 have HU:APure Tryz.prog 244 [iD f.kind] (.tup [bD true,bD false,bD true,bD true,bD false]):=by rw [hk];exact an4 5
 repeat' first|refine sk90 ?_|(intro b;conv=>whnf)|(with_reducible refine Br.d (fun hc=>?_) (fun hc=>?_))|(with_reducible refine Br.b (fun hc=>?_) (fun hc=>?_))
 all_goals (refine Rt.pure (congrArg bD ?_);(try simp only [neE,eqE] at *);simp [ac3,aB1,aw6,ar0,aq9,ar1,aq1,aq0,emp2, *])
theorem aS0 (f:Fld) (hw:f.words.length≤1000000) (hg:f.weights.length≤1000000) (hk:f.kind=6):APure Tryz.prog 212 [fldD f] (bD (ac3 f)):=by
 refine eP7 Tryz.func212 Tryz.ntmps212 fun BB=>?_
 have HU:APure Tryz.prog 244 [iD f.kind] (.tup [bD true,bD false,bD false,bD false,bD false]):=by rw [hk];exact an4 6
 repeat' first|refine sk90 ?_|(intro b;conv=>whnf)|(with_reducible refine Br.d (fun hc=>?_) (fun hc=>?_))|(with_reducible refine Br.b (fun hc=>?_) (fun hc=>?_))
 all_goals (refine Rt.pure (congrArg bD ?_);(try simp only [neE,eqE] at *);simp [ac3,aB1,aw6,ar0,aq9,ar1,aq1,aq0,emp2, *])
theorem aR9 (f:Fld) (hw:f.words.length≤1000000) (hg:f.weights.length≤1000000) (hk:f.kind=7):APure Tryz.prog 212 [fldD f] (bD (ac3 f)):=by
 refine eP7 Tryz.func212 Tryz.ntmps212 fun BB=>?_
 have HU:APure Tryz.prog 244 [iD f.kind] (.tup [bD true,bD true,bD true,bD true,bD false]):=by rw [hk];exact an4 7
 repeat' first|refine sk90 ?_|(intro b;conv=>whnf)|(with_reducible refine Br.d (fun hc=>?_) (fun hc=>?_))|(with_reducible refine Br.b (fun hc=>?_) (fun hc=>?_))
 all_goals (refine Rt.pure (congrArg bD ?_);(try simp only [neE,eqE] at *);simp [ac3,aB1,aw6,ar0,aq9,ar1,aq1,aq0,emp2, *])
theorem aR8 (f:Fld) (hw:f.words.length≤1000000) (hg:f.weights.length≤1000000) (hk:f.kind=8):APure Tryz.prog 212 [fldD f] (bD (ac3 f)):=by
 refine eP7 Tryz.func212 Tryz.ntmps212 fun BB=>?_
 have HU:APure Tryz.prog 244 [iD f.kind] (.tup [bD true,bD true,bD false,bD false,bD false]):=by rw [hk];exact an4 8
 repeat' first|refine sk90 ?_|(intro b;conv=>whnf)|(with_reducible refine Br.d (fun hc=>?_) (fun hc=>?_))|(with_reducible refine Br.b (fun hc=>?_) (fun hc=>?_))
 all_goals (refine Rt.pure (congrArg bD ?_);(try simp only [neE,eqE] at *);simp [ac3,aB1,aw6,ar0,aq9,ar1,aq1,aq0,emp2, *])
theorem aR7 (f:Fld) (hw:f.words.length≤1000000) (hg:f.weights.length≤1000000) (hk:f.kind<0∨8<f.kind):APure Tryz.prog 212 [fldD f] (bD (ac3 f)):=by
 refine eP7 Tryz.func212 Tryz.ntmps212 fun BB=>?_
 have HU:=an4 f.kind
 unfold bQ4 at HU
 have:ac3 f=false:=by
  have:aw6 f=false:=by unfold aw6;repeat (rw [if_neg (by omega)])
  simp [ac3,this]
 rw [this]
 repeat' first|refine sk90 ?_|(intro b;conv=>whnf)|(with_reducible refine Br.d (fun hc=>?_) (fun hc=>?_))|(with_reducible refine Br.b (fun hc=>?_) (fun hc=>?_))
 all_goals (refine Rt.pure (congrArg bD ?_);rfl)
theorem aJ6 (f:Fld) (hw:f.words.length≤1000000) (hg:f.weights.length≤1000000):APure Tryz.prog 212 [fldD f] (bD (ac3 f)):=by
 by_cases hn:f.kind<0∨8<f.kind
 ·exact aR7 f hw hg hn
 ·have:f.kind=0∨f.kind=1∨f.kind=2∨f.kind=3∨f.kind=4∨f.kind=5∨f.kind=6∨f.kind=7∨f.kind=8:=by omega
  rcases this with h|h|h|h|h|h|h|h|h
  ·exact aS6 f hw hg h
  ·exact aS5 f hw hg h
  ·exact aS4 f hw hg h
  ·exact aS3 f hw hg h
  ·exact aS2 f hw hg h
  ·exact aS1 f hw hg h
  ·exact aS0 f hw hg h
  ·exact aR9 f hw hg h
  ·exact aR8 f hw hg h
end
section
open Go
theorem sk91 {A B:Prop} (k:B) (h:Hd7 B→A:=by intro hk7q;(first|refine sb0 ?_|refine sb1 ?_|((with_reducible refine' Cp.by ?hc ?_);(case hc=>first|exact al0 _|exact ah8 _ _ _|exact ax4 _ _ _ _|exact aJ6 _ (hs _ (List.mem_of_getElem? hy)).w (hs _ (List.mem_of_getElem? hy)).g))|((with_reducible refine' CE.pure ?hc ?_);(case hc=>first|exact al0 _|exact ah8 _ _ _|exact ax4 _ _ _ _|exact aJ6 _ (hs _ (List.mem_of_getElem? hy)).w (hs _ (List.mem_of_getElem? hy)).g)));exact hk7q.run):A:=h ⟨k⟩
theorem sk92 {A B:Prop} (k:B) (h:Hd7 B→A:=by intro hk7q;(first|refine sb0 ?_|refine sb1 ?_|((with_reducible refine' Cp.by ?hc ?_);(case hc=>first|exact al0 _|exact ah8 _ _ _|exact aA6 _ (by assumption)))|((with_reducible refine' CE.pure ?hc ?_);(case hc=>first|exact al0 _|exact ah8 _ _ _|exact aA6 _ (by assumption))));exact hk7q.run):A:=h ⟨k⟩
end
section
open Go Go.RowKit Go.Shelf
section
variable {P:Program} {σ:aa1} {ρ:Operand→D}
theorem cb7 {o:Oper} {s d:TypeId} {x:Operand} {k:IntKind} {n:Int} (ho:o.op = .convert s d x) (hx:ρ x = .v (.int k n)) {ds:TypeDesc} (h1:P.underlying s=some ds) (h2:P.underlying d=some (.int .u8)) (hn:0≤n∧n<256) :
  Yd P o ρ σ (.v (.int .u8 (UInt8.ofNat n.toNat).toNat)):=by
 intro w X η hη hst
 obtain ⟨dst,op,ty,pos,aft,g⟩:=o
 simp only at ho
 subst ho
 have h:=(hη x (by simp [Op.operands])).val hx
 refine ac8 (s:=convert s d (η x)) (u:=.int .u8 (UInt8.ofNat n.toNat).toNat) ?_ (Ex.refl w) (.v _)
 rw [h]
 have e:IntKind.u8.wrap n=((UInt8.ofNat n.toNat).toNat:Int):=by
  have h3:(UInt8.ofNat n.toNat).toNat=n.toNat % 256:=by simp
  rw [h3]
  have h4:IntKind.u8.wrap n=n:=by
   simp only [IntKind.wrap]
   first|omega|(simp [IntKind.bits,IntKind.signed];omega)
  rw [h4];omega
 cases ds <;> simp [convert,run_underlying h1,run_underlying h2,Conv.intToInt,e]
theorem bP6 {o:Oper} {s d e:TypeId} {x:Operand} {c:UInt8} (ho:o.op = .convert s d x) (hx:ρ x = .sl 1 [[.v (.int .u8 c.toNat)]]) (h1:P.underlying s=some (.slice e)) (h2:P.underlying e=some (.int .u8)) (h3:P.underlying d=some .string) :
  Yd P o ρ σ (.v (.string ⟨#[c]⟩)):=by
 intro w X η hη hst
 obtain ⟨dst,op,ty,pos,aft,g⟩:=o
 simp only at ho
 subst ho
 have h:=hη x (by simp [Op.operands])
 rw [hx] at h
 obtain ⟨a,cap,vs,hv,hle,hk,hc,hr⟩:=h.sl_inv
 obtain ⟨b,off,rfl,_,_,hcell⟩:=hc 0 _ rfl
 have h4:=hcell 0 (by omega)
 have h5:=(hr 0 _ rfl 0 _ rfl).val rfl
 refine ac8 (s:=convert s d (η x)) (u:=.string ⟨#[c]⟩) ?_ (Ex.refl w) (.v _)
 rw [hv]
 have:=run_convert_bytes_back (P:=P) w s d e ⟨b,off,none⟩ cap [c] h1 h2 h3 (fun j hj=>by
  have:j=0:=by simpa using hj
  subst this
  simpa [Addr.add,h5] using h4)
 simpa using this
end
end
section
open Go
theorem bM1 (m:Nat):((m:Int).tdiv 10)=((m / 10:Nat):Int):=rfl
theorem cd1 (m:Nat):((m:Int).tmod 10)=((m % 10:Nat):Int):=rfl
theorem sb93 {A B:Prop} (k:B) (h:Hd7 B→A:=by intro hk7q;(first|((with_reducible refine W.mk ?_);(conv=>whnf))|(with_reducible refine Br.tt ?_)|(with_reducible refine Br.ff ?_)|(with_reducible refine Br.n ?_)|((with_reducible refine' Br.eq ?h ?_);(case h=>(simp only [List.length_map,List.length_take,List.length_append,List.length_cons,List.length_nil,List.length_replicate,Nat.reduceAdd];exact rfl)))|((with_reducible refine Sd.go ?qs7 ?_);(case qs7=>first|trivial|(constructor <;> omega)|omega|assumption|((try simp only [List.length_map,List.length_take,List.length_append,List.length_cons,List.length_nil,List.length_replicate,Nat.reduceAdd] at *);first|(constructor <;> omega)|omega)))|((with_reducible refine Ck.go ?qs7 ?_);(case qs7=>kernel_rfl))|((with_reducible refine' Ix.mapAt ?hy ?h0 ?_);(case hy=>assumption);(case h0=>omega))|((with_reducible refine' Ix.at ?hy ?h0 ?_);(case hy=>exact rfl);(case h0=>omega))|((with_reducible refine Ix.mapM ?h0 ?_);(case h0=>first|omega|(simp only [List.length_map,List.length_take,List.length_append,List.length_cons,List.length_nil,List.length_replicate,Nat.reduceAdd] at *;omega)))|((with_reducible refine' Ld.at 0 ?h1 ?h2 ?h3 ?_);(case h1=>exact rfl);(case h2=>exact rfl);(case h3=>exact rfl))|((with_reducible refine' Ld.at 1 ?h1 ?h2 ?h3 ?_);(case h1=>exact rfl);(case h2=>exact rfl);(case h3=>exact rfl))|((with_reducible refine' Ld.at 2 ?h1 ?h2 ?h3 ?_);(case h1=>exact rfl);(case h2=>exact rfl);(case h3=>exact rfl))|((with_reducible refine' Sv.at 0 ?h1 ?h2 ?h3 ?h4 ?h5 ?_);(case h1=>exact rfl);(case h2=>exact rfl);(case h3=>exact rfl);(case h4=>exact rfl);(case h5=>exact (by first|(simp only [List.set_cons_succ,List.set_cons_zero,spl,ad8,mkD,List.take_succ_cons,List.take_zero,List.drop_succ_cons,List.drop_zero,List.length_cons,List.length_nil,List.nil_append,List.cons_append,Nat.reduceAdd,Nat.zero_add,List.append_nil,List.map_cons,List.map_nil];rfl)|rfl)))|((with_reducible refine' Sv.at 1 ?h1 ?h2 ?h3 ?h4 ?h5 ?_);(case h1=>exact rfl);(case h2=>exact rfl);(case h3=>exact rfl);(case h4=>exact rfl);(case h5=>exact (by first|(simp only [List.set_cons_succ,List.set_cons_zero,spl,ad8,mkD,List.take_succ_cons,List.take_zero,List.drop_succ_cons,List.drop_zero,List.length_cons,List.length_nil,List.nil_append,List.cons_append,Nat.reduceAdd,Nat.zero_add,List.append_nil,List.map_cons,List.map_nil];rfl)|rfl)))|((with_reducible refine' Sv.at 2 ?h1 ?h2 ?h3 ?h4 ?h5 ?_);(case h1=>exact rfl);(case h2=>exact rfl);(case h3=>exact rfl);(case h4=>exact rfl);(case h5=>exact (by first|(simp only [List.set_cons_succ,List.set_cons_zero,spl,ad8,mkD,List.take_succ_cons,List.take_zero,List.drop_succ_cons,List.drop_zero,List.length_cons,List.length_nil,List.nil_append,List.cons_append,Nat.reduceAdd,Nat.zero_add,List.append_nil,List.map_cons,List.map_nil];rfl)|rfl)))|((with_reducible refine' Ot.yd ?hyd ?_);(case hyd=>first|(refine cb7 rfl rfl Tryz.underlying3 Tryz.underlying5 ?_;omega)|exact bP6 rfl rfl Tryz.underlying23 Tryz.underlying5 Tryz.underlying9))|((with_reducible refine' Rs.tc aa0 (m:=0) ?h ?hi ?hj ?hb ?ht ?hag ?hs ?_);(case h=>exact rfl);(case hi=>exact rfl);(case hj=>exact rfl);(case hb=>exact rfl);(case ht=>exact rfl);(case hag=>exact rfl);(case hs=>exact rfl))|((with_reducible refine' Rs.ct aa0 (m:=0) ?h ?hi ?hj ?hb ?ht ?hag ?hs ?_);(case h=>exact rfl);(case hi=>exact rfl);(case hj=>exact rfl);(case hb=>exact rfl);(case ht=>exact rfl);(case hag=>exact rfl);(case hs=>exact rfl))|((with_reducible refine' Rs.c aa0 (m:=0) ?h ?hj ?hb ?ht ?hag ?hs ?_);(case h=>exact rfl);(case hj=>exact rfl);(case hb=>exact rfl);(case ht=>exact rfl);(case hag=>exact rfl);(case hs=>exact rfl))|((with_reducible refine Br.dt ?h ?_);(case h=>omega))|((with_reducible refine Br.df ?h ?_);(case h=>omega))|((with_reducible refine Br.t ?h ?_);(case h=>assumption))|((with_reducible refine Br.f ?h ?_);(case h=>assumption))|((with_reducible refine Br.t ?h ?_);(case h=>(refine decide_eq_true ?_;omega)))|((with_reducible refine Br.f ?h ?_);(case h=>(refine decide_eq_false ?_;omega))));exact hk7q.run):A:=h ⟨k⟩
theorem sk94 {A B:Prop} (k:B) (h:Hd7 B→A:=by intro hk7q;(first|refine sb93 ?_|refine sb1 ?_|((with_reducible refine' Cp.by ?hc ?_);(case hc=>exact IH))|((with_reducible refine' CE.pure ?hc ?_);(case hc=>exact IH)));exact hk7q.run):A:=h ⟨k⟩
theorem bj8:∀ m:Nat,m≤9223372036854775807→APure Tryz.prog 246 [iD m] (sD (decN m)):=by
 intro m
 induction m using Nat.strongRecOn with
 | ind m ih=>
 intro hm
 refine eP7 Tryz.func246 Tryz.ntmps246 fun BB=>?_
 by_cases h:m<10
 ·repeat' first|refine sk94 ?_|(intro b;conv=>whnf)
  refine Rt.pure (congrArg sD ?_)
  rw [aE2 h];rfl
 ·have IH:=ih (m / 10) (by omega) (by omega)
  rw [← bM1] at IH
  have h1:((m:Int).tmod 10)=((m % 10:Nat):Int):=cd1 m
  have hsz:=aq5 18 (m / 10) (by omega)
  have one:(⟨#[UInt8.ofNat (48+(m:Int).tmod 10).toNat]⟩:ByteArray).size=1:=rfl
  repeat' first|refine sk94 ?_|(intro b;conv=>whnf)
  refine Sd.go ⟨by decide,by rw [bM1];constructor <;> omega⟩ ?_
  repeat' first|refine sk94 ?_|(intro b;conv=>whnf)
  refine Rt.pure (congrArg sD ?_)
  rw [aP3 h];rfl
theorem sk95 {A B:Prop} (k:B) (h:Hd7 B→A:=by intro hk7q;(first|refine sb93 ?_|refine sb1 ?_|((with_reducible refine' Cp.by ?hc ?_);(case hc=>exact HN))|((with_reducible refine' CE.pure ?hc ?_);(case hc=>exact HN)));exact hk7q.run):A:=h ⟨k⟩
theorem bu5 (n:Int) (h:-9223372036854775807≤n∧n≤9223372036854775807):APure Tryz.prog 246 [iD n] (sD (decS n)):=by
 by_cases h0:n<0
 ·have HN:=bj8 (-n).toNat (by omega)
  rw [show (((-n).toNat:Nat):Int) = -n by omega] at HN
  have hsz:=aq5 18 (-n).toNat (by omega)
  have one:(⟨#[45]⟩:ByteArray).size=1:=rfl
  refine eP7 Tryz.func246 Tryz.ntmps246 fun BB=>?_
  repeat' first|refine sk95 ?_|(intro b;conv=>whnf)
  refine Rt.pure (congrArg sD ?_)
  unfold decS;rw [if_pos h0]
 ·have:=bj8 n.toNat (by omega)
  rw [show ((n.toNat:Nat):Int)=n by omega] at this
  unfold decS;rw [if_neg h0];exact this
theorem sk96 {A B:Prop} (k:B) (h:Hd7 B→A:=by intro hk7q;(first|refine sb93 ?_|refine sb1 ?_|((with_reducible refine' Cp.by ?hc ?_);(case hc=>exact bu5 _ (by assumption)))|((with_reducible refine' CE.pure ?hc ?_);(case hc=>exact bu5 _ (by assumption))));exact hk7q.run):A:=h ⟨k⟩
theorem aS7 (s:ByteArray) (n:Int) (hs:s.size≤1000000000) (h:-9223372036854775807≤n∧n≤9223372036854775807):APure Tryz.prog 214 [sD s,iD n] (sD (andS s n)):=by
 have h1:=ba1 h
 have h2:=ae6 n
 have one:(⟨#[32]⟩:ByteArray).size=1:=rfl
 have h3:(s ++ (⟨#[32]⟩:ByteArray)).size=s.size+1:=by rw [ByteArray.size_append,one]
 refine eP7 Tryz.func214 Tryz.ntmps214 fun BB=>?_
 repeat' first|refine sk96 ?_|(intro b;conv=>whnf)
 exact Rt.pure rfl
theorem aA7 (s:ByteArray):APure Tryz.prog 216 [sD s] (sD (aO3 s)):=by
 refine eP7 Tryz.func216 Tryz.ntmps216 fun BB=>?_
 repeat' first|refine sk96 ?_|(intro b;conv=>whnf)|(with_reducible refine Br.d (fun hc=>?_) (fun hc=>?_))|(with_reducible refine Br.b (fun hc=>?_) (fun hc=>?_))
 ·refine Rt.pure (congrArg sD ?_)
  unfold aO3;rw [← eqE,if_pos (by assumption)]
 ·refine Rt.pure (congrArg sD ?_)
  unfold aO3;rw [← eqE,hc];rfl
def cc2:List ByteArray:=[⟨#[107,101,121]⟩,⟨#[114,101,102]⟩,⟨#[110,117,109]⟩,⟨#[112,105,99,107]⟩,⟨#[100,97,121]⟩,⟨#[115,116,101,112]⟩,⟨#[115,117,109]⟩,⟨#[115,104,97,114,101]⟩,⟨#[99,111,112,121]⟩]
theorem aX1:APure Tryz.prog 247 [] (slS cc2):=by
 refine eP7 Tryz.func247 Tryz.ntmps247 fun BB=>?_
 repeat' first|refine sk96 ?_|(intro b;conv=>whnf)
 exact Rt.pure rfl
end
section
open Go
structure cb0 (f:Fld):Prop where
 lo:-9223372036854775807≤f.lo∧f.lo≤9223372036854775807
 hi:-9223372036854775807≤f.hi∧f.hi≤9223372036854775807
 ws:∀ n∈f.weights,-9223372036854775807≤n∧n≤9223372036854775807
def sp:ByteArray:=⟨#[32]⟩
/-! Sizes of texts -/
theorem sz1 (c:UInt8):(⟨#[c]⟩:ByteArray).size≤1:=Nat.le_refl 1
theorem sz0:(⟨#[]⟩:ByteArray).size≤0:=Nat.le_refl 0
theorem szA {a b:ByteArray} {m n:Nat} (h:a.size≤m) (k:b.size≤n):(a ++ b).size≤m+n:=by rw [ByteArray.size_append];omega
theorem aV8 {s:ByteArray} {n:Int} {m:Nat} (h:s.size≤m) (k:-9223372036854775807≤n∧n≤9223372036854775807):(andS s n).size≤m+22:=by have:=bB9 (s:=s) k;have:=ae6 n;omega
theorem szN {s:ByteArray} {m:Nat} (h:s.size≤m):(aO3 s).size≤m+1:=by have:=be0 s;omega
theorem szLe {s:ByteArray} {m M:Nat} (h:s.size≤m) (k:m≤M):s.size≤M:=Nat.le_trans h k
theorem cd4 {a b:ByteArray} {m n M:Nat} (h:a.size≤m) (k:b.size≤n) (c:m+n≤M):a.size+b.size≤M:=by omega
theorem sb97 {A B:Prop} (k:B) (h:Hd7 B→A:=by intro hk7q;(first|((with_reducible refine W.mk ?_);(conv=>whnf))|(with_reducible refine Br.tt ?_)|(with_reducible refine Br.ff ?_)|(with_reducible refine Br.n ?_)|((with_reducible refine' Br.eq ?h ?_);(case h=>(simp only [List.length_map,List.length_take,List.length_append,List.length_cons,List.length_nil,List.length_replicate,Nat.reduceAdd];exact rfl)))|((with_reducible refine Sd.go ?s ?_);(case s=>first|trivial|(constructor <;> omega)|omega|assumption|(refine' cd4 ?a ?b ?c;(case a=>repeat' (first|((show (_:Nat)≤_);assumption)|exact sz1 _|exact sz0|(refine' aV8 ?_ (by assumption))|refine' szN ?_|refine' szA ?_ ?_));(case b=>repeat' (first|((show (_:Nat)≤_);assumption)|exact sz1 _|exact sz0|(refine' aV8 ?_ (by assumption))|refine' szN ?_|refine' szA ?_ ?_));(case c=>first|decide|omega))))|((with_reducible refine Ck.go ?qs7 ?_);(case qs7=>kernel_rfl))|((with_reducible refine' Ix.mapAt ?hy ?h0 ?_);(case hy=>assumption);(case h0=>omega))|((with_reducible refine' Ix.at ?hy ?h0 ?_);(case hy=>exact rfl);(case h0=>omega))|((with_reducible refine Ix.mapM ?h0 ?_);(case h0=>first|omega|(simp only [List.length_map,List.length_take,List.length_append,List.length_cons,List.length_nil,List.length_replicate,Nat.reduceAdd] at *;omega)))|((with_reducible refine' Ld.at 0 ?h1 ?h2 ?h3 ?_);(case h1=>exact rfl);(case h2=>exact rfl);(case h3=>exact rfl))|((with_reducible refine' Ld.at 1 ?h1 ?h2 ?h3 ?_);(case h1=>exact rfl);(case h2=>exact rfl);(case h3=>exact rfl))|((with_reducible refine' Ld.at 2 ?h1 ?h2 ?h3 ?_);(case h1=>exact rfl);(case h2=>exact rfl);(case h3=>exact rfl))|((with_reducible refine' Sv.at 0 ?h1 ?h2 ?h3 ?h4 ?h5 ?_);(case h1=>exact rfl);(case h2=>exact rfl);(case h3=>exact rfl);(case h4=>exact rfl);(case h5=>exact (by first|(simp only [List.set_cons_succ,List.set_cons_zero,spl,ad8,mkD,List.take_succ_cons,List.take_zero,List.drop_succ_cons,List.drop_zero,List.length_cons,List.length_nil,List.nil_append,List.cons_append,Nat.reduceAdd,Nat.zero_add,List.append_nil,List.map_cons,List.map_nil];rfl)|rfl)))|((with_reducible refine' Sv.at 1 ?h1 ?h2 ?h3 ?h4 ?h5 ?_);(case h1=>exact rfl);(case h2=>exact rfl);(case h3=>exact rfl);(case h4=>exact rfl);(case h5=>exact (by first|(simp only [List.set_cons_succ,List.set_cons_zero,spl,ad8,mkD,List.take_succ_cons,List.take_zero,List.drop_succ_cons,List.drop_zero,List.length_cons,List.length_nil,List.nil_append,List.cons_append,Nat.reduceAdd,Nat.zero_add,List.append_nil,List.map_cons,List.map_nil];rfl)|rfl)))|((with_reducible refine' Sv.at 2 ?h1 ?h2 ?h3 ?h4 ?h5 ?_);(case h1=>exact rfl);(case h2=>exact rfl);(case h3=>exact rfl);(case h4=>exact rfl);(case h5=>exact (by first|(simp only [List.set_cons_succ,List.set_cons_zero,spl,ad8,mkD,List.take_succ_cons,List.take_zero,List.drop_succ_cons,List.drop_zero,List.length_cons,List.length_nil,List.nil_append,List.cons_append,Nat.reduceAdd,Nat.zero_add,List.append_nil,List.map_cons,List.map_nil];rfl)|rfl)))|((with_reducible refine' Ot.yd ?hyd ?_);(case hyd=>first|(refine' ap9 aa0 rfl rfl rfl rfl rfl ?hc ?h0;(case hc=>assumption);(case h0=>omega))|(refine ap8 aa0 rfl rfl rfl rfl rfl ?_;first|omega|(simp only [List.length_map,List.length_take,List.length_append,List.length_cons,List.length_nil,List.length_replicate,Nat.reduceAdd];omega))|(refine aG3 aa0 rfl rfl rfl rfl rfl ?_;omega)|exact yd_bne rfl rfl rfl Tryz.underlying4|exact av7 rfl rfl rfl|exact av8 rfl rfl rfl))|((with_reducible refine' Rs.tc aa0 (m:=0) ?h ?hi ?hj ?hb ?ht ?hag ?hs ?_);(case h=>exact rfl);(case hi=>exact rfl);(case hj=>exact rfl);(case hb=>exact rfl);(case ht=>exact rfl);(case hag=>exact rfl);(case hs=>exact rfl))|((with_reducible refine' Rs.ct aa0 (m:=0) ?h ?hi ?hj ?hb ?ht ?hag ?hs ?_);(case h=>exact rfl);(case hi=>exact rfl);(case hj=>exact rfl);(case hb=>exact rfl);(case ht=>exact rfl);(case hag=>exact rfl);(case hs=>exact rfl))|((with_reducible refine' Rs.c aa0 (m:=0) ?h ?hj ?hb ?ht ?hag ?hs ?_);(case h=>exact rfl);(case hj=>exact rfl);(case hb=>exact rfl);(case ht=>exact rfl);(case hag=>exact rfl);(case hs=>exact rfl))|((with_reducible refine Br.dt ?h ?_);(case h=>omega))|((with_reducible refine Br.df ?h ?_);(case h=>omega))|((with_reducible refine Br.t ?h ?_);(case h=>assumption))|((with_reducible refine Br.f ?h ?_);(case h=>assumption))|((with_reducible refine Br.t ?h ?_);(case h=>(refine decide_eq_true ?_;omega)))|((with_reducible refine Br.f ?h ?_);(case h=>(refine decide_eq_false ?_;omega))));exact hk7q.run):A:=h ⟨k⟩
theorem sk98 {A B:Prop} (k:B) (h:Hd7 B→A:=by intro hk7q;(first|refine sb97 ?_|refine sb1 ?_|((with_reducible refine' Cp.by ?hc ?_);(case hc=>first|exact HU|exact aX1|exact aA7 _|(refine aS7 _ _ ?hs ?hn;(case hn=>first|assumption|omega|(simp only [List.length_map,List.length_take,List.length_append,List.length_cons,List.length_nil,List.length_replicate,Nat.reduceAdd];omega));(case hs=>(refine' szLe ?a ?c;(case a=>repeat' (first|((show (_:Nat)≤_);assumption)|exact sz1 _|exact sz0|(refine' aV8 ?_ (by assumption))|refine' szN ?_|refine' szA ?_ ?_));(case c=>first|decide|omega))))))|((with_reducible refine' CE.pure ?hc ?_);(case hc=>first|exact HU|exact aX1|exact aA7 _|(refine aS7 _ _ ?hs ?hn;(case hn=>first|assumption|omega|(simp only [List.length_map,List.length_take,List.length_append,List.length_cons,List.length_nil,List.length_replicate,Nat.reduceAdd];omega));(case hs=>(refine' szLe ?a ?c;(case a=>repeat' (first|((show (_:Nat)≤_);assumption)|exact sz1 _|exact sz0|(refine' aV8 ?_ (by assumption))|refine' szN ?_|refine' szA ?_ ?_));(case c=>first|decide|omega)))))));exact hk7q.run):A:=h ⟨k⟩
end
section
open Go
theorem sb99 {A B:Prop} (k:B) (h:Hd7 B→A:=by intro hk7q;(first|((with_reducible refine W.mk ?_);(conv=>whnf))|(with_reducible refine Br.tt ?_)|(with_reducible refine Br.ff ?_)|(with_reducible refine Br.n ?_)|((with_reducible refine' Br.eq ?h ?_);(case h=>(simp only [List.length_map,List.length_take,List.length_append,List.length_cons,List.length_nil,List.length_replicate,Nat.reduceAdd];exact rfl)))|((with_reducible refine Sd.go ?qs7 ?_);(case qs7=>first|trivial|(constructor <;> omega)|omega|assumption|(refine' cd4 ?a ?b ?c;(case a=>repeat' (first|((show (_:Nat)≤_);assumption)|exact sz1 _|exact sz0|(refine' aV8 ?_ (by assumption))|refine' szN ?_|refine' szA ?_ ?_));(case b=>repeat' (first|((show (_:Nat)≤_);assumption)|exact sz1 _|exact sz0|(refine' aV8 ?_ (by assumption))|refine' szN ?_|refine' szA ?_ ?_));(case c=>first|decide|omega))))|((with_reducible refine Ck.go ?qs7 ?_);(case qs7=>kernel_rfl))|((with_reducible refine' Ix.mapAt ?hy ?h0 ?_);(case hy=>assumption);(case h0=>omega))|((with_reducible refine' Ix.at ?hy ?h0 ?_);(case hy=>exact rfl);(case h0=>omega))|((with_reducible refine Ix.mapM ?h0 ?_);(case h0=>first|omega|(simp only [List.length_map,List.length_take,List.length_append,List.length_cons,List.length_nil,List.length_replicate,Nat.reduceAdd] at *;omega)))|((with_reducible refine' Ld.at 0 ?h1 ?h2 ?h3 ?_);(case h1=>exact rfl);(case h2=>exact rfl);(case h3=>exact rfl))|((with_reducible refine' Ld.at 1 ?h1 ?h2 ?h3 ?_);(case h1=>exact rfl);(case h2=>exact rfl);(case h3=>exact rfl))|((with_reducible refine' Ld.at 2 ?h1 ?h2 ?h3 ?_);(case h1=>exact rfl);(case h2=>exact rfl);(case h3=>exact rfl))|((with_reducible refine' Sv.at 0 ?h1 ?h2 ?h3 ?h4 ?h5 ?_);(case h1=>exact rfl);(case h2=>exact rfl);(case h3=>exact rfl);(case h4=>exact rfl);(case h5=>exact (by first|(simp only [List.set_cons_succ,List.set_cons_zero,spl,ad8,mkD,List.take_succ_cons,List.take_zero,List.drop_succ_cons,List.drop_zero,List.length_cons,List.length_nil,List.nil_append,List.cons_append,Nat.reduceAdd,Nat.zero_add,List.append_nil,List.map_cons,List.map_nil];rfl)|rfl)))|((with_reducible refine' Sv.at 1 ?h1 ?h2 ?h3 ?h4 ?h5 ?_);(case h1=>exact rfl);(case h2=>exact rfl);(case h3=>exact rfl);(case h4=>exact rfl);(case h5=>exact (by first|(simp only [List.set_cons_succ,List.set_cons_zero,spl,ad8,mkD,List.take_succ_cons,List.take_zero,List.drop_succ_cons,List.drop_zero,List.length_cons,List.length_nil,List.nil_append,List.cons_append,Nat.reduceAdd,Nat.zero_add,List.append_nil,List.map_cons,List.map_nil];rfl)|rfl)))|((with_reducible refine' Sv.at 2 ?h1 ?h2 ?h3 ?h4 ?h5 ?_);(case h1=>exact rfl);(case h2=>exact rfl);(case h3=>exact rfl);(case h4=>exact rfl);(case h5=>exact (by first|(simp only [List.set_cons_succ,List.set_cons_zero,spl,ad8,mkD,List.take_succ_cons,List.take_zero,List.drop_succ_cons,List.drop_zero,List.length_cons,List.length_nil,List.nil_append,List.cons_append,Nat.reduceAdd,Nat.zero_add,List.append_nil,List.map_cons,List.map_nil];rfl)|rfl)))|((with_reducible refine' Ot.yd ?hyd ?_);(case hyd=>first|(refine' ap9 aa0 rfl rfl rfl rfl rfl ?hc ?h0;(case hc=>assumption);(case h0=>omega))|(refine ap8 aa0 rfl rfl rfl rfl rfl ?_;first|omega|(simp only [List.length_map,List.length_take,List.length_append,List.length_cons,List.length_nil,List.length_replicate,Nat.reduceAdd];omega))|(refine aG3 aa0 rfl rfl rfl rfl rfl ?_;omega)|exact yd_bne rfl rfl rfl Tryz.underlying4|exact av7 rfl rfl rfl|exact av8 rfl rfl rfl))|((with_reducible refine' Rs.tc aa0 (m:=0) ?h ?hi ?hj ?hb ?ht ?hag ?hs ?_);(case h=>exact rfl);(case hi=>exact rfl);(case hj=>exact rfl);(case hb=>exact rfl);(case ht=>exact rfl);(case hag=>exact rfl);(case hs=>exact rfl))|((with_reducible refine' Rs.ct aa0 (m:=0) ?h ?hi ?hj ?hb ?ht ?hag ?hs ?_);(case h=>exact rfl);(case hi=>exact rfl);(case hj=>exact rfl);(case hb=>exact rfl);(case ht=>exact rfl);(case hag=>exact rfl);(case hs=>exact rfl))|((with_reducible refine' Rs.c aa0 (m:=0) ?h ?hj ?hb ?ht ?hag ?hs ?_);(case h=>exact rfl);(case hj=>exact rfl);(case hb=>exact rfl);(case ht=>exact rfl);(case hag=>exact rfl);(case hs=>exact rfl))|((with_reducible refine Br.dt ?h ?_);(case h=>omega))|((with_reducible refine Br.df ?h ?_);(case h=>omega))|((with_reducible refine Br.t ?h ?_);(case h=>assumption))|((with_reducible refine Br.f ?h ?_);(case h=>assumption))|((with_reducible refine Br.t ?h ?_);(case h=>(refine decide_eq_true ?_;omega)))|((with_reducible refine Br.f ?h ?_);(case h=>(refine decide_eq_false ?_;omega))));exact hk7q.run):A:=h ⟨k⟩
theorem sk100 {A B:Prop} (k:B) (h:Hd7 B→A:=by intro hk7q;(first|refine sb99 ?_|refine sb1 ?_|((with_reducible refine' Cp.by ?hc ?_);(case hc=>first|exact aA7 _|exact HLN|(refine aS7 _ _ ?hs ?hn;(case hn=>first|assumption|omega|(simp only [List.length_map,List.length_take,List.length_append,List.length_cons,List.length_nil,List.length_replicate,Nat.reduceAdd];omega));(case hs=>(refine' szLe ?a ?c;(case a=>repeat' (first|((show (_:Nat)≤_);assumption)|exact sz1 _|exact sz0|(refine' aV8 ?_ (by assumption))|refine' szN ?_|refine' szA ?_ ?_));(case c=>first|decide|omega))))))|((with_reducible refine' CE.pure ?hc ?_);(case hc=>first|exact aA7 _|exact HLN|(refine aS7 _ _ ?hs ?hn;(case hn=>first|assumption|omega|(simp only [List.length_map,List.length_take,List.length_append,List.length_cons,List.length_nil,List.length_replicate,Nat.reduceAdd];omega));(case hs=>(refine' szLe ?a ?c;(case a=>repeat' (first|((show (_:Nat)≤_);assumption)|exact sz1 _|exact sz0|(refine' aV8 ?_ (by assumption))|refine' szN ?_|refine' szA ?_ ?_));(case c=>first|decide|omega)))))));exact hk7q.run):A:=h ⟨k⟩
end
section
open Go
structure Good (x:Sch):Prop where
 ver:-9223372036854775807≤x.version∧x.version≤9223372036854775807
 fsane:∀ k∈x.kinds,∀ f∈k.fields,cb0 f∧(-9223372036854775807≤f.kind∧f.kind≤9223372036854775807)
 ksane:∀ k∈x.kinds,(-9223372036854775807≤k.lo∧k.lo≤9223372036854775807)∧(-9223372036854775807≤k.hi∧k.hi≤9223372036854775807)
 msane:∀ l∈x.lives,∀ m∈l.moves,(-9223372036854775807≤m.1∧m.1≤9223372036854775807)∧(-9223372036854775807≤m.2∧m.2≤9223372036854775807)
 rsane:∀ r∈x.rules,-9223372036854775807≤r.n∧r.n≤9223372036854775807
 sm:ca9 x
 src:am6 x=true→srcB x≤8192
end
section
open Go
theorem ad4 {w:World} {O:Nat→Prop} {d:D} {ds:List D} {us:List Value} (h:RdL w O (d :: ds) us):∃ u us',us=u :: us'∧Rd w O d u∧RdL w O ds us':=by
 cases us with
 | nil=>have:=h.len;simp at this
 | cons u us'=>exact ⟨u,us',rfl,h.at_ 0 _ _ rfl rfl,⟨by have:=h.len;simpa using this,fun j d u h1 h2=>h.at_ (j+1) d u (by simpa using h1) (by simpa using h2)⟩⟩
theorem au4 {w:World} {O:Nat→Prop} {us:List Value} (h:RdL w O [] us):us=[]:=by
 have:=h.len;exact List.eq_nil_of_length_eq_zero (by simpa using this)
theorem aJ4 {α:Type} {k:Nat} {g:α→List D} {R:α→List Value→Prop} {w:World} {O:Nat→Prop} {xs:List α} {v:Value} (h:Rd w O (.sl k (xs.map g)) v)
  (hR:∀ x∈xs,∀ us,RdL w O (g x) us→R x us):∃ a cap,v = .slice a xs.length cap∧Row k R w (fun _=>True) xs a cap:=by
 obtain ⟨a,cap,vs,rfl,hle,hk,hc,hr⟩:=h.sl_inv
 rw [List.length_map] at hle ⊢
 refine ⟨a,cap,rfl,⟨hle,fun i x hx=>?_⟩⟩
 have hgx:(xs.map g)[i]?=some (g x):=by rw [List.getElem?_map,hx];rfl
 obtain ⟨b,off,ha,_,_,hcell⟩:=hc i _ hgx
 have hl:(g x).length=k:=hk _ (List.mem_of_getElem? hgx)
 refine ⟨b,off,ha,trivial,(List.range k).map (vs i),by simp,hR x (List.mem_of_getElem? hx) _ ⟨by simp [hl],fun j d u h1 h2=>?_⟩,fun j u hu=>?_⟩
 ·have hj:j<k:=by rw [← hl];exact (List.getElem?_eq_some_iff.1 h1).1
  simp [hj] at h2
  subst h2
  exact hr i _ hgx j d h1
 ·have hj:j<k:=by have:=(List.getElem?_eq_some_iff.1 hu).1;simpa using this
  simp [hj] at hu
  subst hu
  exact hcell j hj
theorem ay5 {n:Int} (h:-9223372036854775807≤n∧n≤9223372036854775807):I64 n:=⟨by omega,by omega⟩
variable {w:World} {O:Nat→Prop}
theorem bM3 {xs:List ByteArray} {v:Value} (h:Rd w O (slS xs) v):∃ a cap,v = .slice a xs.length cap∧av6 w (fun _=>True) xs a cap:=
 aJ4 h fun x _ us hu=>by
  obtain ⟨u,us',rfl,h1,h2⟩:=ad4 hu
  rw [au4 h2,h1.val rfl];rfl
theorem cj3 {xs:List Int} {v:Value} (hs:∀ n∈xs,-9223372036854775807≤n∧n≤9223372036854775807) (h:Rd w O (slI xs) v):∃ a cap,v = .slice a xs.length cap∧RInts w (fun _=>True) xs a cap:=
 aJ4 h fun x hx us hu=>by
  obtain ⟨u,us',rfl,h1,h2⟩:=ad4 hu
  rw [au4 h2,h1.val rfl];exact ⟨rfl,ay5 (hs x hx)⟩
theorem cj8 {f:Fld} {us:List Value} (hs:cb0 f) (hk:-9223372036854775807≤f.kind∧f.kind≤9223372036854775807) (h:RdL w O (fldC f) us):RFld w (fun _=>True) f us:=by
 obtain ⟨u1,t1,rfl,h1,h⟩:=ad4 h
 obtain ⟨u2,t2,rfl,h2,h⟩:=ad4 h
 obtain ⟨u3,t3,rfl,h3,h⟩:=ad4 h
 obtain ⟨u4,t4,rfl,h4,h⟩:=ad4 h
 obtain ⟨u5,t5,rfl,h5,h⟩:=ad4 h
 obtain ⟨u6,t6,rfl,h6,h⟩:=ad4 h
 obtain ⟨u7,t7,rfl,h7,h⟩:=ad4 h
 obtain ⟨u8,t8,rfl,h8,hz⟩:=ad4 h
 obtain rfl:=au4 hz
 obtain ⟨wa,wc,rfl,hw⟩:=bM3 h7
 obtain ⟨ga,gc,rfl,hg⟩:=cj3 hs.ws h8
 rw [h1.val rfl,h2.val rfl,h3.val rfl,h4.val rfl,h5.val rfl,h6.val rfl]
 exact ⟨wa,wc,ga,gc,rfl,ay5 hk,ay5 hs.lo,ay5 hs.hi,hw,hg⟩
theorem ci9 {k:Knd} {us:List Value} (hs:∀ f∈k.fields,cb0 f∧(-9223372036854775807≤f.kind∧f.kind≤9223372036854775807)) (hk:(-9223372036854775807≤k.lo∧k.lo≤9223372036854775807)∧(-9223372036854775807≤k.hi∧k.hi≤9223372036854775807)) (h:RdL w O (kndC k) us):RKnd w (fun _=>True) k us:=by
 obtain ⟨u1,t1,rfl,h1,h⟩:=ad4 h
 obtain ⟨u2,t2,rfl,h2,h⟩:=ad4 h
 obtain ⟨u3,t3,rfl,h3,h⟩:=ad4 h
 obtain ⟨u4,t4,rfl,h4,hz⟩:=ad4 h
 obtain rfl:=au4 hz
 obtain ⟨fa,fc,rfl,hf⟩:=aJ4 (R:=RFld w (fun _=>True)) h4 fun f hf us hu=>cj8 (hs f hf).1 (hs f hf).2 hu
 rw [h1.val rfl,h2.val rfl,h3.val rfl]
 exact ⟨fa,fc,rfl,ay5 hk.1,ay5 hk.2,hf⟩
theorem ci0 {x:Lif} {us:List Value} (hm:∀ m∈x.moves,(-9223372036854775807≤m.1∧m.1≤9223372036854775807)∧(-9223372036854775807≤m.2∧m.2≤9223372036854775807)) (h:RdL w O (lifC x) us):RLif w (fun _=>True) x us:=by
 obtain ⟨u1,t1,rfl,h1,h⟩:=ad4 h
 obtain ⟨u2,t2,rfl,h2,h⟩:=ad4 h
 obtain ⟨u3,t3,rfl,h3,hz⟩:=ad4 h
 obtain rfl:=au4 hz
 obtain ⟨sa,sc,rfl,hs⟩:=bM3 h2
 obtain ⟨ma,mc,rfl,hmv⟩:=aJ4 (R:=RTwo) h3 fun m hmm us hu=>by
  obtain ⟨a,t,rfl,g1,hu⟩:=ad4 hu
  obtain ⟨b,t,rfl,g2,hu⟩:=ad4 hu
  rw [au4 hu,g1.val rfl,g2.val rfl]
  exact ⟨rfl,ay5 (hm m hmm).1,ay5 (hm m hmm).2⟩
 rw [h1.val rfl]
 exact ⟨sa,sc,ma,mc,rfl,hs,hmv⟩
theorem ce3 {r:Rul} {us:List Value} (hn:-9223372036854775807≤r.n∧r.n≤9223372036854775807) (h:RdL w O (rulC r) us):RRul r us:=by
 obtain ⟨u1,t1,rfl,h1,h⟩:=ad4 h
 obtain ⟨u2,t2,rfl,h2,h⟩:=ad4 h
 obtain ⟨u3,t3,rfl,h3,h⟩:=ad4 h
 obtain ⟨u4,t4,rfl,h4,h⟩:=ad4 h
 obtain ⟨u5,t5,rfl,h5,h⟩:=ad4 h
 obtain rfl:=au4 h
 rw [h1.val rfl,h2.val rfl,h3.val rfl,h4.val rfl,h5.val rfl]
 exact ⟨rfl,ay5 hn⟩
theorem bt5 (x:Sch) (g:Good x):APure Tryz.prog 143 [schD x] (iD (ak7 x)):=by
 refine ⟨enters_of Tryz.func143 (by kernel_rfl) rfl,fun w O vs hv hg=>?_⟩
 obtain ⟨v,t,rfl,h1,h⟩:=ad4 hv
 rw [au4 h]
 obtain ⟨us,rfl,hu⟩:=h1.agg_inv
 obtain ⟨u1,t1,rfl,k1,hu⟩:=ad4 hu
 obtain ⟨u2,t2,rfl,k2,hu⟩:=ad4 hu
 obtain ⟨u3,t3,rfl,k3,hu⟩:=ad4 hu
 obtain ⟨u4,t4,rfl,k4,hu⟩:=ad4 hu
 rw [au4 hu,k1.val rfl]
 obtain ⟨ka,kc,rfl,hk⟩:=aJ4 (R:=RKnd w (fun _=>True)) k2 fun k hk us hu=>ci9 (g.fsane k hk) (g.ksane k hk) hu
 obtain ⟨la,lc,rfl,hl⟩:=aJ4 (R:=RLif w (fun _=>True)) k3 fun k hk us hu=>ci0 (g.msane k hk) hu
 obtain ⟨ra,rc,rfl,hr⟩:=aJ4 (R:=RRul) k4 fun k hk us hu=>ce3 (g.rsane k hk) hu
 exact (br2 x w (ay5 g.ver) hk hl hr g.sm g.src ⟨hg.pow,hg.words⟩).mono fun e w' ⟨e1,e2⟩=>⟨_,e1,.v _,e2⟩
end
section
open Go
structure CF (f:Fld):Prop where
 nm:f.name.size≤12
 of:f.of.size≤12
 up:f.up.size≤12
 nw:f.words.length≤3
 wd:∀ s∈f.words,s.size≤12
 ng:f.weights.length≤3
 wt:∀ n∈f.weights,-1000≤n∧n≤1000
 kd:0≤f.kind∧f.kind≤8
 lo:-1000≤f.lo∧f.lo≤1000
 hi:-1000≤f.hi∧f.hi≤1000
structure CK (k:Knd):Prop where
 nm:1≤k.name.size∧k.name.size≤12
 lo:-1000≤k.lo∧k.lo≤1000
 hi:-1000≤k.hi∧k.hi≤1000
 nf:k.fields.length≤10
 fs:∀ f∈k.fields,CF f
structure CL (l:Lif):Prop where
 nm:l.name.size≤12
 ns:l.states.length≤4
 st:∀ s∈l.states,s.size≤12
 nv:l.moves.length≤5
 mv:∀ m∈l.moves,(-1000≤m.1∧m.1≤1000)∧(-1000≤m.2∧m.2≤1000)
structure CR (r:Rul):Prop where
 nm:r.name.size≤12
 kd:r.kind.size≤12
 a:r.a.size≤12
 b:r.b.size≤12
 n:-2000≤r.n∧r.n≤2000
structure Cls (x:Sch):Prop where
 ver:-1000≤x.version∧x.version≤1000
 nk:x.kinds.length≤3
 ks:∀ k∈x.kinds,CK k
 nl:x.lives.length≤1
 ls:∀ l∈x.lives,CL l
 nr:x.rules.length≤3
 rs:∀ r∈x.rules,CR r
theorem au2 {α:Type} {f:α→Nat} {c:Nat}:∀ {l:List α},(∀ x∈l,f x≤c)→sumB f l≤l.length*c
 | [],_=>by simp [sumB]
 | x :: l,h=>by
  have h1:=h x (by simp)
  have h2:=au2 (l:=l) fun y hy=>h y (by simp [hy])
  simp only [sumB,List.map_cons,List.sum_cons,List.length_cons,Nat.succ_mul] at *
  omega
theorem as8 {n:Int} (h:-9999999≤n∧n≤9999999):intB n=8:=by unfold intB;rw [if_pos h]
theorem CF.bd {f:Fld} (h:CF f):an0 f≤200:=by
 have e1:=as8 (n:=f.lo) (by have:=h.lo;omega)
 have e2:=as8 (n:=f.hi) (by have:=h.hi;omega)
 have e3:=as8 (n:=f.words.length) (by have:=h.nw;omega)
 have s1:(f.words.map fun s=>1+s.size).sum≤f.words.length*13:=au2 (f:=fun s:ByteArray=>1+s.size) fun s hs=>by have:=h.wd s hs;omega
 have s2:(f.weights.map fun n=>1+intB n).sum≤f.weights.length*9:=au2 (f:=fun n=>1+intB n) fun n hn=>by have:=as8 (n:=n) (by have:=h.wt n hn;omega);omega
 have h1:=h.nm;have h2:=h.of;have h3:=h.up;have h4:=h.nw;have h5:=h.ng
 unfold an0
 omega
theorem CK.bd {k:Knd} (h:CK k):kndB k≤2100:=by
 have e1:=as8 (n:=k.lo) (by have:=h.lo;omega)
 have e2:=as8 (n:=k.hi) (by have:=h.hi;omega)
 have s1:=au2 (f:=an0) (c:=200) fun f hf=>(h.fs f hf).bd
 have h1:=h.nm;have h2:=h.nf
 unfold kndB
 omega
theorem CL.bd {l:Lif} (h:CL l):lifB l≤300:=by
 have e1:=as8 (n:=l.states.length) (by have:=h.ns;omega)
 have s1:=au2 (f:=fun s:ByteArray=>1+s.size) (c:=13) fun s hs=>by have:=h.st s hs;show 1+s.size≤13;omega
 have s2:=au2 (f:=movB) (c:=23) fun m hm=>by
  have:=h.mv m hm
  unfold movB
  rw [as8 (by omega),as8 (by omega)]
  omega
 have h1:=h.nm;have h2:=h.ns;have h3:=h.nv
 unfold lifB
 omega
theorem CR.bd {r:Rul} (h:CR r):rulB r≤100:=by
 have e1:=as8 (n:=r.n) (by have:=h.n;omega)
 have h1:=h.nm;have h2:=h.kd;have h3:=h.a;have h4:=h.b
 unfold rulB
 omega
theorem Cls.src {x:Sch} (h:Cls x):srcB x≤8192:=by
 have s1:=au2 (f:=kndB) fun k hk=>(h.ks k hk).bd
 have s2:=au2 (f:=lifB) fun k hk=>(h.ls k hk).bd
 have s3:=au2 (f:=rulB) fun k hk=>(h.rs k hk).bd
 have h1:=h.nk;have h2:=h.nl;have h3:=h.nr
 unfold srcB
 omega
theorem CF.sm {f:Fld} (h:CF f):SmF f:=⟨by have:=h.nm;unfold SmS;omega,by have:=h.of;unfold SmS;omega,by have:=h.up;unfold SmS;omega,fun s hs=>by have:=h.wd s hs;unfold SmS;omega,by have:=h.nw;omega,by have:=h.ng;omega⟩
theorem Cls.good {x:Sch} (h:Cls x):Good x where
 ver:=by have:=h.ver;omega
 fsane:=fun k hk f hf=>by
  have:=(h.ks k hk).fs f hf
  exact ⟨⟨by have:=this.lo;omega,by have:=this.hi;omega,fun n hn=>by have:=this.wt n hn;omega⟩,by have:=this.kd;omega⟩
 ksane:=fun k hk=>by have:=h.ks k hk;have h1:=this.lo;have h2:=this.hi;omega
 msane:=fun l hl m hm=>by have:=(h.ls l hl).mv m hm;omega
 rsane:=fun r hr=>by have:=(h.rs r hr).n;omega
 sm:={
  kinds:=fun k hk=>⟨by have:=(h.ks k hk).nm;unfold SmS;omega,fun f hf=>((h.ks k hk).fs f hf).sm,by have:=(h.ks k hk).nf;omega⟩
  lives:=fun l hl=>⟨by have:=(h.ls l hl).nm;unfold SmS;omega,fun s hs=>by have:=(h.ls l hl).st s hs;unfold SmS;omega,by have:=(h.ls l hl).ns;omega,by have:=(h.ls l hl).nv;omega⟩
  rules:=fun r hr=>by have:=h.rs r hr;exact ⟨by have:=this.nm;unfold SmS;omega,by have:=this.kd;unfold SmS;omega,by have:=this.a;unfold SmS;omega,by have:=this.b;unfold SmS;omega⟩
  nkinds:=by have:=h.nk;omega
  nlives:=by have:=h.nl;omega
  nrules:=by have:=h.nr;omega }
 src:=fun _=>h.src
end
section
open Go Go.Maps Go.MapKept
/-! ### Two problems are compared -/
theorem bT2:∃ f0 f1 f2 f3:Field,Tryz.prog.underlying 114=some (.struct #[f0,f1,f2,f3])∧f0.name ≠ "_" ∧ f1.name ≠ "_" ∧ f2.name ≠ "_" ∧ f3.name ≠ "_" ∧ f0.type=3∧f1.type=3∧f2.type=3∧f3.type=43∧f0.offset=0∧f1.offset=1∧f2.offset=2∧f3.offset=3:=
 ⟨_,_,_,_,Tryz.underlying114,by decide,by decide,by decide,by decide,rfl,rfl,rfl,rfl,rfl,rfl,rfl,rfl⟩
theorem bx6:Tryz.prog.plainKey 3=true:=by kernel_rfl
theorem cj9:Tryz.prog.plainKey 43=true:=by kernel_rfl
theorem bT1:Tryz.prog.stoodInHeld 114=false:=by kernel_rfl
theorem bF7:Tryz.prog.eqGuardType Tryz.prog.depth 114=false:=by kernel_rfl
def prV (p:Prb):Value:=.agg #[.int .i64 p.1,.int .i64 p.2.1,.int .i64 p.2.2.1,.int .i64 p.2.2.2]
def prE (p q:Prb):Bool:=(p.1 == q.1) && ((p.2.1 == q.2.1) && ((p.2.2.1 == q.2.2.1) && (p.2.2.2 == q.2.2.2)))
theorem bt7 (w:World) (p q:Prb):(Op.equalIn 10000 114 (prV p) (prV q)).run Tryz.prog w = .ok (prE p q) w:=by
 obtain ⟨f0,f1,f2,f3,hu,n0,n1,n2,n3,t0,t1,t2,t3,o0,o1,o2,o3⟩:=bT2
 obtain ⟨a,b,c,d⟩:=p
 obtain ⟨a',b',c',d'⟩:=q
 unfold prV prE
 have hf:Tryz.prog.fieldsOf 114 = #[f0,f1,f2,f3]:=by simp [Program.fieldsOf,hu]
 have p0:∀ x y z u:Int,(Go.part 3 #[.int .i64 x,.int .i64 y,.int .i64 z,.int .i64 u] 0).run Tryz.prog w = .ok (.int .i64 x) w:=fun x y z u=>run_part_plain w bx6 rfl
 have p1:∀ x y z u:Int,(Go.part 3 #[.int .i64 x,.int .i64 y,.int .i64 z,.int .i64 u] 1).run Tryz.prog w = .ok (.int .i64 y) w:=fun x y z u=>run_part_plain w bx6 rfl
 have p2:∀ x y z u:Int,(Go.part 3 #[.int .i64 x,.int .i64 y,.int .i64 z,.int .i64 u] 2).run Tryz.prog w = .ok (.int .i64 z) w:=fun x y z u=>run_part_plain w bx6 rfl
 have p3:∀ x y z u:Int,(Go.part 43 #[.int .i64 x,.int .i64 y,.int .i64 z,.int .i64 u] 3).run Tryz.prog w = .ok (.int .i64 u) w:=fun x y z u=>run_part_plain w cj9 rfl
 have q:∀ x y:Int,(Op.equalIn 9999 3 (.int .i64 x) (.int .i64 y)).run Tryz.prog w = .ok (x == y) w:=fun x y=>run_equalIn_int w 9998 _ _ _ _ _ Tryz.underlying3
 have q3:∀ x y:Int,(Op.equalIn 9999 43 (.int .i64 x) (.int .i64 y)).run Tryz.prog w = .ok (x == y) w:=fun x y=>run_equalIn_int w 9998 _ _ _ _ _ Tryz.underlying43
 rw [show (10000:Nat)=9999+1 from rfl,run_equalIn_agg w 9999 _ _ _ (by rw [hf];exact hu) bT1,hf]
 simp only [Op.eqFields,if_pos n0,if_pos n1,if_pos n2,if_pos n3,t0,t1,t2,t3,o0,o1,o2,o3,Sem.run_bind,Result.andThen,p0,p1,p2,p3,q,q3,Sem.run_ite,Sem.run_pure]
 cases (a == a') <;> cases (b == b') <;> cases (c == c') <;> cases (d == d') <;> rfl
theorem bM8 {w:World} {O:Nat→Prop} {u:Value} {p:Prb} (h:Rd w O (.agg (prbC p)) u):u=prV p:=by
 obtain ⟨vs,rfl,hv⟩:=h.agg_inv
 have hl:=hv.len
 match vs,hl,hv with
 | [x,y,z,u],_,hv=>
  rw [(hv.at_ 0 _ _ rfl rfl).val rfl,(hv.at_ 1 _ _ rfl rfl).val rfl,(hv.at_ 2 _ _ rfl rfl).val rfl,(hv.at_ 3 _ _ rfl rfl).val rfl]
  rfl
theorem bP1 {ρ:Operand→D} {σ:aa1} {o:Oper} {t':TypeId} {x y:Operand} {p q:Prb} (ho:o.op = .binOp .neq 114 x y t') (hx:ρ x = .agg (prbC p)) (hy:ρ y = .agg (prbC q)):Yd Tryz.prog o ρ σ (.v (.bool (!prE p q))):=by
 intro w X η hη hst
 obtain ⟨dst,op,ty,pos,aft,g⟩:=o
 simp only at ho
 subst ho
 have h1:=hη x (by simp [Op.operands])
 have h2:=hη y (by simp [Op.operands])
 rw [hx] at h1
 rw [hy] at h2
 refine ac8 (s:=do eqGuard .neq 114 x y (η x) (η y);binOp .neq 114 (η x) (η y)) (u:=.bool (!prE p q)) ?_ (Ex.refl w) (.v _)
 rw [bM8 h1,bM8 h2]
 unfold prV at *
 have e:=bt7 w p q
 unfold prV at e
 simp only [Sem.run_bind,run_eqGuard_agg w .neq _ _ _ _ _ bF7,Result.andThen,run_neq_struct,e]
def sB (l:List UInt8):ByteArray:=⟨l.toArray⟩
def zF:Fld:={ name:=sB [],of:=sB [],up:=sB [],kind:=0,lo:=0,hi:=0,words:=[],weights:=[] }
def aA1:Sch:={ version:=0,kinds:=[{ name:=sB [97],lo:=1,hi:=3,fields:=[{ zF with name:=sB [105,100],lo:=5 }] },{ name:=sB [98],lo:=0,hi:=9,fields:=[{ zF with name:=sB [105,100] },{ zF with name:=sB [116,111],kind:=1,of:=sB [97],hi:=2 },{ zF with name:=sB [110],kind:=2,hi:=9 }] }],lives:=[],rules:=[] }
theorem bd1:aA9 aA1=[]:=by decide +kernel
theorem bq6:APure Tryz.prog 94 [] (schD aA1):=by
 refine eP7 Tryz.func94 Tryz.ntmps94 fun BB=>?_
 repeat' first|refine sk2 ?_|(intro b;conv=>whnf)
 refine Rt.le ?_
 (repeat' (first|exact Le.refl _|exact ae1 _|exact LeL.nil|refine LeL.cons ?_ ?_|refine bN5 ?_|refine ar8 ?_|refine bH2 ?_|exact LeR.nil|refine LeR.cons ?_ ?_))
theorem bq7 (l:List Prb) (hl:l.length≤1000000):APure Tryz.prog 93 [.sl 4 (l.map prbC)] (.sl 4 (l.map prbC)):=by
 refine eP7 Tryz.func93 Tryz.ntmps93 fun BB=>?_
 repeat' first|refine sk2 ?_|(intro b;conv=>whnf)
 refine ai2 mixed aa0 (γ:=Nat × Value × aa1) (fun g=>[(3,.v g.2.1),(4,iD g.1)]) (fun g=>g.2.2) (fun g=>g.1≤l.length∧RowIs 114 4 ((l.take g.1).map prbC) g.2.1 g.2.2) (fun g=>l.length - g.1) (0,.slice none 0 0,[]) (aa2 cl7) cl16 ⟨Nat.zero_le _,RowIs.nil _ _⟩ ?_
 rintro ⟨j,v,s⟩ ⟨hj,hrow⟩
 simp only at hj hrow ⊢
 by_cases hjl:j<l.length
 ·obtain ⟨p,hp⟩:∃ p,l[((j:Nat):Int).toNat]?=some p:=⟨_,List.getElem?_eq_getElem hjl⟩
  have hp':l[j]?=some p:=hp
  repeat' first|refine sk2 ?_|(intro b;conv=>whnf)
  refine Ap.go rfl rfl rfl rfl hrow (by simp:s.Perm (s ++ [])) rfl (zs:=(l.take (j+1)).map prbC) (by rw [au1 hp',List.map_append];rfl) (by simp;omega) (by simp;omega) (fun s'=>s') (fun s'=>by simp) (fun a c s' hr=>?_)
  repeat' first|refine sk2 ?_|(intro b;conv=>whnf)
  exact ⟨(j+1,_,s'),(aa2 cl7),cl16,⟨by simp only;omega,hr⟩,by simp only;omega⟩
 ·obtain rfl:j=l.length:=by omega
  repeat' first|refine sk2 ?_|(intro b;conv=>whnf)
  rw [List.take_length] at hrow
  exact Rt.vs (Vs.row hrow (τ:=[]) (by simp))
theorem bF8 (p:Prb):prE p p=true:=by simp [prE]
theorem sq7 {A B:Prop} (k:B) (h:Hd7 B→A:=by intro hk7q;(first|refine sk2 ?_|(with_reducible refine Br.t (beq_self_eq_true _) ?_)|(with_reducible refine Br.f Bool.not_true ?_)|(with_reducible refine Br.t (decide_eq_true trivial) ?_)|(with_reducible refine Br.t (decide_eq_true rfl) ?_));exact hk7q.run):A:=h ⟨k⟩
theorem bj4 (l:List Prb) (hl:l.length≤1000000):APure Tryz.prog 92 [.sl 4 (l.map prbC),.sl 4 (l.map prbC)] (bD true):=by
 refine eP7 Tryz.func92 Tryz.ntmps92 fun BB=>?_
 repeat' first|refine sq7 ?_|(intro b;conv=>whnf)|(with_reducible refine Br.f (decide_eq_false (fun h=>h rfl)) ?_)
 refine ai2 mixed aa0 (γ:=Nat) (fun g=>[(5,iD g)]) (fun _=>[]) (fun g=>g≤l.length) (fun g=>l.length - g) 0 (aa2 cl7) cl16 (Nat.zero_le _) ?_
 intro j hj
 by_cases hjl:j<l.length
 ·obtain ⟨p,hp⟩:∃ p,l[((j:Nat):Int).toNat]?=some p:=⟨_,List.getElem?_eq_getElem hjl⟩
  repeat' first|refine sk2 ?_|(intro b;conv=>whnf)
  refine Ot.yd (bP1 (p:=p) (q:=p) rfl rfl rfl) ?_
  rw [bF8]
  repeat' first|refine sk2 ?_|(intro b;conv=>whnf)
  exact ⟨j+1,(aa2 cl7),cl16,by omega,by omega⟩
 ·obtain rfl:j=l.length:=by omega
  repeat' first|refine sk2 ?_|(intro b;conv=>whnf)
  refine Rt.pure (congrArg bD ?_);rfl
theorem cb3 {f:Fld} (h1:f.name.size≤12) (h2:f.of.size≤12) (h3:f.up.size=0) (h4:f.words=[]) (h5:f.weights=[]) (h6:0≤f.kind∧f.kind≤8) (h7:-1000≤f.lo∧f.lo≤1000) (h8:-1000≤f.hi∧f.hi≤1000):CF f:=
 ⟨h1,h2,by omega,by rw [h4];decide,by rw [h4];simp,by rw [h5];decide,by rw [h5];simp,h6,h7,h8⟩
theorem small_cls:Cls aA1:=by
 refine { ver:=by decide,nk:=by decide,ks:=fun k hk=>?_,nl:=by decide,ls:=fun l hl=>(by cases hl),nr:=by decide,rs:=fun r hr=>(by cases hr) }
 simp only [aA1,List.mem_cons,List.not_mem_nil,or_false] at hk
 rcases hk with rfl|rfl
 ·refine ⟨by decide,by decide,by decide,by decide,fun f hf=>?_⟩
  simp only [List.mem_cons,List.not_mem_nil,or_false] at hf
  subst hf
  exact cb3 (by decide) (by decide) rfl rfl rfl (by decide) (by decide) (by decide)
 ·refine ⟨by decide,by decide,by decide,by decide,fun f hf=>?_⟩
  simp only [List.mem_cons,List.not_mem_nil,or_false] at hf
  rcases hf with rfl|rfl|rfl <;> exact cb3 (by decide) (by decide) rfl rfl rfl (by decide) (by decide) (by decide)
theorem bm5:Easy aA1:=by
 refine ⟨rfl,fun k hk f hf=>?_⟩
 simp only [aA1,List.mem_cons,List.not_mem_nil,or_false] at hk
 rcases hk with rfl|rfl
 ·simp only [List.mem_cons,List.not_mem_nil,or_false] at hf
  subst hf
  exact .inl rfl
 ·simp only [List.mem_cons,List.not_mem_nil,or_false] at hf
  rcases hf with rfl|rfl|rfl
  ·exact .inl rfl
  ·exact .inr (.inl rfl)
  ·exact .inr (.inr rfl)
theorem aG5 {w:Wd} (h:(decide (w.length≤1000) && w.all fun l=>decide (l.length≤1000) && l.all fun r=>decide (r.length≤1000))=true):Ws w:=by
 simp only [Bool.and_eq_true,decide_eq_true_eq,List.all_eq_true] at h
 exact ⟨h.1,fun l hl=>(h.2 l hl).1,fun l hl r hr=>(h.2 l hl).2 r hr⟩
theorem sk101 {A B:Prop} (k:B) (h:Hd7 B→A:=by intro hk7q;(first|refine sb0 ?_|refine sb1 ?_|((with_reducible refine' Cp.by ?hc ?_);(case hc=>first|exact bq6|exact HC|exact bq7 _ (by assumption)|exact bj4 _ (by assumption)))|((with_reducible refine' CE.pure ?hc ?_);(case hc=>first|exact bq6|exact HC|exact bq7 _ (by assumption)|exact bj4 _ (by assumption))));exact hk7q.run):A:=h ⟨k⟩
theorem aQ2 (w:Wd) (l:List Prb) (hw:Ws w) (hl:l.length≤1000000) (h:ba9 aA1 w=l):APure Tryz.prog 53 [slW w,.sl 4 (l.map prbC)] (bD true):=by
 have HC:=bJ2 aA1 w hw bd1 bm5 (bt5 aA1 small_cls.good)
 rw [h] at HC
 refine eP7 Tryz.func53 Tryz.ntmps53 fun BB=>?_
 repeat' first|refine sk101 ?_|(intro b;conv=>whnf)
 refine Rt.pure (congrArg bD ?_);rfl
theorem sk102 {A B:Prop} (k:B) (h:Hd7 B→A:=by intro hk7q;(first|refine sb0 ?_|refine sb1 ?_|((with_reducible refine' Cp.by ?hc ?_);(case hc=>first|exact F1|exact F2|exact F3|exact F4))|((with_reducible refine' CE.pure ?hc ?_);(case hc=>first|exact F1|exact F2|exact F3|exact F4)));exact hk7q.run):A:=h ⟨k⟩
theorem aQ1:APure Tryz.prog 20 [] (bD true):=by
 have F1:=aQ2 [[[5],[6]],[[0,1,4]]] [] (aG5 rfl) (by decide) (by decide +kernel)
 have F2:=aQ2 [[[5],[5]],[[0,1,4]]] [(0,1,0,7)] (aG5 rfl) (by decide) (by decide +kernel)
 have F3:=aQ2 [[[5]],[[0,1,4]]] [(-1,-1,-1,2)] (aG5 rfl) (by decide) (by decide +kernel)
 have F4:=aQ2 [[[4]],[[0,0,10],[1,0,0],[2,0,0]]] [(0,0,0,5),(1,0,2,5),(1,0,1,11)] (aG5 rfl) (by decide) (by decide +kernel)
 refine eP7 Tryz.func20 Tryz.ntmps20 fun BB=>?_
 repeat' first|refine sk102 ?_|(intro b;conv=>whnf)
 refine CE.pk (APk.peek (.cons (Pk.same _) (.cons (Pk.le (ae1 _)) .nil)) F1 rfl) ?_
 repeat' first|refine sk102 ?_|(intro b;conv=>whnf)
 refine Rt.pure (congrArg bD ?_);rfl
end
section
open Go
def ap5 (l:List Fld) (nm:ByteArray):Int:=idx (fun f=>seq f.name nm) l
def ar5 (n:Int):Bool:=!decide (n=0) && !decide (n=1) && !decide (n=6) && !decide (n=7)
def as3 (k:Knd):Int:=idx (fun f=>ar5 f.kind) k.fields
theorem aJ7 (l:List Fld) (nm:ByteArray) (hl:l.length≤1000000):APure Tryz.prog 77 [slF l,sD nm] (iD (ap5 l nm)):=by
 refine eP7 Tryz.func77 Tryz.ntmps77 fun BB=>?_
 repeat' first|refine sk2 ?_|(intro b;conv=>whnf)|refine IxM.mk fun y hy=>?_
 refine ad5 mixed aa0 (γ:=Nat) (fun q=>[(5,iD q)]) (fun _=>[]) (fun q=>q≤l.length∧∀ i y,i<q→l[i]?=some y→seq y.name nm=false) (fun q=>l.length - q) 0 rfl rfl ⟨by omega,by omega⟩ ?_
 rintro q ⟨hq,hno⟩
 repeat' first|refine sk2 ?_|(intro b;conv=>whnf)|refine IxM.mk fun y hy=>?_|(with_reducible refine Br.d (fun hc=>?_) (fun hc=>?_))|(with_reducible refine Br.b (fun hc=>?_) (fun hc=>?_))
 ·refine Rt.pure (congrArg iD ?_)
  exact (ae7 hy ‹_› hno).symm
 ·exact ⟨q+1,rfl,rfl,⟨by omega,fun i z hi hz=>by
   by_cases e:i=q
   ·subst e;rw [show ((i:Int)).toNat=i from rfl,hz] at hy;cases hy;assumption
   ·exact hno i z (by omega) hz⟩,by omega⟩
 ·refine Rt.pure (congrArg iD ?_)
  exact (al9 fun i y hy=>hno i y (by have:=(List.getElem?_eq_some_iff.1 hy).1;omega) hy).symm
theorem bn1 (k:Knd) (hl:k.fields.length≤1000000):APure Tryz.prog 76 [kndD k] (iD (as3 k)):=by
 refine eP7 Tryz.func76 Tryz.ntmps76 fun BB=>?_
 repeat' first|refine sk2 ?_|(intro b;conv=>whnf)
 refine ai2 mixed aa0 (γ:=Nat) (fun q=>[(3,iD q)]) (fun _=>[]) (fun q=>q≤k.fields.length∧∀ i y,i<q→k.fields[i]?=some y→ar5 y.kind=false) (fun q=>k.fields.length - q) 0 (aa2 cl7) cl16 ⟨by omega,by omega⟩ ?_
 rintro q ⟨hq,hno⟩
 by_cases hql:q<k.fields.length
 ·obtain ⟨y,hy0⟩:∃ y,k.fields[q]?=some y:=⟨_,List.getElem?_eq_getElem hql⟩
  have hy:k.fields[((q:Nat):Int).toNat]?=some y:=hy0
  have nxt:ar5 y.kind=false→∀ i z,i<q+1→k.fields[i]?=some z→ar5 z.kind=false:=fun h i z hi hz=>by
   by_cases e:i=q
   ·subst e;cases hy0.symm.trans hz;exact h
   ·exact hno i z (by omega) hz
  by_cases h0:y.kind=0
  ·have hp:ar5 y.kind=false:=by unfold ar5;simp [h0]
   repeat' first|refine sk2 ?_|(intro b;conv=>whnf)
   exact ⟨q+1,(aa2 cl7),cl16,⟨by omega,nxt hp⟩,by omega⟩
  ·by_cases h1:y.kind=1
   ·have hp:ar5 y.kind=false:=by unfold ar5;simp [h1]
    repeat' first|refine sk2 ?_|(intro b;conv=>whnf)
    exact ⟨q+1,(aa2 cl7),cl16,⟨by omega,nxt hp⟩,by omega⟩
   ·by_cases h6:y.kind=6
    ·have hp:ar5 y.kind=false:=by unfold ar5;simp [h6]
     repeat' first|refine sk2 ?_|(intro b;conv=>whnf)
     exact ⟨q+1,(aa2 cl7),cl16,⟨by omega,nxt hp⟩,by omega⟩
    ·by_cases h7:y.kind=7
     ·have hp:ar5 y.kind=false:=by unfold ar5;simp [h7]
      repeat' first|refine sk2 ?_|(intro b;conv=>whnf)
      exact ⟨q+1,(aa2 cl7),cl16,⟨by omega,nxt hp⟩,by omega⟩
     ·have hp:ar5 y.kind=true:=by unfold ar5;simp [h0,h1,h6,h7]
      repeat' first|refine sk2 ?_|(intro b;conv=>whnf)
      refine Rt.pure (congrArg iD ?_)
      exact (ae7 hy0 hp hno).symm
 ·obtain rfl:q=k.fields.length:=by omega
  repeat' first|refine sk2 ?_|(intro b;conv=>whnf)
  refine Rt.pure (congrArg iD ?_)
  exact (al9 fun i y hy=>hno i y (List.getElem?_eq_some_iff.1 hy).1 hy).symm
end
section
open Go
abbrev nE:ByteArray:=⟨#[]⟩
abbrev nSize:ByteArray:=⟨#[115,105,122,101]⟩
abbrev nTag:ByteArray:=⟨#[116,97,103]⟩
abbrev be2:ByteArray:=⟨#[98,111,114,110]⟩
abbrev ch5:ByteArray:=⟨#[108,101,102,116]⟩
abbrev ch4:ByteArray:=⟨#[115,116,97,116,101]⟩
abbrev nLife:ByteArray:=⟨#[108,105,102,101]⟩
abbrev nLow:ByteArray:=⟨#[108,111,119]⟩
abbrev nHigh:ByteArray:=⟨#[104,105,103,104]⟩
abbrev nRed:ByteArray:=⟨#[114,101,100]⟩
abbrev aX9:ByteArray:=⟨#[103,114,101,101,110]⟩
abbrev bv4:ByteArray:=⟨#[98,108,117,101]⟩
inductive PlainF:List Fld→Prop
 | none:PlainF []
 | size (a b:Int) (ha:-5≤a∧a≤5) (hb:0≤b∧b<20):PlainF [⟨nSize,nE,nE,2,a,a+b,[],[]⟩]
 | tag (n:Nat) (ws:List Int) (hn:1≤n∧n≤3) (hw:ws.length=n) (h0:∀ w∈ws,0≤w∧w≤4) (h1:∃ w∈ws,1≤w):PlainF [⟨nTag,nE,nE,3,0,0,[nRed,aX9,bv4].take n,ws⟩]
 | born (a b c d:Int) (ha:-200≤a∧a<200) (hb:0≤b∧b<60) (hc:0≤c∧c<3) (hd:0≤d∧d<30):PlainF [⟨be2,nE,nE,4,a,a+b,[],[]⟩,⟨ch5,be2,nE,4,c,3+d,[],[]⟩]
 | state (a b:Int) (ha:0≤a∧a<3) (hb:0≤b∧b<4):PlainF [⟨ch4,nLife,nE,5,a,a+b,[],[]⟩]
 | low (a b c d:Int) (ha:0≤a∧a<5) (hb:0≤b∧b<10) (hc:0≤c∧c<5) (hd:0≤d∧d<10):PlainF [⟨nLow,nE,nE,2,a,5+b,[],[]⟩,⟨nHigh,nE,nE,2,c,10+d,[],[]⟩]
abbrev nilD:D:=.v (.slice .none 0 0)
abbrev fldR (f:Fld) (w g:D):List D:=[sD f.name,sD f.of,sD f.up,iD f.kind,iD f.lo,iD f.hi,w,g]
theorem Vd.nil {σ τ:aa1} (k:Nat):Vd σ τ (.v (.slice .none 0 0)) (.sl k []):=fun w X u _ h=>by
 rw [h.val rfl]
 exact .sl k [] .none 0 (fun _ _=>undef) (by simp) (fun y hy=>by cases hy) (fun i y hy=>by simp at hy) (fun i y hy=>by simp at hy)
theorem Vd.row {σ τ ρ:aa1} {e:TypeId} {k:Nat} {xs:List (List D)} {v:Value} {s:aa1} (h:RowIs e k xs v s) (hp:σ.Perm (s ++ ρ)) (hsub:∀ b,b∈ab4 τ→b∈ab4 ρ):Vd σ τ (.v v) (.sl k xs):=
 fun w X u hs hr=>ak9 ((Vs.row h hp).run w X u hs hr).2 hsub
theorem sb103 {A B:Prop} (k:B) (h:Hd7 B→A:=by intro hk7q;(first|(with_reducible refine Bc.l ?_)|(with_reducible refine Bx.l ?_)|fail|((with_reducible refine Cb.go ?h ?_);(case h=>decide +kernel)));exact hk7q.run):A:=h ⟨k⟩
theorem sk104 {A B:Prop} (k:B) (h:Hd7 B→A:=by intro hk7q;(first|refine sb0 ?_|refine sb103 ?_|((with_reducible refine' Cp.by ?hc ?_);(case hc=>fail))|((with_reducible refine' CE.pure ?hc ?_);(case hc=>fail)));exact hk7q.run):A:=h ⟨k⟩
theorem cl20 {p:Prop} (h:p:=by repeat' (first|exact Vd3.nil|exact Vd2.nil|refine Vd3.cons ?_ ?_|refine Vd2.cons ?_ ?_|exact Vd.nil _|exact Vd.same (fun _ h=>h) _)):p:=h
theorem aA5 (xs:List Int) (hx:I64s xs) (bm:Nat) (pos:Int) (hp:0≤pos∧pos≤100000000):ACall Tryz.prog 78 [ptr bm] [mkB bm xs pos] (fun d σ=>∃ pos' fs,(pos≤pos'∧pos'≤pos+20)∧d=slF fs∧σ=[mkB bm xs pos']∧PlainF fs):=by
 refine eC7 Tryz.func78 Tryz.ntmps78 fun BB=>?_
 repeat' first|refine sk104 ?_|(intro b;conv=>whnf)
 (refine CE.own (al5 xs hx bm _ _ ⟨by omega,by omega⟩) (List.Perm.refl ([mkB bm xs _] ++ _)) (fun s'=>s' ++ _) (fun s'=>List.Perm.refl _) ?_)
 rintro _ _ ⟨r,rfl,⟨hr,hr'⟩,rfl⟩
 have hr':=hr' (by omega)
 by_cases e0:r=0
 ·repeat' first|refine sk104 ?_|(intro b;conv=>whnf)
  (refine CE.own (al5 xs hx bm _ _ ⟨by omega,by omega⟩) (List.Perm.refl ([mkB bm xs _] ++ _)) (fun s'=>s' ++ _) (fun s'=>List.Perm.refl _) ?_)
  rintro _ _ ⟨a,rfl,⟨ha,ha'⟩,rfl⟩
  have ha':=ha' (by omega)
  repeat' first|refine sk104 ?_|(intro b;conv=>whnf)
  (refine CE.own (al5 xs hx bm _ _ ⟨by omega,by omega⟩) (List.Perm.refl ([mkB bm xs _] ++ _)) (fun s'=>s' ++ _) (fun s'=>List.Perm.refl _) ?_)
  rintro _ _ ⟨b,rfl,⟨hb,hb'⟩,rfl⟩
  have hb':=hb' (by omega)
  repeat' first|refine sk104 ?_|(intro b;conv=>whnf)
  exact Rt.by (Vs.vd ⟨[],List.Perm.refl _⟩ (Vd.sl (fun _ h=>h) cl20)) ⟨_,_,⟨by omega,by omega⟩,rfl,rfl,PlainF.size (a - 5) b ⟨by omega,by omega⟩ ⟨by omega,by omega⟩⟩
 by_cases e1:r=1
 ·repeat' first|refine sk104 ?_|(intro b;conv=>whnf)
  (refine CE.own (al5 xs hx bm _ _ ⟨by omega,by omega⟩) (List.Perm.refl ([mkB bm xs _] ++ _)) (fun s'=>s' ++ _) (fun s'=>List.Perm.refl _) ?_)
  rintro _ _ ⟨c,rfl,⟨hc,hc'⟩,rfl⟩
  have hc':=hc' (by omega)
  obtain ⟨n,hn,rfl⟩:∃ n:Nat,n<3∧c=n:=⟨c.toNat,by omega,by omega⟩
  repeat' first|refine sk104 ?_|(intro b;conv=>whnf)
  generalize hW:(List.take (1+(n:Int)).toNat [[D.v (Value.string nRed)],[D.v (Value.string aX9)],[D.v (Value.string bv4)]])=Wd
  have hWl:Wd.length=n+1:=by rw [← hW,List.length_take];simp;omega
  refine bw0 (List.Perm.swap _ _ _) ?_
  refine ai2 mixed aa0 (γ:=List Int × Value × aa1) (fun g=>[(6,iD g.1.length)]) (fun g=>mkB bm xs (pos+2+g.1.length) :: (b,.cells 97 (fldR ⟨nTag,nE,nE,3,0,0,[],[]⟩ (.sl 1 Wd) (.v g.2.1))) :: g.2.2) (fun g=>g.1.length≤n+1∧(∀ z∈g.1,0≤z∧z≤4)∧RowIs 3 1 (g.1.map fun z=>[iD z]) g.2.1 g.2.2) (fun g=>n+1 - g.1.length) ([],.slice none 0 0,[]) (aa2 cl7) (by simp only [List.length_nil];rw [show pos+2+((0:Nat):Int)=pos+1+1 by omega];exact cl16) ⟨Nat.zero_le _,(by simp),RowIs.nil _ _⟩ ?_
  ·rintro ⟨ws,v,s⟩ ⟨hwl,hw,hrow⟩
   simp only at hwl hw hrow ⊢
   by_cases hlt:ws.length<n+1
   ·have hb:=ae2 xs (pos+2+ws.length) 5
    have hb':=hb.2 (by omega)
    repeat' first|refine sk104 ?_|(intro b;conv=>whnf)
    refine dr7 ?_
    refine aB5 mixed aa0 rfl [0,2] 6 (.two 1 (.one 3 (.one 4 (.one 5 (.one 6 (.one 7 .done))))) 3 (.two 1 (.one 4 (.one 5 (.one 6 (.one 7 .done)))) 4 (.one 1 (.one 5 (.one 6 (.one 7 .done)))))) (γ:=Value × aa1) (fun g=>[(39,.v v),(41,iD (atE xs (pos+2+ws.length) 5)),(42,.sl 1 [[iD (atE xs (pos+2+ws.length) 5)]]),(43,.v g.1),(44,.v (.pointer (some ⟨b,0+7,none⟩)))]) (fun g=>mkB bm xs (pos+2+ws.length+1) :: (b,.cells 97 (fldR ⟨nTag,nE,nE,3,0,0,[],[]⟩ (.sl 1 Wd) (.v g.1))) :: g.2) (fun g=>RowIs 3 1 ((ws ++ [atE xs (pos+2+ws.length) 5]).map fun z=>[iD z]) g.1 g.2) (by decide +kernel) ?_ ?_
    ·repeat' first|refine sk104 ?_|(intro b;conv=>whnf)
     repeat' first|refine sk104 ?_|(intro b;conv=>whnf)|(refine And.intro ?_ ?_ <;> (conv=>whnf))|((refine CE.own (aa6 xs hx bm _ _ ⟨by omega,by omega⟩) (List.Perm.refl ([mkB bm xs _] ++ _)) (fun s'=>s' ++ _) (fun s'=>List.Perm.refl _) ?_);(rintro _ _ ⟨rfl,rfl⟩))|((refine CE.own (aa6 xs hx bm _ _ ⟨by omega,by omega⟩) (show List.Perm (_ :: mkB bm xs _ :: _) ([mkB bm xs _] ++ (_ :: _)) from List.Perm.swap _ _ _) (fun s'=>s' ++ (_ :: _)) (fun s'=>List.Perm.refl _) ?_);(rintro _ _ ⟨rfl,rfl⟩))|(refine Ap.go rfl rfl rfl rfl hrow (τ:=[mkB bm xs (pos+2+ws.length+1),(b,.cells 97 (fldR ⟨nTag,nE,nE,3,0,0,[],[]⟩ (.sl 1 Wd) (.v v)))]) cl12 rfl (zs:=(ws ++ [atE xs (pos+2+ws.length) 5]).map fun z=>[iD z]) (by simp) (by simp;omega) (by simp;omega) (fun s'=>mkB bm xs (pos+2+ws.length+1) :: (b,.cells 97 (fldR ⟨nTag,nE,nE,3,0,0,[],[]⟩ (.sl 1 Wd) (.v v))) :: s') (fun s'=>cl13) (fun a2 c2 s2 hr2=>?_))
     all_goals exact ⟨(_,s2),(aa2 cl7),rfl,hr2⟩
    ·rintro ⟨v2,s2⟩ hr2
     generalize atE xs (pos+2+ws.length) 5=B at *
     simp only at hr2 ⊢
     repeat' first|refine sk104 ?_|(intro b;conv=>whnf)
     refine ⟨(ws ++ [B],v2,s2),?_,?_,⟨by simp;omega,fun z hz=>?_,hr2⟩,by simp only [List.length_append,List.length_cons,List.length_nil];omega⟩
     ·simp only [List.length_append,List.length_cons,List.length_nil];exact (aa2 cl2)
     ·simp only [List.length_append,List.length_cons,List.length_nil]
      rw [show pos+2+((ws.length+(0+1):Nat):Int)=pos+2+ws.length+1 by omega]
      exact cl16
     ·rcases List.mem_append.1 hz with h|h
      ·exact hw z h
      ·rw [List.mem_singleton] at h;subst h;exact ⟨hb.1,by omega⟩
   ·have hwn:ws.length=n+1:=by omega
    rw [hwn]
    have hcn:=ae2 xs (pos+2+(n+1:Nat)) (Wd.length:Nat)
    have hcn':=hcn.2 (by omega)
    have hdn:=ae2 xs (pos+2+(n+1:Nat)+1) 3
    have hdn':=hdn.2 (by omega)
    obtain ⟨c,hcc⟩:∃ c:Nat,atE xs (pos+2+(n+1:Nat)) (Wd.length:Nat)=c:=⟨(atE xs (pos+2+(n+1:Nat)) (Wd.length:Nat)).toNat,by omega⟩
    have hcl:c<ws.length:=by omega
    obtain ⟨z,hz⟩:∃ z,ws[c]?=some z:=⟨_,List.getElem?_eq_getElem hcl⟩
    obtain ⟨b1,cap1,cs1,rfl,rfl,hc1,hset⟩:=bi8 (g:=iD) hrow hz
    have hc1l:=(List.getElem?_eq_some_iff.1 hc1).1
    repeat' first|refine sk104 ?_|(intro b;conv=>whnf)
    refine dr7 ?_
    refine aB5 mixed aa0 rfl [0,2,3,4,6] 6 (.two 1 (.one 5 (.one 7 (.one 8 (.one 9 (.one 10 .done))))) 5 (.two 1 (.one 7 (.one 8 (.one 9 (.one 10 .done)))) 7 (.two 1 (.one 8 (.one 9 (.one 10 .done))) 8 (.one 1 (.one 9 (.one 10 .done)))))) (γ:=Unit) (fun _=>[(46,.v (.slice (some ⟨b1,0,none⟩) ws.length cap1)),(50,iD (atE xs (pos+2+(n+1:Nat)) (Wd.length:Nat))),(52,iD (atE xs (pos+2+(n+1:Nat)+1) 3)),(53,iD (1+atE xs (pos+2+(n+1:Nat)+1) 3)),(54,.v (.pointer (some ⟨b1,0+(atE xs (pos+2+(n+1:Nat)) (Wd.length:Nat)).toNat*1,none⟩)))]) (fun _=>(b1,.cells 3 (cs1.set c (iD (1+atE xs (pos+2+(n+1:Nat)+1) 3)))) :: [mkB bm xs (pos+2+(n+1:Nat)+1+1),(b,.cells 97 (fldR ⟨nTag,nE,nE,3,0,0,[],[]⟩ (.sl 1 Wd) (.v (.slice (some ⟨b1,0,none⟩) ws.length cap1))))]) (fun _=>True) (by decide +kernel) ?_ ?_
    ·repeat' first|refine sk104 ?_|(intro b;conv=>whnf)
     repeat' first|refine sk104 ?_|(intro b;conv=>whnf)|(refine And.intro ?_ ?_ <;> (conv=>whnf))|((refine CE.own (aa6 xs hx bm _ _ ⟨by omega,by omega⟩) (List.Perm.refl ([mkB bm xs _] ++ _)) (fun s'=>s' ++ _) (fun s'=>List.Perm.refl _) ?_);(rintro _ _ ⟨rfl,rfl⟩))|((refine CE.own (aa6 xs hx bm _ _ ⟨by omega,by omega⟩) (show List.Perm (_ :: mkB bm xs _ :: _) ([mkB bm xs _] ++ (_ :: _)) from List.Perm.swap _ _ _) (fun s'=>s' ++ (_ :: _)) (fun s'=>List.Perm.refl _) ?_);(rintro _ _ ⟨rfl,rfl⟩))|(refine Sv.cellm (tb:=3) (cs:=cs1) (cs':=cs1.set c (iD (1+atE xs (pos+2+(n+1:Nat)+1) 3))) (τ:=[mkB bm xs (pos+2+(n+1:Nat)+1+1),(b,.cells 97 (fldR ⟨nTag,nE,nE,3,0,0,[],[]⟩ (.sl 1 Wd) (.v (.slice (some ⟨b1,0,none⟩) ws.length cap1))))]) cl12 (by rw [hcc,ix1];exact hc1l) rfl (by rw [hcc,ix1]) ?_)
     all_goals exact ⟨(),(aa2 cl7),rfl,trivial⟩
    ·rintro - -
     have hrow2:=hset (1+atE xs (pos+2+(n+1:Nat)+1) 3)
     generalize atE xs (pos+2+(n+1:Nat)+1) 3=E at *
     have hWd:Wd=([nRed,aX9,bv4].take (n+1)).map fun x=>[sD x]:=by
      rw [← hW,show (1+(n:Int)).toNat=n+1 by omega,List.map_take];rfl
     repeat' first|refine sk104 ?_|(intro b;conv=>whnf)
     rw [hWd]
     have hs:∀ x,x∈ab4 [mkB bm xs (pos+2+(n+1:Nat)+1+1)]→x∈ab4 ((b1,Blk.cells 3 (cs1.set c (iD (1+E)))) :: [mkB bm xs (pos+2+(n+1:Nat)+1+1),(b,.cells 97 (fldR ⟨nTag,nE,nE,3,0,0,[],[]⟩ (.sl 1 (([nRed,aX9,bv4].take (n+1)).map fun x=>[sD x])) (.v (.slice (some ⟨b1,0,none⟩) ws.length cap1))))]):=fun x h=>by simp [ab4] at h ⊢;exact .inr (.inl h)
     refine Rt.by (Vs.vd ⟨[(b1,Blk.cells 3 (cs1.set c (iD (1+E)))),(b,.cells 97 (fldR ⟨nTag,nE,nE,3,0,0,[],[]⟩ (.sl 1 (([nRed,aX9,bv4].take (n+1)).map fun x=>[sD x])) (.v (.slice (some ⟨b1,0,none⟩) ws.length cap1))))],by (refine ac9 fun a=>?_;simp only [List.append_eq,List.nil_append,ad1,af7,af6,rfC,atC,iD,bD];omega)⟩ (Vd.sl hs (.cons (.cons (Vd.same hs _) (.cons (Vd.same hs _) (.cons (Vd.same hs _) (.cons (Vd.same hs _) (.cons (Vd.same hs _) (.cons (Vd.same hs _) (.cons (Vd.same hs _) (.cons (Vd.row hrow2 (List.Perm.refl _) (fun x h=>by simp [ab4] at h ⊢;exact .inl h)) .nil)))))))) .nil))) ⟨_,_,⟨?_,?_⟩,rfl,rfl,PlainF.tag (n+1) (ws.set c (1+E)) ⟨by omega,by omega⟩ (by rw [List.length_set];omega) (fun z hz=>?_) ⟨1+E,?_,by omega⟩⟩
     ·omega
     ·omega
     ·rcases List.mem_or_eq_of_mem_set hz with h|rfl
      ·exact hw z h
      ·omega
     ·exact List.mem_set hcl _
 by_cases e2:r=2
 ·repeat' first|refine sk104 ?_|(intro b;conv=>whnf)
  (refine CE.own (al5 xs hx bm _ _ ⟨by omega,by omega⟩) (List.Perm.refl ([mkB bm xs _] ++ _)) (fun s'=>s' ++ _) (fun s'=>List.Perm.refl _) ?_)
  rintro _ _ ⟨a,rfl,⟨ha,ha'⟩,rfl⟩
  have ha':=ha' (by omega)
  repeat' first|refine sk104 ?_|(intro b;conv=>whnf)
  have hb:=ae2 xs (pos+1+1) 60
  have hb':=hb.2 (by omega)
  refine dr7 ?_
  refine aB5 mixed aa0 rfl [0,2] 5 (.two 1 (.one 3 (.one 4 (.one 5 (.one 6 .done)))) 3 (.one 1 (.one 4 (.one 5 (.one 6 .done))))) (γ:=Unit) (fun _=>[(64,iD (a - 200)),(66,iD (atE xs (pos+1+1) 60)),(67,iD (a - 200+atE xs (pos+1+1) 60)),(68,.v (.pointer (some ⟨b,0+5,none⟩)))]) (fun _=>[mkB bm xs (pos+1+1+1),(b,.cells 97 (fldR ⟨be2,nE,nE,4,a - 200,a - 200+atE xs (pos+1+1) 60,[],[]⟩ nilD nilD))]) (fun _=>True) (by decide +kernel) ?_ ?_
  ·repeat' first|refine sk104 ?_|(intro b;conv=>whnf)
   repeat' first|refine sk104 ?_|(intro b;conv=>whnf)|(refine And.intro ?_ ?_ <;> (conv=>whnf))|((refine CE.own (aa6 xs hx bm _ _ ⟨by omega,by omega⟩) (List.Perm.refl ([mkB bm xs _] ++ _)) (fun s'=>s' ++ _) (fun s'=>List.Perm.refl _) ?_);(rintro _ _ ⟨rfl,rfl⟩))|((refine CE.own (aa6 xs hx bm _ _ ⟨by omega,by omega⟩) (show List.Perm (_ :: mkB bm xs _ :: _) ([mkB bm xs _] ++ (_ :: _)) from List.Perm.swap _ _ _) (fun s'=>s' ++ (_ :: _)) (fun s'=>List.Perm.refl _) ?_);(rintro _ _ ⟨rfl,rfl⟩))
   all_goals exact ⟨(),(aa2 cl7),rfl,trivial⟩
  ·rintro - -
   generalize atE xs (pos+1+1) 60=B at *
   have hc:=ae2 xs (pos+1+1+1) 3
   have hc':=hc.2 (by omega)
   have hd:=ae2 xs (pos+1+1+1+1) 30
   have hd':=hd.2 (by omega)
   repeat' first|refine sk104 ?_|(intro b;conv=>whnf)
   (refine Dr.r ?_;refine W.mk ?_)
   refine aB5 mixed aa0 rfl [1,3] 7 (.two 0 (.one 2 (.one 4 (.one 5 (.one 6 (.one 7 (.one 8 .done)))))) 2 (.two 0 (.one 4 (.one 5 (.one 6 (.one 7 (.one 8 .done))))) 4 (.two 0 (.one 5 (.one 6 (.one 7 (.one 8 .done)))) 5 (.two 0 (.one 6 (.one 7 (.one 8 .done))) 6 (.one 0 (.one 7 (.one 8 .done))))))) (γ:=Unit) (fun _=>[(2,.sl 8 [fldR ⟨be2,nE,nE,4,a - 200,a - 200+B,[],[]⟩ nilD nilD,fldR ⟨ch5,be2,nE,4,atE xs (pos+1+1+1) 3,3+atE xs (pos+1+1+1+1) 30,[],[]⟩ nilD nilD])]) (fun _=>[mkB bm xs (pos+1+1+1+1+1),(b,.cells 97 (fldR ⟨be2,nE,nE,4,a - 200,a - 200+B,[],[]⟩ nilD nilD))]) (fun _=>True) (by decide +kernel) ?_ ?_
   ·repeat' first|refine sk104 ?_|(intro b;conv=>whnf)
    repeat' first|refine sk104 ?_|(intro b;conv=>whnf)|(refine And.intro ?_ ?_ <;> (conv=>whnf))|((refine CE.own (aa6 xs hx bm _ _ ⟨by omega,by omega⟩) (List.Perm.refl ([mkB bm xs _] ++ _)) (fun s'=>s' ++ _) (fun s'=>List.Perm.refl _) ?_);(rintro _ _ ⟨rfl,rfl⟩))|((refine CE.own (aa6 xs hx bm _ _ ⟨by omega,by omega⟩) (show List.Perm (_ :: mkB bm xs _ :: _) ([mkB bm xs _] ++ (_ :: _)) from List.Perm.swap _ _ _) (fun s'=>s' ++ (_ :: _)) (fun s'=>List.Perm.refl _) ?_);(rintro _ _ ⟨rfl,rfl⟩))
    all_goals exact ⟨(),(aa2 cl7),rfl,trivial⟩
   ·rintro - -
    generalize atE xs (pos+1+1+1) 3=C at *
    generalize atE xs (pos+1+1+1+1) 30=E at *
    repeat' first|refine sk104 ?_|(intro b;conv=>whnf)
    have hs:∀ x,x∈ab4 [mkB bm xs (pos+1+1+1+1+1)]→x∈ab4 [mkB bm xs (pos+1+1+1+1+1),(b,.cells 97 (fldR ⟨be2,nE,nE,4,a - 200,a - 200+B,[],[]⟩ nilD nilD))]:=fun x h=>by simp [ab4] at h ⊢;exact .inl h
    exact Rt.by (Vs.vd ⟨[_],List.Perm.swap _ _ _⟩ (Vd.sl hs (by repeat' (first|exact Vd3.nil|exact Vd2.nil|refine Vd3.cons ?_ ?_|refine Vd2.cons ?_ ?_|exact Vd.nil _|exact Vd.same hs _)))) ⟨_,_,⟨by omega,by omega⟩,rfl,rfl,PlainF.born (a - 200) B C E ⟨by omega,by omega⟩ ⟨by omega,by omega⟩ ⟨by omega,by omega⟩ ⟨by omega,by omega⟩⟩
 by_cases e3:r=3
 ·repeat' first|refine sk104 ?_|(intro b;conv=>whnf)
  (refine CE.own (al5 xs hx bm _ _ ⟨by omega,by omega⟩) (List.Perm.refl ([mkB bm xs _] ++ _)) (fun s'=>s' ++ _) (fun s'=>List.Perm.refl _) ?_)
  rintro _ _ ⟨a,rfl,⟨ha,ha'⟩,rfl⟩
  have ha':=ha' (by omega)
  repeat' first|refine sk104 ?_|(intro b;conv=>whnf)
  (refine CE.own (al5 xs hx bm _ _ ⟨by omega,by omega⟩) (List.Perm.refl ([mkB bm xs _] ++ _)) (fun s'=>s' ++ _) (fun s'=>List.Perm.refl _) ?_)
  rintro _ _ ⟨b,rfl,⟨hb,hb'⟩,rfl⟩
  have hb':=hb' (by omega)
  repeat' first|refine sk104 ?_|(intro b;conv=>whnf)
  exact Rt.by (Vs.vd ⟨[],List.Perm.refl _⟩ (Vd.sl (fun _ h=>h) cl20)) ⟨_,_,⟨by omega,by omega⟩,rfl,rfl,PlainF.state a b ⟨by omega,by omega⟩ ⟨by omega,by omega⟩⟩
 by_cases e4:r=4
 ·repeat' first|refine sk104 ?_|(intro b;conv=>whnf)
  (refine CE.own (al5 xs hx bm _ _ ⟨by omega,by omega⟩) (List.Perm.refl ([mkB bm xs _] ++ _)) (fun s'=>s' ++ _) (fun s'=>List.Perm.refl _) ?_)
  rintro _ _ ⟨a,rfl,⟨ha,ha'⟩,rfl⟩
  have ha':=ha' (by omega)
  repeat' first|refine sk104 ?_|(intro b;conv=>whnf)
  (refine CE.own (al5 xs hx bm _ _ ⟨by omega,by omega⟩) (List.Perm.refl ([mkB bm xs _] ++ _)) (fun s'=>s' ++ _) (fun s'=>List.Perm.refl _) ?_)
  rintro _ _ ⟨b,rfl,⟨hb,hb'⟩,rfl⟩
  have hb':=hb' (by omega)
  repeat' first|refine sk104 ?_|(intro b;conv=>whnf)
  (refine CE.own (al5 xs hx bm _ _ ⟨by omega,by omega⟩) (List.Perm.refl ([mkB bm xs _] ++ _)) (fun s'=>s' ++ _) (fun s'=>List.Perm.refl _) ?_)
  rintro _ _ ⟨c,rfl,⟨hc,hc'⟩,rfl⟩
  have hc':=hc' (by omega)
  repeat' first|refine sk104 ?_|(intro b;conv=>whnf)
  (refine CE.own (al5 xs hx bm _ _ ⟨by omega,by omega⟩) (List.Perm.refl ([mkB bm xs _] ++ _)) (fun s'=>s' ++ _) (fun s'=>List.Perm.refl _) ?_)
  rintro _ _ ⟨d,rfl,⟨hd,hd'⟩,rfl⟩
  have hd':=hd' (by omega)
  repeat' first|refine sk104 ?_|(intro b;conv=>whnf)
  exact Rt.by (Vs.vd ⟨[],List.Perm.refl _⟩ (Vd.sl (fun _ h=>h) cl20)) ⟨_,_,⟨by omega,by omega⟩,rfl,rfl,PlainF.low a b c d ⟨by omega,by omega⟩ ⟨by omega,by omega⟩ ⟨by omega,by omega⟩ ⟨by omega,by omega⟩⟩
 ·repeat' first|refine sk104 ?_|(intro b;conv=>whnf)
  exact Rt.by (Vs.vd ⟨[],List.Perm.refl _⟩ (Vd.nil 8)) ⟨_,_,⟨by omega,by omega⟩,rfl,rfl,PlainF.none⟩
end
section
open Go
abbrev aO4:ByteArray:=⟨#[111,114,100,101,114]⟩
abbrev be1:ByteArray:=⟨#[109,111,115,116]⟩
abbrev aK1:ByteArray:=⟨#[108,101,97,115,116]⟩
inductive RuleF (k:Knd):Rul→Prop
 | low (n:Int) (h:0≤ap5 k.fields nLow) (hn:0≤n∧n<8):RuleF k ⟨aO4 ++ k.name.extract 0 1,k.name,nLow,nHigh,n - 2⟩
 | most (f:Fld) (n:Int) (h:0≤ap5 k.fields nSize) (hf:k.fields[(ap5 k.fields nSize).toNat]?=some f) (hn:0≤n∧n<12):RuleF k ⟨be1 ++ k.name.extract 0 1,k.name,nSize,nE,f.lo+n⟩
 | least (f:Fld) (n:Int) (h:0≤ap5 k.fields nSize) (hf:k.fields[(ap5 k.fields nSize).toNat]?=some f) (hn:0≤n∧n<12):RuleF k ⟨aK1 ++ k.name.extract 0 1,k.name,nE,nSize,n - f.hi⟩
theorem sk105 {A B:Prop} (k:B) (h:Hd7 B→A:=by intro hk7q;(first|refine sb0 ?_|refine sb103 ?_|((with_reducible refine' Cp.by ?hc ?_);(case hc=>exact aJ7 _ _ hfl))|((with_reducible refine' CE.pure ?hc ?_);(case hc=>exact aJ7 _ _ hfl)));exact hk7q.run):A:=h ⟨k⟩
theorem bF5 (xs:List Int) (hx:I64s xs) (bm:Nat) (pos:Int) (hp:0≤pos∧pos≤100000000) (k:Knd) (hfl:k.fields.length≤1000000) (hnm:1≤k.name.size∧k.name.size≤12) (hsm:∀ f∈k.fields,(-100000≤f.lo∧f.lo≤100000)∧(-100000≤f.hi∧f.hi≤100000)) :
  ACall Tryz.prog 34 [ptr bm,kndD k] [mkB bm xs pos] (fun d σ=>∃ pos' r ok,(pos≤pos'∧pos'≤pos+20)∧d = .tup [rulD r,bD ok]∧σ=[mkB bm xs pos']∧(ok=true→RuleF k r)):=by
 have hex:(k.name.extract 0 (1:Int).toNat).size=1:=by
  rw [show (1:Int).toNat=1 from rfl,ByteArray.size_extract];omega
 refine eC7 Tryz.func34 Tryz.ntmps34 fun BB=>?_
 repeat' first|refine sk105 ?_|(intro b;conv=>whnf)
 generalize b=b4
 have fin:∀ (pos':Int) (r:Rul) (ok:Bool) (ρ:aa1),[mkB bm xs pos'].Sublist ρ→(pos≤pos'∧pos'≤pos+20)→(ok=true→RuleF k r)→Rt (fun d σ=>∃ pos' r ok,(pos≤pos'∧pos'≤pos+20)∧d = .tup [rulD r,bD ok]∧σ=[mkB bm xs pos']∧(ok=true→RuleF k r)) (.tup [rulD r,bD ok]) ρ:=fun pos' r ok ρ h0 h1 h2=>Rt.by (Vs.drop h0) ⟨_,_,_,h1,rfl,rfl,h2⟩
 by_cases hl:0≤ap5 k.fields nLow
 ·have ha:=ae2 xs pos 3
  have ha':=ha.2 (by omega)
  repeat' first|refine sk105 ?_|(intro b;conv=>whnf)
  ((refine CE.own (aa6 xs hx bm _ _ ⟨by omega,by omega⟩) (show List.Perm (_ :: mkB bm xs _ :: _) ([mkB bm xs _] ++ (_ :: _)) from List.Perm.swap _ _ _) (fun s'=>s' ++ (_ :: _)) (fun s'=>List.Perm.refl _) ?_);(rintro _ _ ⟨rfl,rfl⟩))
  by_cases hpos:0<atE xs pos 3
  ·have hb:=ae2 xs (pos+1) 8
   have hb':=hb.2 (by omega)
   repeat' first|refine sk105 ?_|(intro b;conv=>whnf)
   refine dr7 ?_
   refine aB5 mixed aa0 rfl [0,1,2,3,4,5,6] 5 (.one 7 (.one 8 (.one 9 (.one 10 (.one 11 .done))))) (γ:=Unit) (fun _=>[(5,bD true),(29,iD (atE xs (pos+1) 8)),(30,iD (atE xs (pos+1) 8 - 2)),(31,rulD ⟨aO4 ++ k.name.extract 0 1,k.name,nLow,nHigh,atE xs (pos+1) 8 - 2⟩)]) (fun _=>[mkB bm xs (pos+1+1),(b4,.cells 92 (rulC ⟨aO4 ++ k.name.extract 0 1,k.name,nLow,nHigh,atE xs (pos+1) 8 - 2⟩))]) (fun _=>True) (by decide +kernel) ?_ ?_
   ·repeat' first|refine sk105 ?_|(intro b;conv=>whnf)|((with_reducible refine Sd.go ?qs8 ?_);(case qs8=>(rw [hex];decide)))|(refine And.intro ?_ ?_ <;> (conv=>whnf))|((refine CE.own (aa6 xs hx bm _ _ ⟨by omega,by omega⟩) (List.Perm.refl ([mkB bm xs _] ++ _)) (fun s'=>s' ++ _) (fun s'=>List.Perm.refl _) ?_);(rintro _ _ ⟨rfl,rfl⟩))|((refine CE.own (aa6 xs hx bm _ _ ⟨by omega,by omega⟩) (show List.Perm (_ :: mkB bm xs _ :: _) ([mkB bm xs _] ++ (_ :: _)) from List.Perm.swap _ _ _) (fun s'=>s' ++ (_ :: _)) (fun s'=>List.Perm.refl _) ?_);(rintro _ _ ⟨rfl,rfl⟩))
    all_goals exact ⟨(),(aa2 cl7),rfl,trivial⟩
   ·rintro - -
    repeat' first|refine sk105 ?_|(intro b;conv=>whnf)
    refine Rs.ct aa0 (m:=1) rfl rfl rfl rfl rfl rfl rfl ?_
    repeat' first|refine sk105 ?_|(intro b;conv=>whnf)
    exact fin _ ⟨aO4 ++ k.name.extract 0 1,k.name,nLow,nHigh,atE xs (pos+1) 8 - 2⟩ true _ (.cons_cons _ (List.nil_sublist _)) ⟨by omega,by omega⟩ (fun _=>RuleF.low _ hl ⟨by omega,by omega⟩)
  ·generalize hq:pos+1=q
   have hqb:pos≤q∧q≤pos+1:=⟨by omega,by omega⟩
   clear hq
   by_cases hs:ap5 k.fields nSize<0
   ·repeat' first|refine sk105 ?_|(intro b;conv=>whnf)
    first
     | refine Rs.ct aa0 (m:=1) rfl rfl rfl rfl rfl rfl rfl ?_
     | refine Rs.ct aa0 (m:=0) rfl rfl rfl rfl rfl rfl rfl ?_
    repeat' first|refine sk105 ?_|(intro b;conv=>whnf)
    refine fin q ⟨nE,nE,nE,nE,0⟩ false _ ?_ ⟨by omega,by omega⟩ (fun h=>by cases h)
    first
     | exact .cons_cons _ (List.nil_sublist _)
     | exact .cons _ (.cons_cons _ (List.nil_sublist _))
   ·have hlt:ap5 k.fields nSize<k.fields.length:=aO6 _ _
    have h0l:0≤ap5 k.fields ⟨#[115,105,122,101]⟩:=Int.not_lt.1 hs
    obtain ⟨f,hf⟩:∃ f,k.fields[(ap5 k.fields nSize).toNat]?=some f:=⟨_,List.getElem?_eq_getElem (by omega)⟩
    obtain ⟨⟨hf1,hf2⟩,hf3,hf4⟩:=hsm f (List.mem_of_getElem? hf)
    have hc:=ae2 xs q 2
    have hd:=ae2 xs (q+1) 12
    have hd':=hd.2 (by omega)
    repeat' first|refine sk105 ?_|(intro b;conv=>whnf)
    refine CE.own (t:=[(b,.cells 97 (fldC f)),(b4,.cells 92 [.v (zv ZV.str),.v (zv ZV.str),.v (zv ZV.str),.v (zv ZV.str),.v (zv (ZV.int IntKind.i64))])]) (aa6 xs hx bm q 2 ⟨by omega,by omega⟩) ?hpm (fun s'=>s' ++ [(b,.cells 97 (fldC f)),(b4,.cells 92 [.v (zv ZV.str),.v (zv ZV.str),.v (zv ZV.str),.v (zv ZV.str),.v (zv (ZV.int IntKind.i64))])]) (fun s'=>List.Perm.refl _) ?_
    case hpm=>
     first
      | exact List.Perm.swap _ _ _
      | exact (List.Perm.cons _ (List.Perm.swap _ _ _)).trans (List.Perm.swap _ _ _)
    rintro _ _ ⟨rfl,rfl⟩
    by_cases hz:atE xs q 2=0
    ·repeat' first|refine sk105 ?_|(intro b;conv=>whnf)
     refine dr7 ?_
     refine aB5 mixed aa0 rfl [0,1,2,3,4,5,6,8] 6 (.two 7 (.one 9 (.one 10 (.one 11 (.one 12 (.one 13 .done))))) 9 (.one 7 (.one 10 (.one 11 (.one 12 (.one 13 .done)))))) (γ:=Unit) (fun _=>[(5,bD true),(50,iD f.lo),(52,iD (atE xs (q+1) 12)),(53,iD (f.lo+atE xs (q+1) 12)),(54,rulD ⟨be1 ++ k.name.extract 0 1,k.name,nSize,nE,f.lo+atE xs (q+1) 12⟩)]) (fun _=>[mkB bm xs (q+1+1),(b,.cells 97 (fldC f)),(b4,.cells 92 (rulC ⟨be1 ++ k.name.extract 0 1,k.name,nSize,nE,f.lo+atE xs (q+1) 12⟩))]) (fun _=>True) (by decide +kernel) ?_ ?_
     ·repeat' first|refine sk105 ?_|(intro b;conv=>whnf)|((with_reducible refine Sd.go ?qs8 ?_);(case qs8=>(rw [hex];decide)))|(refine And.intro ?_ ?_ <;> (conv=>whnf))|((refine CE.own (aa6 xs hx bm _ _ ⟨by omega,by omega⟩) (List.Perm.refl ([mkB bm xs _] ++ _)) (fun s'=>s' ++ _) (fun s'=>List.Perm.refl _) ?_);(rintro _ _ ⟨rfl,rfl⟩))|((refine CE.own (aa6 xs hx bm _ _ ⟨by omega,by omega⟩) (show List.Perm (_ :: mkB bm xs _ :: _) ([mkB bm xs _] ++ (_ :: _)) from List.Perm.swap _ _ _) (fun s'=>s' ++ (_ :: _)) (fun s'=>List.Perm.refl _) ?_);(rintro _ _ ⟨rfl,rfl⟩))
      all_goals exact ⟨(),(aa2 cl7),rfl,trivial⟩
     ·rintro - -
      repeat' first|refine sk105 ?_|(intro b;conv=>whnf)
      refine Rs.ct aa0 (m:=2) rfl rfl rfl rfl rfl rfl rfl ?_
      repeat' first|refine sk105 ?_|(intro b;conv=>whnf)
      exact fin _ ⟨be1 ++ k.name.extract 0 1,k.name,nSize,nE,f.lo+atE xs (q+1) 12⟩ true _ (.cons_cons _ (List.nil_sublist _)) ⟨by omega,by omega⟩ (fun _=>RuleF.most f _ (by omega) hf ⟨by omega,by omega⟩)
    ·repeat' first|refine sk105 ?_|(intro b;conv=>whnf)
     refine dr7 ?_
     refine aB5 mixed aa0 rfl [0,1,2,3,4,5,6,8] 6 (.two 7 (.one 9 (.one 10 (.one 11 (.one 12 (.one 13 .done))))) 9 (.one 7 (.one 10 (.one 11 (.one 12 (.one 13 .done)))))) (γ:=Unit) (fun _=>[(5,bD true),(64,iD f.hi),(62,iD (atE xs (q+1) 12)),(65,iD (atE xs (q+1) 12 - f.hi)),(66,rulD ⟨aK1 ++ k.name.extract 0 1,k.name,nE,nSize,atE xs (q+1) 12 - f.hi⟩)]) (fun _=>[mkB bm xs (q+1+1),(b,.cells 97 (fldC f)),(b4,.cells 92 (rulC ⟨aK1 ++ k.name.extract 0 1,k.name,nE,nSize,atE xs (q+1) 12 - f.hi⟩))]) (fun _=>True) (by decide +kernel) ?_ ?_
     ·repeat' first|refine sk105 ?_|(intro b;conv=>whnf)|((with_reducible refine Sd.go ?qs8 ?_);(case qs8=>(rw [hex];decide)))|(refine And.intro ?_ ?_ <;> (conv=>whnf))|((refine CE.own (aa6 xs hx bm _ _ ⟨by omega,by omega⟩) (List.Perm.refl ([mkB bm xs _] ++ _)) (fun s'=>s' ++ _) (fun s'=>List.Perm.refl _) ?_);(rintro _ _ ⟨rfl,rfl⟩))|((refine CE.own (aa6 xs hx bm _ _ ⟨by omega,by omega⟩) (show List.Perm (_ :: mkB bm xs _ :: _) ([mkB bm xs _] ++ (_ :: _)) from List.Perm.swap _ _ _) (fun s'=>s' ++ (_ :: _)) (fun s'=>List.Perm.refl _) ?_);(rintro _ _ ⟨rfl,rfl⟩))
      all_goals exact ⟨(),(aa2 cl7),rfl,trivial⟩
     ·rintro - -
      repeat' first|refine sk105 ?_|(intro b;conv=>whnf)
      refine Rs.ct aa0 (m:=2) rfl rfl rfl rfl rfl rfl rfl ?_
      repeat' first|refine sk105 ?_|(intro b;conv=>whnf)
      exact fin _ ⟨aK1 ++ k.name.extract 0 1,k.name,nE,nSize,atE xs (q+1) 12 - f.hi⟩ true _ (.cons_cons _ (List.nil_sublist _)) ⟨by omega,by omega⟩ (fun _=>RuleF.least f _ (by omega) hf ⟨by omega,by omega⟩)
 ·skip
  by_cases hs:ap5 k.fields nSize<0
  ·repeat' first|refine sk105 ?_|(intro b;conv=>whnf)
   first
    | refine Rs.ct aa0 (m:=1) rfl rfl rfl rfl rfl rfl rfl ?_
    | refine Rs.ct aa0 (m:=0) rfl rfl rfl rfl rfl rfl rfl ?_
   repeat' first|refine sk105 ?_|(intro b;conv=>whnf)
   refine fin pos ⟨nE,nE,nE,nE,0⟩ false _ ?_ ⟨by omega,by omega⟩ (fun h=>by cases h)
   first
    | exact .cons_cons _ (List.nil_sublist _)
    | exact .cons _ (.cons_cons _ (List.nil_sublist _))
  ·have hlt:ap5 k.fields nSize<k.fields.length:=aO6 _ _
   have h0l:0≤ap5 k.fields ⟨#[115,105,122,101]⟩:=Int.not_lt.1 hs
   obtain ⟨f,hf⟩:∃ f,k.fields[(ap5 k.fields nSize).toNat]?=some f:=⟨_,List.getElem?_eq_getElem (by omega)⟩
   obtain ⟨⟨hf1,hf2⟩,hf3,hf4⟩:=hsm f (List.mem_of_getElem? hf)
   have hc:=ae2 xs pos 2
   have hd:=ae2 xs (pos+1) 12
   have hd':=hd.2 (by omega)
   repeat' first|refine sk105 ?_|(intro b;conv=>whnf)
   refine CE.own (t:=[(b,.cells 97 (fldC f)),(b4,.cells 92 [.v (zv ZV.str),.v (zv ZV.str),.v (zv ZV.str),.v (zv ZV.str),.v (zv (ZV.int IntKind.i64))])]) (aa6 xs hx bm pos 2 ⟨by omega,by omega⟩) ?hpm (fun s'=>s' ++ [(b,.cells 97 (fldC f)),(b4,.cells 92 [.v (zv ZV.str),.v (zv ZV.str),.v (zv ZV.str),.v (zv ZV.str),.v (zv (ZV.int IntKind.i64))])]) (fun s'=>List.Perm.refl _) ?_
   case hpm=>
    first
     | exact List.Perm.swap _ _ _
     | exact (List.Perm.cons _ (List.Perm.swap _ _ _)).trans (List.Perm.swap _ _ _)
   rintro _ _ ⟨rfl,rfl⟩
   by_cases hz:atE xs pos 2=0
   ·repeat' first|refine sk105 ?_|(intro b;conv=>whnf)
    refine dr7 ?_
    refine aB5 mixed aa0 rfl [0,1,2,3,4,5,6,8] 6 (.two 7 (.one 9 (.one 10 (.one 11 (.one 12 (.one 13 .done))))) 9 (.one 7 (.one 10 (.one 11 (.one 12 (.one 13 .done)))))) (γ:=Unit) (fun _=>[(5,bD true),(50,iD f.lo),(52,iD (atE xs (pos+1) 12)),(53,iD (f.lo+atE xs (pos+1) 12)),(54,rulD ⟨be1 ++ k.name.extract 0 1,k.name,nSize,nE,f.lo+atE xs (pos+1) 12⟩)]) (fun _=>[mkB bm xs (pos+1+1),(b,.cells 97 (fldC f)),(b4,.cells 92 (rulC ⟨be1 ++ k.name.extract 0 1,k.name,nSize,nE,f.lo+atE xs (pos+1) 12⟩))]) (fun _=>True) (by decide +kernel) ?_ ?_
    ·repeat' first|refine sk105 ?_|(intro b;conv=>whnf)|((with_reducible refine Sd.go ?qs8 ?_);(case qs8=>(rw [hex];decide)))|(refine And.intro ?_ ?_ <;> (conv=>whnf))|((refine CE.own (aa6 xs hx bm _ _ ⟨by omega,by omega⟩) (List.Perm.refl ([mkB bm xs _] ++ _)) (fun s'=>s' ++ _) (fun s'=>List.Perm.refl _) ?_);(rintro _ _ ⟨rfl,rfl⟩))|((refine CE.own (aa6 xs hx bm _ _ ⟨by omega,by omega⟩) (show List.Perm (_ :: mkB bm xs _ :: _) ([mkB bm xs _] ++ (_ :: _)) from List.Perm.swap _ _ _) (fun s'=>s' ++ (_ :: _)) (fun s'=>List.Perm.refl _) ?_);(rintro _ _ ⟨rfl,rfl⟩))
     all_goals exact ⟨(),(aa2 cl7),rfl,trivial⟩
    ·rintro - -
     repeat' first|refine sk105 ?_|(intro b;conv=>whnf)
     refine Rs.ct aa0 (m:=2) rfl rfl rfl rfl rfl rfl rfl ?_
     repeat' first|refine sk105 ?_|(intro b;conv=>whnf)
     exact fin _ ⟨be1 ++ k.name.extract 0 1,k.name,nSize,nE,f.lo+atE xs (pos+1) 12⟩ true _ (.cons_cons _ (List.nil_sublist _)) ⟨by omega,by omega⟩ (fun _=>RuleF.most f _ (by omega) hf ⟨by omega,by omega⟩)
   ·repeat' first|refine sk105 ?_|(intro b;conv=>whnf)
    refine dr7 ?_
    refine aB5 mixed aa0 rfl [0,1,2,3,4,5,6,8] 6 (.two 7 (.one 9 (.one 10 (.one 11 (.one 12 (.one 13 .done))))) 9 (.one 7 (.one 10 (.one 11 (.one 12 (.one 13 .done)))))) (γ:=Unit) (fun _=>[(5,bD true),(64,iD f.hi),(62,iD (atE xs (pos+1) 12)),(65,iD (atE xs (pos+1) 12 - f.hi)),(66,rulD ⟨aK1 ++ k.name.extract 0 1,k.name,nE,nSize,atE xs (pos+1) 12 - f.hi⟩)]) (fun _=>[mkB bm xs (pos+1+1),(b,.cells 97 (fldC f)),(b4,.cells 92 (rulC ⟨aK1 ++ k.name.extract 0 1,k.name,nE,nSize,atE xs (pos+1) 12 - f.hi⟩))]) (fun _=>True) (by decide +kernel) ?_ ?_
    ·repeat' first|refine sk105 ?_|(intro b;conv=>whnf)|((with_reducible refine Sd.go ?qs8 ?_);(case qs8=>(rw [hex];decide)))|(refine And.intro ?_ ?_ <;> (conv=>whnf))|((refine CE.own (aa6 xs hx bm _ _ ⟨by omega,by omega⟩) (List.Perm.refl ([mkB bm xs _] ++ _)) (fun s'=>s' ++ _) (fun s'=>List.Perm.refl _) ?_);(rintro _ _ ⟨rfl,rfl⟩))|((refine CE.own (aa6 xs hx bm _ _ ⟨by omega,by omega⟩) (show List.Perm (_ :: mkB bm xs _ :: _) ([mkB bm xs _] ++ (_ :: _)) from List.Perm.swap _ _ _) (fun s'=>s' ++ (_ :: _)) (fun s'=>List.Perm.refl _) ?_);(rintro _ _ ⟨rfl,rfl⟩))
     all_goals exact ⟨(),(aa2 cl7),rfl,trivial⟩
    ·rintro - -
     repeat' first|refine sk105 ?_|(intro b;conv=>whnf)
     refine Rs.ct aa0 (m:=2) rfl rfl rfl rfl rfl rfl rfl ?_
     repeat' first|refine sk105 ?_|(intro b;conv=>whnf)
     exact fin _ ⟨aK1 ++ k.name.extract 0 1,k.name,nE,nSize,atE xs (pos+1) 12 - f.hi⟩ true _ (.cons_cons _ (List.nil_sublist _)) ⟨by omega,by omega⟩ (fun _=>RuleF.least f _ (by omega) hf ⟨by omega,by omega⟩)
end
section
open Go
abbrev nId:ByteArray:=⟨#[105,100]⟩
abbrev nOf:ByteArray:=⟨#[111,102]⟩
abbrev co0:ByteArray:=⟨#[115,97,109,101]⟩
abbrev co1:ByteArray:=⟨#[112,97,114,116]⟩
abbrev aB4:ByteArray:=⟨#[116,111,116,97,108]⟩
abbrev nBy:ByteArray:=⟨#[98,121]⟩
abbrev bv3:ByteArray:=⟨#[112,101,114,115,111,110]⟩
abbrev ch6:ByteArray:=⟨#[105,116,101,109]⟩
def knm (n:Nat):ByteArray:=[bv3,aO4,ch6].getD n nE
def idF (lo:Int):Fld:=⟨nId,nE,nE,0,lo,0,[],[]⟩
def ofF (k:Knd) (lo hi:Int):Fld:=⟨nOf,k.name,nE,1,lo,hi,[],[]⟩
def bd4 (nm:ByteArray):Fld:=⟨co0,nm,nOf,8,0,0,[],[]⟩
def ay8 (a b:Int):Fld:=⟨co1,aB4,nOf,7,a,a+b,[],[]⟩
def totF (nm:ByteArray):Fld:=⟨aB4,nm,nE,6,0,0,[],[]⟩
def byF (k:Knd):Fld:=⟨nBy,k.name,nE,1,0,8,[],[]⟩
inductive RefP (ks:List Knd) (nm:ByteArray):List Fld→List Knd→Prop
 | none (h:ks=[]):RefP ks nm [] ks
 | of (tw0:Nat) (y:Knd) (lo hi:Int) (sm:List Fld) (hy:ks[tw0]?=some y) (hl:lo=0∨lo=1) (hh:hi∈[4,3,8,2]) (hs:sm=[]∨∃ g,0≤as3 y∧y.fields[(as3 y).toNat]?=some g∧sm=[bd4 g.name]):RefP ks nm (ofF y lo hi :: sm) ks
 | part (tw0:Nat) (y:Knd) (lo hi a b:Int) (sm:List Fld) (hy:ks[tw0]?=some y) (hl:lo=0∨lo=1) (hh:hi∈[4,3,8,2]) (hs:sm=[]∨∃ g,0≤as3 y∧y.fields[(as3 y).toNat]?=some g∧sm=[bd4 g.name])
   (ht:ap5 y.fields aB4<0) (ha:0≤a∧a<3) (hb:0≤b∧b<8):RefP ks nm (ofF y lo hi :: (sm ++ [ay8 a b])) (ks.set tw0 ⟨y.name,y.lo,y.hi,y.fields ++ [totF nm]⟩)
structure KMade (ks:List Knd) (k:Knd) (ks':List Knd):Prop where
 ex:∃ lo r idl f1 f2 p1 p2,lo∈[(0:Int),1,2,4,1,2]∧(0≤r∧r<5)∧idl∈[(0:Int),1,100,-3]∧k=⟨knm ks.length,lo,lo+r,idF idl :: (f1 ++ (f2 ++ (p1 ++ p2)))⟩∧RefP ks (knm ks.length) f1 ks' ∧
  (f2=[]∨∃ y,ks[0]?=some y∧1<ks.length∧f2=[byF y])∧PlainF p1∧PlainF p2∧(p2=[]∨∃ g gs,p2=g :: gs∧ap5 (idF idl :: (f1 ++ (f2 ++ p1))) g.name<0)
end
end Go.Proofs.YtlcfiilejnnlnaaGreatDoor
