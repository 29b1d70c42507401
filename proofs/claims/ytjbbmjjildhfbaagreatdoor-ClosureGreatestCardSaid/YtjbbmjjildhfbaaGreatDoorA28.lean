/- A part of the proof: Wv Ld Lc Pl Wg Ww. -/
import Derived.Test.YtjbbmjjildhfbaaGreatDoorA27
import Derived.Test.YtjbbmjjildhfbaaGreatDoorRows
import Derived.LaidMore
import Derived.OpenShut
import Derived.LaidHandle
import Derived.LaidSub
import Derived.Lib.LaidU8
import Derived.WideKeyElems2
import Derived.Maps.RangeWalk
import Derived.Maps.Keyed
import Derived.WalkKit
import Derived.ProofKit
import Derived.ChangeSlices
import Derived.ChangeCalls
import Derived.Deep.Onto
import Derived.Stop.Joined
set_option maxRecDepth 100000
set_option maxHeartbeats 4000000
set_option linter.unusedVariables false
set_option linter.unusedSimpArgs false
namespace Go.Proofs.YtjbbmjjildhfbaaGreatDoor
section
open Go Go.RowKit Go.Shelf
theorem l31_some_p (l m : List Int) (hl : I64s l) (hm : I64s m) (at_ how by_ : Int) (hat : I64n at_) (hhow : I64n how) (hby : I64n by_) :
  ASome Tryz.prog 9 [slI l,slI m,iD at_,iD how,iD by_] (fun d=>∃ X V,d = .tup [slX X,slV V] ∧ SomeOK X V):=ASome.of_call (l31_some l m hl hm at_ how by_ hat hhow hby)
theorem l31_subs_p (w : Wd) (hw : WOK w) (p : List Int) (hp : I64s p) (at_ : Int) (hat : I64n at_) :
  ASome Tryz.prog 10 [slW w,slI p,iD at_] (fun d=>∃ B,d = slB4 B ∧ SubsOK w B):=ASome.of_call (l31_subs w hw.ws ⟨by have:=hw.fk;omega,fun l h=>by have:=hw.few l h;omega⟩ p hp at_ hat)
theorem sk92 {A B : Prop} (k : B) (h : Hd7 B → A:=by intro hk7q;(first | refine sb0 ?_ | refine sb1 ?_ | ((with_reducible refine' Cp.by ?hc ?_);(case hc=>first | exact l31_lives | exact cl_full_p w hwo.ws | exact r31_full_p w hwo.ws | exact HSame)) | ((with_reducible refine' CE.pure ?hc ?_);(case hc=>first | exact l31_lives | exact cl_full_p w hwo.ws | exact r31_full_p w hwo.ws | exact HSame)));exact hk7q.run) : A:=h ⟨k⟩
theorem sk93 {A B : Prop} (k : B) (h : Hd7 B → A:=by intro hk7q;(first | refine sb0 ?_ | refine sb1 ?_ | ((with_reducible refine' Cp.by ?hc ?_);(case hc=>first | exact HC1 | exact HR1 | exact HC2 | exact HR2)) | ((with_reducible refine' CE.pure ?hc ?_);(case hc=>first | exact HC1 | exact HR1 | exact HC2 | exact HR2)));exact hk7q.run) : A:=h ⟨k⟩
theorem sk94 {A B : Prop} (k : B) (h : Hd7 B → A:=by intro hk7q;(first | refine sb0 ?_ | refine sb1 ?_ | ((with_reducible refine' Cp.by ?hc ?_);(case hc=>exact l31_lives)) | ((with_reducible refine' CE.pure ?hc ?_);(case hc=>exact l31_lives)));exact hk7q.run) : A:=h ⟨k⟩
theorem l31_valid (l m p q : List Int) (hl : I64s l) (hm : I64s m) (hp : I64s p) (hq : I64s q) (at_ how by_ : Int) (hat : I64n at_) (hhow : I64n how) (hby : I64n by_) :
  APure Tryz.prog 6 [slI l,slI m,slI p,slI q,iD at_,iD how,iD by_] (bD true):=by
 refine APure.of_call (enterX mixed tget_ok Tryz.func6 (by kernel_rfl) rfl Tryz.ntmps6 rfl ?_);intro BB
 repeat' (first | refine sk92 ?_ | (intro b;conv=>whnf))
 refine CE.some (l31_some_p l m hl hm at_ how by_ hat hhow hby) ?_
 rintro _ ⟨X,V,rfl,hS⟩
 have hX4:=hS.lx
 have hV4:=hS.lv
 repeat' (first | refine sk92 ?_ | (intro b;conv=>whnf))
 refine lp_loop mixed tget_ok (γ:=Nat) (fun i=>[(17,iD i)]) (fun _=>[]) (fun i=>i ≤ 4) (fun i=>4 - i) 0 rfl rfl (by omega) ?_
 rintro i hi
 by_cases hi4 : i < 4
 ·obtain ⟨x,hx⟩ : ∃ x,X[i]? = some x:=⟨_,List.getElem?_eq_getElem (by omega)⟩
  obtain ⟨w,hw⟩ : ∃ x,V[i]? = some x:=⟨_,List.getElem?_eq_getElem (by omega)⟩
  have hx' : X[((i : Nat) : Int).toNat]? = some x:=hx
  have hw' : V[((i : Nat) : Int).toNat]? = some w:=hw
  have hcx:=hS.cx x (List.mem_of_getElem? hx)
  have hwo:=hS.cv w (List.mem_of_getElem? hw)
  have HSame : APure Tryz.prog 16 [slS2 (fullE w),slS2 (fullE w)] (bD true):=by
   have:=r31_same (fullE w) (fullE w) (Ss.of_len (full_lens w) hwo.ws)
   rw [decide_eq_true rfl] at this
   exact this
  repeat' (first | refine sk92 ?_ | (intro b;conv=>whnf) | (with_reducible refine Br.t (beq_self_eq_true _) ?_) | (with_reducible refine Br.f Bool.not_true ?_) | (with_reducible refine Br.t (decide_eq_true trivial) ?_))
  refine CE.some (l31_subs_p w hwo p hp at_ hat) ?_
  rintro _ ⟨B,rfl,hB⟩
  repeat' (first | refine sk92 ?_ | (intro b;conv=>whnf) | (with_reducible refine Br.t (beq_self_eq_true _) ?_) | (with_reducible refine Br.f Bool.not_true ?_) | (with_reducible refine Br.t (decide_eq_true trivial) ?_))
  refine CE.some (l31_subs_p w hwo q hq by_ hby) ?_
  rintro _ ⟨B2,rfl,hB2⟩
  have hB4:=hB.lb
  have hB24:=hB2.lb
  have HV:=sch_valid x hcx.good
  have HV9:=r09_valid x hcx.good
  repeat' (first | refine sk93 ?_ | (intro b;conv=>whnf))
  refine lp_loop mixed tget_ok (γ:=Nat) (fun j=>[(20,iD j)]) (fun _=>[]) (fun j=>j ≤ 4) (fun j=>4 - j) 0 rfl rfl (by omega) ?_
  rintro j hj
  by_cases hj4 : j < 4
  ·obtain ⟨s,hs⟩ : ∃ x,B[j]? = some x:=⟨_,List.getElem?_eq_getElem (by omega)⟩
   have hs' : B[((j : Nat) : Int).toNat]? = some s:=hs
   have hss:=hB.cs s (List.mem_of_getElem? hs)
   have HC1:=cl_valid x w s hwo.ws hss HV
   have HR1:=r31_valid x w s hwo.ws hss HV9
   have HC2:=cl_size s hss
   have HR2:=r31_size s hss
   generalize validS x w s = v1 at *
   generalize sizeE s = n1 at *
   repeat' (first | refine sk93 ?_ | (intro b;conv=>whnf) | (with_reducible refine Br.t (beq_self_eq_true _) ?_) | (with_reducible refine Br.f Bool.not_true ?_) | (with_reducible refine Br.t (decide_eq_true trivial) ?_))
   refine lp_loop mixed tget_ok (γ:=Nat) (fun k=>[(21,iD k)]) (fun _=>[]) (fun k=>k ≤ 4) (fun k=>4 - k) 0 rfl rfl (by omega) ?_
   rintro k hk
   by_cases hk4 : k < 4
   ·obtain ⟨t,ht⟩ : ∃ x,B2[k]? = some x:=⟨_,List.getElem?_eq_getElem (by omega)⟩
    have ht' : B2[((k : Nat) : Int).toNat]? = some t:=ht
    have hts:=hB2.cs t (List.mem_of_getElem? ht)
    have HC1:=cl_less s t hss hts
    have HR1:=r31_less s t hss hts
    have HC2:=cl_less t s hts hss
    have HR2:=r31_less t s hts hss
    generalize lessE s t = v1 at *
    generalize lessE t s = v2 at *
    repeat' (first | refine sk93 ?_ | (intro b;conv=>whnf) | (with_reducible refine Br.t (beq_self_eq_true _) ?_) | (with_reducible refine Br.f Bool.not_true ?_) | (with_reducible refine Br.t (decide_eq_true trivial) ?_))
    exact ⟨k + 1,rfl,rfl,by omega,by omega⟩
   ·obtain rfl : k = 4:=by omega
    repeat' (first | refine sk93 ?_ | (intro b;conv=>whnf))
    exact ⟨j + 1,rfl,rfl,by omega,by omega⟩
  ·obtain rfl : j = 4:=by omega
   repeat' (first | refine sk93 ?_ | (intro b;conv=>whnf))
   exact ⟨i + 1,rfl,rfl,by omega,by omega⟩
 ·obtain rfl : i = 4:=by omega
  repeat' (first | refine sk94 ?_ | (intro b;conv=>whnf))
  refine Rt.pure (congrArg bD ?_)
  rfl
end
section
open Go Go.Maps Go.MapKept Go.WideElems Go.ChangeShapes Go.WideShapes
set_option maxRecDepth 100000
abbrev laidL : List (String × DataW Unit):=[("math/bits.deBruijn32tab",Rows.laid_math_bits_deBruijn32tab),("math/bits.deBruijn64tab",Rows.laid_math_bits_deBruijn64tab),("internal/strconv.uint64pow10",Rows.laid_internal_strconv_uint64pow10),("diorama/schema.words",Rows.laid_diorama_schema_words),("diorama/typing.checks",Rows.laid_diorama_typing_checks)]
theorem c_word : Tryz.prog.cellsOf 9 = 1:=by kernel_rfl
theorem c_u64 : Tryz.prog.cellsOf 175 = 1:=by kernel_rfl
theorem c_pow : Tryz.prog.cellsOf 247 = 20:=by kernel_rfl
theorem c_fn : Tryz.prog.cellsOf 158 = 1:=by kernel_rfl
theorem c_chk : Tryz.prog.cellsOf 159 = 1:=by kernel_rfl
theorem g_pow : Tryz.prog.globalNamed "internal/strconv.uint64pow10" = some 2:=by kernel_rfl
theorem g_words : Tryz.prog.globalNamed "diorama/schema.words" = some 1:=by kernel_rfl
theorem g_chk : Tryz.prog.globalNamed "diorama/typing.checks" = some 0:=by kernel_rfl
theorem t_pow : (Tryz.prog.globals[2]?).map (·.type) = some 247:=by kernel_rfl
theorem t_words : (Tryz.prog.globals[1]?).map (·.type) = some 228:=by kernel_rfl
theorem t_chk : (Tryz.prog.globals[0]?).map (·.type) = some 161:=by kernel_rfl
theorem pow_data : (Rows.laid_internal_strconv_uint64pow10 : DataW Unit) = Lib.tabData .u64 Lib.pow10Tab:=by rfl
theorem laid_reads {W : World} (h : laidMetH Tryz.prog laidL W) {n : String} {d : DataW Unit} (hm : (n,d) ∈ laidL.filter fun x=>x.2.handleName?.isNone) : Lib.VarReads Tryz.prog W n d:=Lib.laidMet.reads (laidMetH_iff.1 h).1 hm
theorem none_pow : (Rows.laid_internal_strconv_uint64pow10 : DataW Unit).handleName?.isNone = true:=rfl
theorem none_words : (Rows.laid_diorama_schema_words : DataW Unit).handleName?.isNone = true:=rfl
theorem laid_pow {W : World} (h : laidMetH Tryz.prog laidL W) : Pow10 W:=by
 obtain ⟨g,t,cs,fuel,p,hg,ht,hv,hd⟩:=laid_reads h (n:= "internal/strconv.uint64pow10") (d:=Rows.laid_internal_strconv_uint64pow10) (List.mem_filter.2 ⟨by simp [laidL],none_pow⟩)
 obtain rfl:=Option.some.inj (g_pow.symm.trans hg)
 obtain rfl:=Option.some.inj (t_pow.symm.trans ht)
 rw [pow_data] at hd
 unfold Pow10 Lib.TabIs
 rw [hv,← Lib.cells_of_tab Tryz.underlying247 Tryz.underlying175 c_u64 c_pow hd]
theorem laid_words {W : World} (h : laidMetH Tryz.prog laidL W) : WordsAt W:=by
 obtain ⟨g,t,cs,fuel,p,hg,ht,hv,hd⟩:=laid_reads h (n:= "diorama/schema.words") (d:=Rows.laid_diorama_schema_words) (List.mem_filter.2 ⟨by simp [laidL],none_words⟩)
 obtain rfl:=Option.some.inj (g_words.symm.trans hg)
 obtain rfl:=Option.some.inj (t_words.symm.trans ht)
 obtain ⟨xs,m1,rfl,hx1,hlen,hn3,hel⟩:=DataW.trod_array Tryz.underlying228 hd
 intro i s hi
 have hi9 : i < 9:=(List.getElem?_eq_some_iff.1 hi).1
 have hE:=hel i hi9
 obtain ⟨y,hy⟩ : ∃ y,xs[i]? = some y:=⟨xs[i]'(by omega),List.getElem?_eq_getElem (by omega)⟩
 rw [hy,c_word] at hE
 obtain ⟨s',e1,e2,_⟩:=DataW.trod_string Tryz.underlying9 hE
 have hc:=World.var?_cell g_words hv i
 have e3 : cs[i]? = some (.string s'):=by
  have:=congrArg (·[0]?) e1
  simpa [List.getElem?_take,List.getElem?_drop] using this
 rw [e3] at hc
 rw [hc]
 have e4 : (xs.map (·.1))[i]? = some (.lit (.string s'.data.toList)):=by rw [List.getElem?_map,hy,e2];rfl
 have e5:=congrArg Prod.fst hx1
 simp only [Rows.laid_diorama_schema_words,DataW.agg.injEq] at e5
 rw [← e5] at e4
 have key : s'.data.toList = s.data.toList:=by
  have : i = 0 ∨ i = 1 ∨ i = 2 ∨ i = 3 ∨ i = 4 ∨ i = 5 ∨ i = 6 ∨ i = 7 ∨ i = 8:=by omega
  rcases this with rfl | rfl | rfl | rfl | rfl | rfl | rfl | rfl | rfl <;> (simp at hi e4;subst hi;rw [← e4])
 have : s' = s:=by
  obtain ⟨a⟩:=s';obtain ⟨b⟩:=s
  congr 1
  exact Array.toList_inj.1 key
 rw [this]
abbrev nmB (d : UInt8) : List UInt8:=[100,105,111,114,97,109,97,47,116,121,112,105,110,103,46,99,104,101,99,107,115,36,d]
abbrev chkE : List (Lit × DataW (List UInt8)):=[(.int .i64 0,.agg [.held (nmB 49)]),(.int .i64 1,.agg [.held (nmB 50)]),(.int .i64 4,.agg [.held (nmB 51)]),(.int .i64 5,.agg [.held (nmB 52)]),(.int .i64 6,.agg [.held (nmB 53)]),(.int .i64 7,.agg [.held (nmB 54)]),(.int .i64 8,.agg [.held (nmB 55)])]
theorem fn_one {W : World} {n : Nat} {v : Value} {z : DataW (List UInt8) × List MemPlace} {d : UInt8} {f0 : FuncId} (h : elemAt (funcToken Tryz.prog) Tryz.prog W 0 (fun _=>true) true n 159 v = some z) (hz : z.1 = .agg [.held (nmB d)])
  (hone : ((List.range Tryz.prog.funcs.size).filter fun f=>(Tryz.prog.funcs[f]?).any (·.name.toUTF8.data.toList == nmB d)) = [f0]) : v = .agg #[chkV f0]:=by
 unfold elemAt at h
 split at h
 ·rename_i hf
  obtain ⟨xs,m,rfl,hx,hl,hn,hel⟩:=DataW.trod_struct Tryz.underlying159 h
  rw [c_chk] at hl
  have h0:=hel 0 _ rfl
  obtain ⟨y,hy⟩ : ∃ y,xs[0]? = some y:=⟨xs[0]'(by rw [hn];decide),List.getElem?_eq_getElem _⟩
  simp only [hy,c_fn,List.drop_zero] at h0
  rw [hx] at hz
  simp only [DataW.agg.injEq] at hz
  have hy1 : y.1 = .held (nmB d):=by
   have : (xs.map (·.1))[0]? = some y.1:=by rw [List.getElem?_map,hy];rfl
   rw [hz] at this
   simpa using this.symm
  match hc : v.cells.toList,hl with
  | [c],_=>
   rw [hc] at h0
   simp only [List.getElem_toArray,List.getElem_cons_zero,List.drop_zero,c_fn,List.take_succ_cons,List.take_zero] at h0
   obtain ⟨y1,y2⟩:=y
   simp only at hy1
   subst hy1
   have e:=func_of_trod Tryz.underlying158 hone h0
   subst e
   unfold Value.formed at hf
   rw [Tryz.underlying159] at hf
   cases v with
   | agg cs=>
    simp only [Value.cells] at hc
    obtain ⟨l⟩:=cs
    simp only at hc
    rw [hc];rfl
   | _=>simp at hf
 ·cases h
theorem laid_checks {W : World} (h : laidMetH Tryz.prog laidL W) : ∃ r,W.cell? ⟨0,0,none⟩ = some (.map (some r)) ∧ MapIs Tryz.prog 3 W r 7 (aggF chkM):=by
 obtain ⟨g,t,cs,fuel,p,hg,ht,hv,hd⟩:=h.funcs (n:= "diorama/typing.checks") (by unfold laidL Rows.laid_diorama_typing_checks;simp only [List.mem_cons];exact .inr (.inr (.inr (.inr (.inl rfl)))))
 obtain rfl:=Option.some.inj (g_chk.symm.trans hg)
 obtain rfl:=Option.some.inj (t_chk.symm.trans ht)
 have hd' : DataW.trod (funcToken Tryz.prog) Tryz.prog W 0 (fun _=>true) true fuel 161 cs.toList = some (.map chkE,p):=hd
 rcases open_map Tryz.underlying161 hd' with ⟨_,hx⟩ | ⟨bm,es,clock,m,rfl,hcs,hb,_,F,hx⟩
 ·simp at hx
 simp only [Prod.mk.injEq,DataW.map.injEq] at hx
 have hp:=hx.1 ▸ sorted_perm (es.toList.map (rg Tryz.prog 3 (elemAt (funcToken Tryz.prog) Tryz.prog W 0 (fun _=>true) true m 159)))
 have hcell:=World.var?_cell hg hv 0
 rw [Array.eq_one_of_toList hcs] at hcell
 have hsz : es.size = 7:=by have:=hp.length_eq;simpa using this.symm
 have one : ∀ e ∈ es.toList,aggF chkM e.key = some e.val:=fun e he=>by
  obtain ⟨y,hy⟩:=F.reads e he
  have hm : y ∈ chkE:=hp.mem_iff.2 (List.mem_map.2 ⟨e,he,rg_of hy⟩)
  have hk:=rd_key hy
  obtain ⟨z,hz1,hz2⟩:=rd_val hy
  obtain ⟨q,e1,e2,_⟩:=keyOf_int_inv Tryz.underlying3 hk
  simp only [chkE,List.mem_cons,List.not_mem_nil,or_false] at hm
  rcases hm with rfl | rfl | rfl | rfl | rfl | rfl | rfl <;> (cases e2;rw [e1,fn_one hz1 hz2.symm (by kernel_rfl)];rfl)
 refine ⟨bm,by simpa using hcell,es,clock,hb,⟨by omega,F.stamped,F.keys,one,fun key v hkv=>?_⟩⟩
 have back : ∀ (n : Int) d,(Lit.int .i64 n,d) ∈ chkE → ∃ e ∈ es.toList,e.key = .int .i64 n:=fun n d hm=>by
  obtain ⟨e,he,hr⟩:=List.mem_map.1 (hp.mem_iff.1 hm)
  obtain ⟨y,hy⟩:=F.reads e he
  rw [rg_of hy] at hr
  have hk:=rd_key hy
  rw [hr] at hk
  obtain ⟨q,e1,e2,_⟩:=keyOf_int_inv Tryz.underlying3 hk
  simp only at e2
  cases e2
  exact ⟨e,he,e1⟩
 have fin : ∀ (n : Int) d,(Lit.int .i64 n,d) ∈ chkE → key = .int .i64 n → ∃ e ∈ es.toList,e.key = key ∧ e.val = v:=fun n d hm hk=>by
  obtain ⟨e,he,e1⟩:=back n d hm
  have:=one e he
  rw [e1,← hk,hkv] at this
  exact ⟨e,he,by rw [e1,hk],(Option.some.inj this).symm⟩
 unfold aggF chkM at hkv
 split at hkv
 ·exact fin 0 (.agg [.held (nmB 49)]) (by simp [chkE]) rfl
 ·exact fin 1 (.agg [.held (nmB 50)]) (by simp [chkE]) rfl
 ·exact fin 4 (.agg [.held (nmB 51)]) (by simp [chkE]) rfl
 ·exact fin 5 (.agg [.held (nmB 52)]) (by simp [chkE]) rfl
 ·exact fin 6 (.agg [.held (nmB 53)]) (by simp [chkE]) rfl
 ·exact fin 7 (.agg [.held (nmB 54)]) (by simp [chkE]) rfl
 ·exact fin 8 (.agg [.held (nmB 55)]) (by simp [chkE]) rfl
 ·cases hkv
theorem var_lt {W : World} {n : String} {g : Nat} {cs : Array Value} (hg : Tryz.prog.globalNamed n = some g) (hv : W.var? Tryz.prog n = some cs) : g < W.heap.size:=by
 unfold World.var? at hv
 rw [hg] at hv
 simp only [Option.bind_some] at hv
 cases hb : W.heap[g]? with
 | none=>rw [hb] at hv;simp at hv
 | some o=>exact (Array.getElem?_eq_some_iff.1 hb).1
theorem laid_gok {W : World} (h : laidMetH Tryz.prog laidL W) : GOK W (fun _=>False):=by
 obtain ⟨g,t,cs,fuel,p,hg,ht,hv,hd⟩:=laid_reads h (n:= "math/bits.deBruijn64tab") (d:=Rows.laid_math_bits_deBruijn64tab) (List.mem_filter.2 ⟨by simp [laidL],rfl⟩)
 have hlt:=var_lt hg hv
 obtain rfl:=Option.some.inj ((show Tryz.prog.globalNamed "math/bits.deBruijn64tab" = some 4 by kernel_rfl).symm.trans hg)
 obtain ⟨r,h1,h2⟩:=laid_checks h
 exact ⟨fun _ h=>h.elim,hlt,fun _ _ h=>h,laid_pow h,laid_words h,r,h1,fun h=>h,h2⟩
end
section
open Go Go.ChangeShapes Go.WideShapes Go.ChangeAt Go.RowKit
set_option maxRecDepth 100000
theorem c_int : Tryz.prog.cellsOf 3 = 1:=by kernel_rfl
theorem b_int : Tryz.prog.bytesOf 3 = 8:=by kernel_rfl
inductive ArgD : TypeId → D → Prop
 | int (n : Int) (h : I64n n) : ArgD 3 (iD n)
 | ints (l : List Int) (h : I64s l) : ArgD 22 (slI l)
inductive ArgsD : List TypeId → List D → Prop
 | nil : ArgsD [] []
 | cons {t : TypeId} {d : D} {ts : List TypeId} {ds : List D} (h : ArgD t d) (k : ArgsD ts ds) : ArgsD (t :: ts) (d :: ds)
theorem ArgD.int_inv {d : D} (h : ArgD 3 d) : ∃ n,I64n n ∧ d = iD n:=by
 generalize hq : 3 = q at h
 cases h with
 | int n h=>exact ⟨n,h,rfl⟩
 | ints l h=>exact absurd hq (by decide)
theorem ArgD.ints_inv {d : D} (h : ArgD 22 d) : ∃ l,I64s l ∧ d = slI l:=by
 generalize hq : 22 = q at h
 cases h with
 | int n h=>exact absurd hq (by decide)
 | ints l h=>exact ⟨l,h,rfl⟩
theorem ArgsD.nil_inv {ds : List D} (h : ArgsD [] ds) : ds = []:=by cases h;rfl
theorem ArgsD.int_inv {ts : List TypeId} {ds : List D} (h : ArgsD (3 :: ts) ds) : ∃ n ds',I64n n ∧ ds = iD n :: ds' ∧ ArgsD ts ds':=by
 cases h with
 | cons h k=>obtain ⟨n,hn,rfl⟩:=h.int_inv;exact ⟨n,_,hn,rfl,k⟩
theorem ArgsD.ints_inv {ts : List TypeId} {ds : List D} (h : ArgsD (22 :: ts) ds) : ∃ l ds',I64s l ∧ ds = slI l :: ds' ∧ ArgsD ts ds':=by
 cases h with
 | cons h k=>obtain ⟨n,hn,rfl⟩:=h.ints_inv;exact ⟨n,_,hn,rfl,k⟩
theorem i64_wf {n : Int} (h : (Lit.int .i64 n).wf = true) : I64n n:=by
 simp only [Lit.wf,Bool.and_eq_true,decide_eq_true_eq] at h
 exact ⟨h.1,h.2⟩
section
variable {H : Type} {enc : TypeId × Value → H} {W : World}
theorem arg_read {t : TypeId} {v : Value} {d : DataW H} {ps : List MemPlace} {base : Nat} (ht : t = 3 ∨ t = 22) (hv : Value.okWide Tryz.prog W .any base t v)
  (h : DataW.Trod enc Tryz.prog W 0 (fun _=>true) true t v d ps) (hw : ∀ n ∈ d.weights Tryz.prog t,n ≤ reachBytes) :
  (∃ x,ArgD t x ∧ Rd W (fun _=>False) x v) ∧ ∀ W',Ex W W' → ∀ sp : Nat → Bool,(∀ p ∈ ps,sp p.block = true) → DataW.Trod enc Tryz.prog W' 0 sp true t v d ps:=by
 rcases ht with rfl | rfl
 ·obtain ⟨n,rfl,rfl,rfl,hn⟩:=open_int Tryz.underlying3 hv h
  exact ⟨⟨_,.int n (i64_wf hn),.v _⟩,fun W' _ sp _=>shut_int Tryz.underlying3 hn⟩
 ·obtain ⟨a,len,cap,rfl⟩:=okWide_slice Tryz.underlying22 hv
  obtain ⟨fuel,hf⟩:=h
  rcases open_ints Tryz.underlying22 Tryz.underlying3 c_int hf with ⟨h1,h2⟩ | ⟨a',len',cap',zs,h1,hb,hl,hm,hz,hx,hcell,hwf⟩
  ·simp only [Value.cells,List.cons.injEq,Value.slice.injEq,and_true] at h1
   obtain ⟨rfl,rfl,rfl⟩:=h1
   cases h2
   refine ⟨⟨_,.ints [] ⟨by simp,by simp⟩,?_⟩,fun W' _ sp _=>⟨1,?_⟩⟩
   ·exact .sl 1 [] none 0 (fun _ _=>undef) (Nat.le_refl _) (by simp) (by simp) (by simp)
   ·rw [DataW.trod_step]
    unfold DataW.trodStep
    simp only [Tryz.underlying22,Value.cells]
  ·simp only [Value.cells,List.cons.injEq,Value.slice.injEq,and_true] at h1
   obtain ⟨rfl,rfl,rfl⟩:=h1
   simp only [if_true] at hz
   cases hx
   have hlen : len ≤ 17592186044416:=by
    have:=hw ((len + (cap - len)) * 8) (by
     unfold DataW.weights
     rw [Tryz.underlying22]
     simp only [List.length_map,List.length_take,List.length_drop,lits,b_int,hz,Nat.min_eq_left hl]
     exact List.mem_cons_self)
    unfold reachBytes at this
    omega
   refine ⟨⟨_,.ints (zs.take len) ⟨fun n hn=>i64_wf (hwf n (List.mem_of_mem_take hn)),by rw [List.length_take];omega⟩,?_⟩,fun W' hex sp hsp=>?_⟩
   ·have hcl : ∀ (i : Nat) n,(zs.take len)[i]? = some n → W.cell? (a'.add i) = some (.int .i64 n):=fun i n hn=>by
     rw [List.getElem?_take] at hn
     split at hn
     ·have hi:=(List.getElem?_eq_some_iff.1 hn).1
      rw [hcell i hi]
      simp [List.getD_eq_getElem?_getD,hn]
     ·cases hn
    have hln : len = ((zs.take len).map fun n=>[iD n]).length:=by rw [List.length_map,List.length_take];omega
    have : Rd W (fun _=>False) (.sl 1 ((zs.take len).map fun n=>[iD n])) (.slice (some a') ((zs.take len).map fun n=>[iD n]).length cap):=by
     refine .sl 1 _ (some a') cap (fun i _=>.int .i64 ((zs.take len).getD i 0)) (by rw [← hln];exact hl) (fun y hy=>by obtain ⟨n,_,rfl⟩:=List.mem_map.1 hy;rfl) (fun i y hy=>?_) (fun i y hy j d hd=>?_)
     ·rw [List.getElem?_map,Option.map_eq_some_iff] at hy
      obtain ⟨n,hn,rfl⟩:=hy
      have hc:=hcl i n hn
      obtain ⟨b,off,spot⟩:=a'
      have hs : spot = none:=by
       have hi0:=(List.getElem?_eq_some_iff.1 hn).1
       rw [List.length_take] at hi0
       have:=World.cell?_spot (hcell 0 (by omega))
       simpa [Addr.add] using this
      subst hs
      refine ⟨b,off,rfl,fun h=>h,by have:=World.block_lt_of_cell? W _ hc;simp only [Addr.add] at this;split at this <;> simpa using this,fun j hj=>?_⟩
      obtain rfl : j = 0:=by omega
      rw [add_plain] at hc
      rw [Nat.mul_one,Nat.add_zero,hc]
      simp [List.getD_eq_getElem?_getD,hn]
     ·rw [List.getElem?_map,Option.map_eq_some_iff] at hy
      obtain ⟨n,hn,rfl⟩:=hy
      cases j with
      | succ j=>simp at hd
      | zero=>
       simp at hd
       subst hd
       have : (zs.take len).getD i 0 = n:=by rw [List.getD_eq_getElem?_getD,hn];rfl
       rw [this]
       exact .v _
    rw [← hln] at this
    exact this
   ·have hsz : zs.length = if sp a'.block = true then cap else len:=by
     rcases Nat.eq_zero_or_pos cap with h0 | h0
     ·split <;> omega
     ·rw [if_pos (show sp a'.block = true from hsp (.cell a'.block a'.off) (MemPlace.mem_row.2 ⟨0,by omega,by simp⟩))]
      exact hz
    exact ⟨2,shut_ints 0 Tryz.underlying22 Tryz.underlying3 c_int hb hl hm hsz (fun i hi=>hex.cell (hcell i hi)) hwf⟩
theorem args_read {base : Nat} : ∀ {ts : List TypeId} {vs : List Value} {ds : List (DataW H)} {ps : List MemPlace},(∀ t ∈ ts,t = 3 ∨ t = 22) → (∀ (j : Nat) t v,ts[j]? = some t → vs[j]? = some v → Value.okWide Tryz.prog W .any base t v) →
  DataW.TrodAll enc Tryz.prog W 0 (fun _=>true) true ts vs ds ps → (∀ n ∈ DataW.weightsEach Tryz.prog ts ds,n ≤ reachBytes) →
  (∃ xs,ArgsD ts xs ∧ RdL W (fun _=>False) xs vs) ∧ (∀ W',Ex W W' → ∀ sp : Nat → Bool,(∀ p ∈ ps,sp p.block = true) → DataW.TrodAll enc Tryz.prog W' 0 sp true ts vs ds ps)
 | [],vs,ds,ps,_,_,h,_=>by
  obtain ⟨rfl,rfl,rfl⟩:=trodAll_nil h
  exact ⟨⟨[],.nil,.nil⟩,fun _ _ _ _=>trodAll_mk0⟩
 | t :: ts,vs,ds,ps,ht,hv,h,hw=>by
  obtain ⟨v0,vs0,d0,ds0,p0,q0,rfl,rfl,rfl,h0,r0⟩:=trodAll_cons h
  have hw' : DataW.weightsEach Tryz.prog (t :: ts) (d0 :: ds0) = d0.weights Tryz.prog t ++ DataW.weightsEach Tryz.prog ts ds0:=rfl
  rw [hw'] at hw
  obtain ⟨⟨x,k1,k2⟩,k3⟩:=arg_read (ht t (by simp)) (hv 0 t v0 rfl rfl) h0 (fun n hn=>hw n (List.mem_append_left _ hn))
  obtain ⟨⟨xs,g1,g2⟩,g3⟩:=args_read (fun u hu=>ht u (by simp [hu])) (fun j u v hj hvj=>hv (j + 1) u v (by simpa using hj) (by simpa using hvj)) r0 (fun n hn=>hw n (List.mem_append_right _ hn))
  exact ⟨⟨x :: xs,.cons k1 g1,.cons k2 g2⟩,fun W' hex sp hsp=>trodAll_cons_mk (k3 W' hex sp (fun p hp=>hsp p (List.mem_append_left _ hp))) (g3 W' hex sp (fun p hp=>hsp p (List.mem_append_right _ hp)))⟩
theorem kept_ex {W' : World} (h : Ex W W') (may : MemPlace → Prop) : W.keptBut W' may:=by
 refine World.keptBut_mono (may:=fun _=>False) (fun _ f=>f.elim) (World.keptBut.congr (World.keptBut_refl W _) ?_ ?_ (fun i hi=>h.block i hi))
 ·exact Keep.os h
 ·exact Keep.output h
theorem law_contract {f : FuncId} {fn : Func} {s : ChangeSpec} (hts : ∀ t ∈ fn.params.toList,t = 3 ∨ t = 22) (hvars : s.vars = []) (hres : fn.resultTypes = #[4])
  (hs : ∀ ds : List (DataW H),ds.length = fn.params.size → s.fn H ds = { results:=[.lit (.bool true)],args:=ds }) (hP : ∀ xs,ArgsD fn.params.toList xs → APure Tryz.prog f xs (bD true))
  (base : Nat) (args : Array Value) (ds gs : List (DataW H)) (before : List MemPlace)
  (hval : ∀ (j : Nat) t v,fn.params[j]? = some t → args[j]? = some v → Value.okWide Tryz.prog W .any base t v)
  (hW : DataW.Whole enc Tryz.prog fn.params.toList s.vars false W args.toList ds gs before)
  (hsz : (DataW.weightsEach Tryz.prog (fn.params.toList ++ s.plain.varTypes Tryz.prog) (ds ++ gs)).all (· ≤ reachBytes) = true) (hL : laidMetH Tryz.prog laidL W) :
  Calls Tryz.prog f args W fun e W'=>∃ v,e = .returned v ∧ s.post enc Tryz.prog fn false true false false W args v W':=by
 have hW':=hW
 obtain ⟨p,q,hA,hV,rfl,hfz,hnd⟩:=hW
 rw [hvars] at hV
 obtain ⟨rfl,rfl⟩:=trodVars_none hV
 have hdl : ds.length = fn.params.size:=by have:=(trodAll_length hA).2;simpa using this
 have hw : ∀ n ∈ DataW.weightsEach Tryz.prog fn.params.toList ds,n ≤ reachBytes:=fun n hn=>by
  have hvt : s.plain.varTypes Tryz.prog = []:=by simp [DataSpec.varTypes,ChangeSpec.plain,hvars]
  rw [hvt,List.append_nil,List.append_nil] at hsz
  exact of_decide_eq_true (List.all_eq_true.1 hsz n hn)
 obtain ⟨⟨xs,k1,k2⟩,k3⟩:=args_read hts (fun j t v hj hv=>hval j t v (by simpa using hj) (by simpa using hv)) hA hw
 have hrun:=(hP xs k1).run W (fun _=>False) args.toList k2 (laid_gok hL)
 rw [Array.toArray_toList] at hrun
 refine hrun.mono fun e W' ⟨u,he,hu,hex⟩=>?_
 have hu':=hu.val rfl
 subst hu'
 refine ⟨_,he,?_⟩
 have hfn:=hs ds hdl
 have hold : ∀ x ∈ p,(fun b=>decide (b < W.heap.size)) x.block = true:=fun x hx=>by have:=hW'.lt x (by simpa using hx);simpa using this
 have hra : ∀ (b : Nat) (sp : Nat → Bool) (hd : Bool),DataW.TrodAll enc Tryz.prog W' b sp hd fn.resultTypes.toList ((Value.bool true).resultList fn.resultTypes.size) (s.fn H (ds ++ [])).results []:=fun b sp hd=>by
  rw [List.append_nil,hfn,hres]
  exact trodAll_cons_mk (shut_bool Tryz.underlying4 _) trodAll_mk0
 have hA1 : ∀ sp : Nat → Bool,(∀ x ∈ p,sp x.block = true) → DataW.TrodAll enc Tryz.prog W' 0 sp true fn.params.toList args.toList (s.fn H (ds ++ [])).args p:=fun sp hsp=>by
  rw [List.append_nil,hfn];exact k3 W' hex _ hsp
 have hV1 : ∀ sp : Nat → Bool,DataW.TrodVars enc Tryz.prog W' sp s.vars (s.fn H (ds ++ [])).vars []:=fun sp=>by
  rw [hvars,List.append_nil,hfn];rfl
 refine ⟨ds,[],p ++ [],[],p,[],hW',hra _ _ _,hA1 _ hold,hV1 _,kept_ex hex _,fun _=>?_⟩
 ·refine ⟨ok_one hres rfl (okWide_bool_mk Tryz.underlying4 _),_,_,([] ++ p) ++ [],⟨[] ++ p,[],trodAll_append (hA1 _ (fun _ _=>rfl)) (hra _ _ _),hV1 _,rfl,?_,fun h=>by cases h⟩,fun x hx _=>by simpa using hx⟩
  intro b off hp
  have hp' : MemPlace.cell b off ∈ p ++ []:=by simpa using hp
  rw [hex.frozen (hW'.lt _ hp')]
  exact hfz b off hp'
end
theorem door_met (os : Os) (args : Array Value) : laidMetH Tryz.prog laidL ((World.doorLaid Tryz.prog 76 os).forCall (fun _ _=>0) ⟨#[],args,[]⟩).memory:=
 laidMetH_of_parts3 (fuel:=8) (laidMet_of_run' 8 (by kernel_rfl) (by kernel_rfl)) (by kernel_rfl) (by kernel_rfl)
theorem own : ownKnob Tryz.prog.godebug = none:=by kernel_rfl
end
section
open Go
variable {x : Sch} {w : Wd}
theorem posOf_lens {a b : Sb} (h : a.map List.length = b.map List.length) : posOf a = posOf b:=by
 have hl : a.length = b.length:=by have:=congrArg List.length h;simpa using this
 have hg : ∀ k,(a.getD k []).length = (b.getD k []).length:=fun k=>by
  have:=congrArg (fun z=>z[k]?) h
  simp only [List.getElem?_map] at this
  simp only [List.getD_eq_getElem?_getD]
  cases h1 : a[k]? with
  | none=>
   rw [h1] at this
   cases h2 : b[k]? with
   | none=>rfl
   | some m=>rw [h2] at this;simp at this
  | some l=>
   rw [h1] at this
   cases h2 : b[k]? with
   | none=>rw [h2] at this;simp at this
   | some m=>rw [h2] at this;simpa using this
 unfold posOf
 rw [hl]
 unfold upTo
 congr 1
 funext k
 rw [hg k]
def Sub (a b : Sb) : Prop:=∀ k i,keptB a k i = true → keptB b k i = true
theorem Sub.refl (a : Sb) : Sub a a:=fun _ _ h=>h
theorem Sub.trans {a b c : Sb} (h : Sub a b) (k : Sub b c) : Sub a c:=fun i j e=>k i j (h i j e)
theorem sub_clear (s : Sb) (k i : Nat) : Sub (clearB s k i) s:=fun a b h=>by
 rw [keptB_clear] at h
 simp only [Bool.and_eq_true] at h
 exact h.1
theorem sub_sweep1 (t : Sb × Bool) (p : Nat × Nat) : Sub (sweep1 x w t p).1 t.1:=by
 unfold sweep1
 split
 ·exact sub_clear _ _ _
 ·exact Sub.refl _
theorem sub_fold : ∀ (l : List (Nat × Nat)) (t : Sb × Bool),Sub (l.foldl (sweep1 x w) t).1 t.1
 | [],_=>Sub.refl _
 | p :: l,t=>(sub_fold l (sweep1 x w t p)).trans (sub_sweep1 t p)
theorem sub_shrinkN : ∀ (n : Nat) (s : Sb),Sub (shrinkN x w n s) s
 | 0,s=>Sub.refl s
 | n + 1,s=>by
  unfold shrinkN
  split
  ·exact (sub_shrinkN n _).trans (sub_fold _ _)
  ·exact sub_fold _ _
theorem sub_shrink (s : Sb) : Sub (shrinkE x w s) s:=sub_shrinkN _ _
theorem lens_shrink (s : Sb) : (shrinkE x w s).map List.length = s.map List.length:=shrink_lens s _
theorem within_shrink (s : Sb) : withinE (shrinkE x w s) s = true:=by
 unfold withinE
 rw [List.all_eq_true]
 intro p _
 cases h : keptB (shrinkE x w s) p.1 p.2 with
 | false=>rfl
 | true=>rw [sub_shrink s _ _ h];rfl
theorem fold_flag : ∀ (l : List (Nat × Nat)) (t : Sb × Bool),t.2 = true → (l.foldl (sweep1 x w) t).2 = true
 | [],_,h=>h
 | p :: l,t,h=>fold_flag l _ (by
  unfold sweep1
  split
  ·rfl
  ·exact h)
theorem fold_right {s : Sb} : ∀ (l : List (Nat × Nat)),(l.foldl (sweep1 x w) (s,false)).2 = false → ∀ p ∈ l,(keptB s p.1 p.2 && wrongE x w s p.1 p.2) = false
 | [],_,p,hp=>by cases hp
 | q :: l,h,p,hp=>by
  rw [List.foldl_cons] at h
  have hq : (keptB s q.1 q.2 && wrongE x w s q.1 q.2) = false:=by
   cases hc : (keptB s q.1 q.2 && wrongE x w s q.1 q.2) with
   | false=>rfl
   | true=>
    have : (sweep1 x w (s,false) q).2 = true:=by unfold sweep1;simp only [hc,if_true]
    rw [fold_flag l _ this] at h
    cases h
  rcases List.mem_cons.1 hp with rfl | hp
  ·exact hq
  ·have : sweep1 x w (s,false) q = (s,false):=by unfold sweep1;simp only [hq];rfl
   rw [this] at h
   exact fold_right l h p hp
theorem shrink_fix : ∀ (n : Nat) (s : Sb),sizeE s ≤ n → (sweepE x w (shrinkE x w s)).2 = false
 | n,s,hn=>by
  rw [shrink_step s]
  cases h : (sweepE x w s).2 with
  | false=>simp only [Bool.false_eq_true,if_false];exact h
  | true=>
   simp only [if_true]
   have:=sweep_lt h
   cases n with
   | zero=>omega
   | succ n=>exact shrink_fix n _ (by omega)
theorem shrink_idem (s : Sb) : shrinkE x w (shrinkE x w s) = shrinkE x w s:=by
 rw [shrink_step (shrinkE x w s),shrink_fix _ s (Nat.le_refl _)]
 rfl
theorem checked_lens {a b : Sb} (h : a.map List.length = b.map List.length) : checkedE x w a = checkedE x w b:=by
 unfold checkedE shapedB
 rw [h]
theorem valid_shrink {s : Sb} (h : checkedE x w s = 0) : validS x w (shrinkE x w s) = true:=by
 unfold validS
 rw [checked_lens (lens_shrink s),h]
 simp only [decide_true,Bool.true_and,List.all_eq_true]
 intro p hp
 rw [fold_right (s:=shrinkE x w s) (posOf (shrinkE x w s)) (shrink_fix _ s (Nat.le_refl _)) p hp]
 rfl
theorem great_again {s : Sb} (h : checkedE x w s = 0) : greatE x w (shrinkE x w s) = (shrinkE x w s,0):=by
 unfold greatE
 rw [if_neg (by rw [checked_lens (lens_shrink s),h];simp),shrink_idem]
theorem keptL_sub {a b : Sb} (hl : a.map List.length = b.map List.length) (h : Sub a b) : keptL a = (keptL b).filter fun p=>keptB a p.1 p.2:=by
 unfold keptL
 rw [posOf_lens hl,List.filter_filter]
 apply List.filter_congr
 intro p _
 cases hp : keptB a p.1 p.2 with
 | false=>rfl
 | true=>rw [h _ _ hp];rfl
theorem filter_two {α : Type} (p : α → Bool) : ∀ l : List α,(l.filter fun a=>!p a).length + (l.filter p).length = l.length
 | []=>rfl
 | a :: l=>by
  have ih:=filter_two p l
  cases h : p a with
  | true=>rw [List.filter_cons_of_neg (by simp [h]),List.filter_cons_of_pos h];simp only [List.length_cons];omega
  | false=>rw [List.filter_cons_of_pos (by simp [h]),List.filter_cons_of_neg (by simp [h])];simp only [List.length_cons];omega
theorem together_all {s : Sb} {k i : Int} (h : (withoutE x w s k i).2 = 0) : (togetherE x w s k i).1.length + sizeE (withoutE x w s k i).1 = sizeE s:=by
 have ht : (togetherE x w s k i).1 = (keptL s).filter fun p=>!keptB (withoutE x w s k i).1 p.1 p.2:=by
  unfold togetherE
  rw [if_neg (by simpa using h)]
 have hs : (withoutE x w s k i).1.map List.length = s.map List.length ∧ Sub (withoutE x w s k i).1 s:=by
  unfold withoutE at h ⊢
  split at h
  ·rename_i h1;exact absurd h h1
  ·rename_i h1
   split at h
   ·cases h
   ·rename_i h2
    rw [if_neg h1,if_neg h2]
    exact ⟨(lens_shrink _).trans (clearB_lens _ _ _),(sub_shrink _).trans (sub_clear _ _ _)⟩
 generalize (withoutE x w s k i).1 = S at ht hs ⊢
 generalize (togetherE x w s k i).1 = T at ht ⊢
 subst ht
 rw [sizeE_pos,sizeE_pos,keptL_sub hs.1 hs.2]
 exact filter_two (fun p=>keptB S p.1 p.2) (keptL s)
theorem together_err {s : Sb} {k i : Int} : (togetherE x w s k i).2 = (withoutE x w s k i).2:=by
 unfold togetherE
 split
 ·rfl
 ·rename_i h;exact (Decidable.of_not_not h).symm
end
section
open Go Go.RowKit Go.Shelf
theorem Vd.frz {α : Type} {R : ORep α} {den : α → D} (hf : Frz R den) {a : α} {v : Value} {s σ τ ρ : Store} (h : R a v s) (hp : σ.Perm (s ++ ρ)) (hsub : ∀ b,b ∈ keysS τ → b ∈ keysS ρ) : Vd σ τ (.v v) (den a):=
 fun w X u hs hr=>rd_own_sub ((Vs.frz hf h hp).run w X u hs hr).2 hsub
theorem cl_great_p (x : Sch) (w : Wd) (s : Sb) (hw : Ws w) (hs : Ss s) (HV : APure Tryz.prog 81 [schD x] (iD (validE x))) : APure Tryz.prog 19 [schD x,slW w,slS2 s] (.tup [slS2 (greatE x w s).1,iD (greatE x w s).2]):=
 APure.of_call ((cl_greatest x w s hw hs HV).vs2 fun d σ ⟨v,s1,s2,e,e2,h⟩=>by
  subst e e2
  exact ⟨_,[],Vs.vd ⟨s1 ++ s2,by simp⟩ (Vd.tup (.cons (Vd.frz frz_s h (List.Perm.refl _) (fun b hb=>by cases hb)) (.cons (Vd.same (fun b hb=>by cases hb) _) .nil))),rfl⟩)
theorem r31_great_p (x : Sch) (w : Wd) (s : Sb) (hw : Ws w) (hs : Ss s) (HV : APure Tryz.prog 94 [schD x] (iD (validE x))) : APure Tryz.prog 20 [schD x,slW w,slS2 s] (.tup [slS2 (greatE x w s).1,iD (greatE x w s).2]):=
 APure.of_call ((r31_greatest x w s hw hs HV).vs2 fun d σ ⟨v,e,h⟩=>by
  subst e
  exact ⟨_,[],Vs.vd ⟨σ,by simp⟩ (Vd.tup (.cons (Vd.frz (ρ:=[]) frz_s h (by simp) (fun b hb=>by cases hb)) (.cons (Vd.same (fun b hb=>by cases hb) _) .nil))),rfl⟩)
theorem Ss.lens {a b : Sb} (h : a.map List.length = b.map List.length) (hb : Ss b) : Ss a:=by
 have hl : a.length = b.length:=by have:=congrArg List.length h;simpa using this
 refine ⟨by rw [hl];exact hb.nk,fun l hl2=>?_⟩
 have : l.length ∈ a.map List.length:=List.mem_map.2 ⟨l,hl2,rfl⟩
 rw [h] at this
 obtain ⟨m,hm,e⟩:=List.mem_map.1 this
 rw [← e];exact hb.nr m hm
theorem same_p (a : Sb) (ha : Ss a) : APure Tryz.prog 16 [slS2 a,slS2 a] (bD true):=by
 have:=r31_same a a ha
 rw [decide_eq_true rfl] at this
 exact this
theorem sk95 {A B : Prop} (k : B) (h : Hd7 B → A:=by intro hk7q;(first | refine sb0 ?_ | refine sb1 ?_ | ((with_reducible refine' Cp.by ?hc ?_);(case hc=>first | exact HC1 | exact HR1 | exact HC2 | exact HV1 | exact HW1 | exact HS1)) | ((with_reducible refine' CE.pure ?hc ?_);(case hc=>first | exact HC1 | exact HR1 | exact HC2 | exact HV1 | exact HW1 | exact HS1)));exact hk7q.run) : A:=h ⟨k⟩
theorem sk96 {A B : Prop} (k : B) (h : Hd7 B → A:=by intro hk7q;(first | refine sb0 ?_ | refine sb1 ?_ | ((with_reducible refine' Cp.by ?hc ?_);(case hc=>first | exact HC1 | exact HR1 | exact HS1)) | ((with_reducible refine' CE.pure ?hc ?_);(case hc=>first | exact HC1 | exact HR1 | exact HS1)));exact hk7q.run) : A:=h ⟨k⟩
theorem l31_greatest (l m p : List Int) (hl : I64s l) (hm : I64s m) (hp : I64s p) (at_ how by_ : Int) (hat : I64n at_) (hhow : I64n how) (hby : I64n by_) :
  APure Tryz.prog 4 [slI l,slI m,slI p,iD at_,iD how,iD by_] (bD true):=by
 refine APure.of_call (enterX mixed tget_ok Tryz.func4 (by kernel_rfl) rfl Tryz.ntmps4 rfl ?_);intro BB
 repeat' (first | refine sk94 ?_ | (intro b;conv=>whnf))
 refine CE.some (l31_some_p l m hl hm at_ how by_ hat hhow hby) ?_
 rintro _ ⟨X,V,rfl,hS⟩
 have hX4:=hS.lx
 have hV4:=hS.lv
 repeat' (first | refine sk94 ?_ | (intro b;conv=>whnf))
 refine lp_loop mixed tget_ok (γ:=Nat) (fun i=>[(15,iD i)]) (fun _=>[]) (fun i=>i ≤ 4) (fun i=>4 - i) 0 rfl rfl (by omega) ?_
 rintro i hi
 by_cases hi4 : i < 4
 ·obtain ⟨x,hx⟩ : ∃ x,X[i]? = some x:=⟨_,List.getElem?_eq_getElem (by omega)⟩
  obtain ⟨w,hw⟩ : ∃ x,V[i]? = some x:=⟨_,List.getElem?_eq_getElem (by omega)⟩
  have hx' : X[((i : Nat) : Int).toNat]? = some x:=hx
  have hw' : V[((i : Nat) : Int).toNat]? = some w:=hw
  have hcx:=hS.cx x (List.mem_of_getElem? hx)
  have hwo:=hS.cv w (List.mem_of_getElem? hw)
  have HV:=sch_valid x hcx.good
  have HV9:=r09_valid x hcx.good
  repeat' (first | refine sk94 ?_ | (intro b;conv=>whnf) | (with_reducible refine Br.t (beq_self_eq_true _) ?_) | (with_reducible refine Br.f Bool.not_true ?_) | (with_reducible refine Br.t (decide_eq_true trivial) ?_))
  refine CE.some (l31_subs_p w hwo p hp at_ hat) ?_
  rintro _ ⟨B,rfl,hB⟩
  have hB4:=hB.lb
  repeat' (first | refine sk94 ?_ | (intro b;conv=>whnf) | (with_reducible refine Br.t (beq_self_eq_true _) ?_) | (with_reducible refine Br.f Bool.not_true ?_) | (with_reducible refine Br.t (decide_eq_true trivial) ?_))
  refine lp_loop mixed tget_ok (γ:=Nat) (fun j=>[(17,iD j)]) (fun _=>[]) (fun j=>j ≤ 4) (fun j=>4 - j) 0 rfl rfl (by omega) ?_
  rintro j hj
  by_cases hj4 : j < 4
  ·obtain ⟨s,hs⟩ : ∃ x,B[j]? = some x:=⟨_,List.getElem?_eq_getElem (by omega)⟩
   have hs' : B[((j : Nat) : Int).toNat]? = some s:=hs
   have hss:=hB.cs s (List.mem_of_getElem? hs)
   have HC1:=cl_great_p x w s hwo.ws hss HV
   have HR1:=r31_great_p x w s hwo.ws hss HV9
   by_cases h0 : checkedE x w s = 0
   ·have hlen : (shrinkE x w s).map List.length = s.map List.length:=lens_shrink s
    have hts:=hss.lens hlen
    have HC2:=cl_great_p x w (shrinkE x w s) hwo.ws hts HV
    have HV1:=cl_valid x w (shrinkE x w s) hwo.ws hts HV
    have HW1:=r31_within (shrinkE x w s) s hts hlen
    have HS1:=same_p (shrinkE x w s) hts
    rw [great_yes h0] at HC1 HR1
    rw [great_again h0] at HC2
    rw [valid_shrink h0] at HV1
    rw [within_shrink] at HW1
    generalize shrinkE x w s = t at *
    repeat' (first | refine sk95 ?_ | (intro b;conv=>whnf) | (with_reducible refine Br.t (beq_self_eq_true _) ?_) | (with_reducible refine Br.f Bool.not_true ?_) | (with_reducible refine Br.t (decide_eq_true trivial) ?_))
    exact ⟨j + 1,rfl,rfl,by omega,by omega⟩
   ·have HS1:=same_p [] Ss.nil
    rw [great_no h0] at HC1 HR1
    generalize checkedE x w s = e at *
    repeat' (first | refine sk96 ?_ | (intro b;conv=>whnf) | (with_reducible refine Br.t (beq_self_eq_true _) ?_) | (with_reducible refine Br.f Bool.not_true ?_) | (with_reducible refine Br.t (decide_eq_true trivial) ?_))
    exact ⟨j + 1,rfl,rfl,by omega,by omega⟩
  ·obtain rfl : j = 4:=by omega
   repeat' (first | refine sk96 ?_ | (intro b;conv=>whnf))
   exact ⟨i + 1,rfl,rfl,by omega,by omega⟩
 ·obtain rfl : i = 4:=by omega
  repeat' (first | refine sk94 ?_ | (intro b;conv=>whnf))
  refine Rt.pure (congrArg bD ?_)
  rfl
end
section
open Go Go.RowKit Go.Shelf
theorem cl_without_p (x : Sch) (w : Wd) (s : Sb) (hw : Ws w) (hs : Ss s) (k i : Int) (HV : APure Tryz.prog 81 [schD x] (iD (validE x))) : APure Tryz.prog 12 [schD x,slW w,slS2 s,atD k i] (.tup [slS2 (withoutE x w s k i).1,iD (withoutE x w s k i).2]):=
 APure.of_call ((cl_without x w s hw hs k i HV).vs2 fun d σ ⟨v,s1,s2,e,e2,h⟩=>by
  subst e e2
  exact ⟨_,[],Vs.vd ⟨s1 ++ s2,by simp⟩ (Vd.tup (.cons (Vd.frz frz_s h (List.Perm.refl _) (fun b hb=>by cases hb)) (.cons (Vd.same (fun b hb=>by cases hb) _) .nil))),rfl⟩)
theorem r31_without_p (x : Sch) (w : Wd) (s : Sb) (hw : Ws w) (hs : Ss s) (k i : Int) (HV : APure Tryz.prog 94 [schD x] (iD (validE x))) : APure Tryz.prog 13 [schD x,slW w,slS2 s,atD k i] (.tup [slS2 (withoutE x w s k i).1,iD (withoutE x w s k i).2]):=
 APure.of_call ((r31_without x w s hw hs k i HV).vs2 fun d σ ⟨v,s1,s2,e,e2,h⟩=>by
  subst e e2
  exact ⟨_,[],Vs.vd ⟨s1 ++ s2,by simp⟩ (Vd.tup (.cons (Vd.frz frz_s h (List.Perm.refl _) (fun b hb=>by cases hb)) (.cons (Vd.same (fun b hb=>by cases hb) _) .nil))),rfl⟩)
theorem yd_addw {P : Program} {ρ : Operand → D} {σ : Store} {o : Oper} {t t' : TypeId} {x y : Operand} {a b : Int} (ho : o.op = .binOp .add t x y t') (hx : ρ x = .v (.int .i64 a)) (hy : ρ y = .v (.int .i64 b)) : Yd P o ρ σ (.v (.int .i64 (IntKind.i64.wrap (a + b)))):=by
 intro w X η hη hst
 obtain ⟨dst,op,ty,pos,aft,g⟩:=o
 simp only at ho
 subst ho
 have h1:=(hη x (by simp [Op.operands])).val hx
 have h2:=(hη y (by simp [Op.operands])).val hy
 refine yu_run (s:=do eqGuard .add t x y (η x) (η y);binOp .add t (η x) (η y)) (u:=.int .i64 (IntKind.i64.wrap (a + b))) ?_ (Ex.refl w) (.v _)
 rw [h1,h2]
 simp [eqGuard,binOp,Op.intArith]
theorem wrap_i64n (n : Int) : I64n (IntKind.i64.wrap n):=by
 rw [IntKind.wrap_i64]
 unfold I64n
 omega
theorem and_beq (a b : Int) : ((a == a) && (b == b)) = true:=by simp
theorem Ss.size {s : Sb} (h : Ss s) : sizeE s ≤ 1000000:=by
 have key : ∀ l : List (List Bool),(∀ m ∈ l,m.length ≤ 1000) → (l.map fun m=>m.countP id).sum ≤ l.length * 1000:=by
  intro l
  induction l with
  | nil=>simp
  | cons m l ih=>
   intro h
   have h1:=h m (by simp)
   have h2:=ih fun z hz=>h z (by simp [hz])
   have h3:=List.countP_le_length (p:=id) (l:=m)
   simp only [List.map_cons,List.sum_cons,List.length_cons,Nat.succ_mul]
   omega
 have:=key s h.nr
 have:=h.nk
 unfold sizeE
 omega
theorem without_lens {x : Sch} {w : Wd} {s : Sb} {k i : Int} (hs : Ss s) : Ss (withoutE x w s k i).1:=by
 unfold withoutE
 split
 ·exact Ss.nil
 ·split
  ·exact Ss.nil
  ·exact hs.lens ((lens_shrink _).trans (clearB_lens _ _ _))
theorem together_le (x : Sch) (w : Wd) (s : Sb) (k i : Int) : (togetherE x w s k i).1.length ≤ sizeE s:=by
 rw [sizeE_pos]
 unfold togetherE
 split
 ·exact Nat.zero_le _
 ·exact List.length_filter_le _ _
theorem sb97 {A B : Prop} (k : B) (h : Hd7 B → A:=by intro hk7q;(first | (with_reducible refine Bc.l ?_) | fail | ((with_reducible refine Dr.l ?h ?_);(case h=>decide +kernel)) | (with_reducible refine Dr.r ?_) | ((with_reducible refine Dm.l ?h ?_);(case h=>decide +kernel)) | ((with_reducible refine Cb.go ?h ?_);(case h=>decide +kernel)));exact hk7q.run) : A:=h ⟨k⟩
theorem sk98 {A B : Prop} (k : B) (h : Hd7 B → A:=by intro hk7q;(first | refine sb0 ?_ | refine sb97 ?_ | ((with_reducible refine' Cp.by ?hc ?_);(case hc=>exact l31_lives)) | ((with_reducible refine' CE.pure ?hc ?_);(case hc=>exact l31_lives)));exact hk7q.run) : A:=h ⟨k⟩
theorem sk99 {A B : Prop} (k : B) (h : Hd7 B → A:=by intro hk7q;(first | refine sb0 ?_ | refine sb97 ?_ | ((with_reducible refine' Cp.by ?hc ?_);(case hc=>exact r01_around _ _ (wrap_i64n _))) | ((with_reducible refine' CE.pure ?hc ?_);(case hc=>exact r01_around _ _ (wrap_i64n _))));exact hk7q.run) : A:=h ⟨k⟩
theorem sk100 {A B : Prop} (k : B) (h : Hd7 B → A:=by intro hk7q;(first | refine sb0 ?_ | refine sb97 ?_ | ((with_reducible refine' Cp.by ?hc ?_);(case hc=>first | exact HC1 | exact HC2 | exact HC3 | exact HC4 | exact HC5 | exact HC6 | exact HC7)) | ((with_reducible refine' CE.pure ?hc ?_);(case hc=>first | exact HC1 | exact HC2 | exact HC3 | exact HC4 | exact HC5 | exact HC6 | exact HC7)));exact hk7q.run) : A:=h ⟨k⟩
theorem sk101 {A B : Prop} (k : B) (h : Hd7 B → A:=by intro hk7q;(first | refine sb0 ?_ | refine sb1 ?_ | ((with_reducible refine' Cp.by ?hc ?_);(case hc=>first | exact HC1 | exact HC2 | exact HC3 | exact HC4 | exact HC5 | exact HC6 | exact HC7)) | ((with_reducible refine' CE.pure ?hc ?_);(case hc=>first | exact HC1 | exact HC2 | exact HC3 | exact HC4 | exact HC5 | exact HC6 | exact HC7)));exact hk7q.run) : A:=h ⟨k⟩
theorem l31_without (l m p : List Int) (hl : I64s l) (hm : I64s m) (hp : I64s p) (at_ how by_ : Int) (hat : I64n at_) (hhow : I64n how) (hby : I64n by_) :
  APure Tryz.prog 3 [slI l,slI m,slI p,iD at_,iD how,iD by_] (bD true):=by
 refine APure.of_call (enterX mixed tget_ok Tryz.func3 (by kernel_rfl) rfl Tryz.ntmps3 rfl ?_);intro BB
 repeat' (first | refine sk98 ?_ | (intro b;conv=>whnf))
 refine CE.some (l31_some_p l m hl hm at_ how by_ hat hhow hby) ?_
 rintro _ ⟨X,V,rfl,hS⟩
 have hX4:=hS.lx
 have hV4:=hS.lv
 repeat' (first | refine sk98 ?_ | (intro b;conv=>whnf))
 refine lp_loop mixed tget_ok (γ:=Nat) (fun i=>[(15,iD i)]) (fun _=>[]) (fun i=>i ≤ 4) (fun i=>4 - i) 0 rfl rfl (by omega) ?_
 rintro i hi
 by_cases hi4 : i < 4
 ·obtain ⟨x,hx⟩ : ∃ x,X[i]? = some x:=⟨_,List.getElem?_eq_getElem (by omega)⟩
  obtain ⟨w,hw⟩ : ∃ x,V[i]? = some x:=⟨_,List.getElem?_eq_getElem (by omega)⟩
  have hx' : X[((i : Nat) : Int).toNat]? = some x:=hx
  have hw' : V[((i : Nat) : Int).toNat]? = some w:=hw
  have hcx:=hS.cx x (List.mem_of_getElem? hx)
  have hwo:=hS.cv w (List.mem_of_getElem? hw)
  have HV:=sch_valid x hcx.good
  have HV9:=r09_valid x hcx.good
  repeat' (first | refine sk98 ?_ | (intro b;conv=>whnf) | (with_reducible refine Br.t (beq_self_eq_true _) ?_) | (with_reducible refine Br.t (and_beq _ _) ?_) | (with_reducible refine Br.f Bool.not_true ?_) | (with_reducible refine Br.t (decide_eq_true trivial) ?_))
  refine CE.some (l31_subs_p w hwo p hp at_ hat) ?_
  rintro _ ⟨B,rfl,hB⟩
  have hB4:=hB.lb
  repeat' (first | refine sk98 ?_ | (intro b;conv=>whnf) | (with_reducible refine Br.t (beq_self_eq_true _) ?_) | (with_reducible refine Br.t (and_beq _ _) ?_) | (with_reducible refine Br.f Bool.not_true ?_) | (with_reducible refine Br.t (decide_eq_true trivial) ?_))
  refine lp_loop mixed tget_ok (γ:=Nat) (fun j=>[(17,iD j)]) (fun _=>[]) (fun j=>j ≤ 4) (fun j=>4 - j) 0 rfl rfl (by omega) ?_
  rintro j hj
  by_cases hj4 : j < 4
  ·obtain ⟨s,hs⟩ : ∃ x,B[j]? = some x:=⟨_,List.getElem?_eq_getElem (by omega)⟩
   have hs' : B[((j : Nat) : Int).toNat]? = some s:=hs
   have hss:=hB.cs s (List.mem_of_getElem? hs)
   repeat' (first | refine sk98 ?_ | (intro b;conv=>whnf) | (with_reducible refine Br.t (beq_self_eq_true _) ?_) | (with_reducible refine Br.t (and_beq _ _) ?_) | (with_reducible refine Br.f Bool.not_true ?_) | (with_reducible refine Br.t (decide_eq_true trivial) ?_))
   refine lp_loopd mixed tget_ok (γ:=Nat) (fun k=>[(18,iD k)]) (fun _=>[]) (fun k=>k ≤ 8) (fun k=>8 - k) 0 (chk_of cl2) (List.Sublist.refl _) (by omega) ?_
   rintro k hk
   by_cases hk8 : k < 8
   ·have hb5:=tdiv_i64 hby 5 (by omega)
    have hr1:=arE_in (IntKind.i64.wrap (by_ + k)) 5
    have hr2:=arE_in (IntKind.i64.wrap (by_.tdiv 5 + k)) 6
    have hr1':=hr1.2.1 (by omega)
    have hr2':=hr2.2.1 (by omega)
    repeat' (first | refine sk99 ?_ | (intro b;conv=>whnf))
    refine Bx.r ?_
    refine' Ot.yd ?hyw1 ?_
    case hyw1=>exact yd_addw rfl rfl rfl
    repeat' (first | refine sk99 ?_ | (intro b;conv=>whnf))
    refine Bx.l ?_
    repeat' (first | refine sk99 ?_ | (intro b;conv=>whnf))
    refine Bx.l ?_
    repeat' (first | refine sk99 ?_ | (intro b;conv=>whnf))
    refine Sd.go ⟨by decide,⟨hb5.1,hb5.2⟩⟩ ?_
    repeat' (first | refine sk99 ?_ | (intro b;conv=>whnf))
    refine Bx.r ?_
    refine' Ot.yd ?hyw2 ?_
    case hyw2=>exact yd_addw rfl rfl rfl
    repeat' (first | refine sk99 ?_ | (intro b;conv=>whnf))
    refine Bx.l ?_
    repeat' (first | refine sk99 ?_ | (intro b;conv=>whnf))
    generalize arE (IntKind.i64.wrap (by_ + k)) 5 - 1 = rk at *
    generalize arE (IntKind.i64.wrap (by_.tdiv 5 + k)) 6 - 1 = ri at *
    clear hr1 hr2 hr1' hr2' hb5
    have hws:=without_lens (x:=x) (w:=w) (k:=rk) (i:=ri) hss
    have HC1:=cl_without_p x w s hwo.ws hss rk ri HV
    have HC2:=r31_without_p x w s hwo.ws hss rk ri HV9
    have HC3:=cl_together x w s hwo.ws hss rk ri HV
    have HC4:=r31_together x w s hwo.ws hss rk ri HV9
    have HC5:=same_p _ hws
    have HC6:=cl_size _ hws
    have HC7:=cl_size s hss
    have hall:=together_all (x:=x) (w:=w) (s:=s) (k:=rk) (i:=ri)
    rw [together_err] at HC3 HC4
    have hsz:=hss.size
    have htl:=together_le x w s rk ri
    generalize (withoutE x w s rk ri).1 = g1 at *
    generalize (withoutE x w s rk ri).2 = e1 at *
    generalize (togetherE x w s rk ri).1 = t1 at *
    generalize sizeE g1 = n1 at *
    generalize sizeE s = n2 at *
    repeat' (first | refine sk100 ?_ | (intro b;conv=>whnf) | (with_reducible refine Br.t (beq_self_eq_true _) ?_) | (with_reducible refine Br.t (and_beq _ _) ?_) | (with_reducible refine Br.f Bool.not_true ?_) | (with_reducible refine Br.t (decide_eq_true trivial) ?_))
    refine lp_loop mixed tget_ok (γ:=Nat) (fun n=>[(28,iD n)]) (fun _=>[(b,.cells 33 [iD rk,iD ri])]) (fun n=>n ≤ t1.length) (fun n=>t1.length - n) 0 rfl rfl (Nat.zero_le _) ?_
    rintro n hn
    by_cases hnl : n < t1.length
    ·obtain ⟨⟨pa,pb⟩,hpr⟩ : ∃ x,t1[n]? = some x:=⟨_,List.getElem?_eq_getElem hnl⟩
     have hpr' : t1[((n : Nat) : Int).toNat]? = some (pa,pb):=hpr
     repeat' (first | refine sk101 ?_ | (intro b;conv=>whnf) | (with_reducible refine Br.t (beq_self_eq_true _) ?_) | (with_reducible refine Br.t (and_beq _ _) ?_) | (with_reducible refine Br.f Bool.not_true ?_) | (with_reducible refine Br.t (decide_eq_true trivial) ?_))
     refine' Ot.yd ?hyw3 ?_
     case hyw3=>exact yd_atne rfl rfl rfl
     repeat' (first | refine sk101 ?_ | (intro b;conv=>whnf) | (with_reducible refine Br.t (beq_self_eq_true _) ?_) | (with_reducible refine Br.t (and_beq _ _) ?_) | (with_reducible refine Br.f Bool.not_true ?_) | (with_reducible refine Br.t (decide_eq_true trivial) ?_))
     exact ⟨n + 1,rfl,rfl,by omega,by omega⟩
    ·obtain rfl : n = t1.length:=by omega
     by_cases he : e1 = 0
     ·have hal:=hall he
      repeat' (first | refine sk101 ?_ | (intro b;conv=>whnf) | (with_reducible refine Br.t (beq_self_eq_true _) ?_) | (with_reducible refine Br.t (and_beq _ _) ?_) | (with_reducible refine Br.f Bool.not_true ?_) | (with_reducible refine Br.t (decide_eq_true trivial) ?_))
      exact ⟨k + 1,(chk_of cl2),cl3,by omega,by omega⟩
     ·repeat' (first | refine sk101 ?_ | (intro b;conv=>whnf) | (with_reducible refine Br.t (beq_self_eq_true _) ?_) | (with_reducible refine Br.t (and_beq _ _) ?_) | (with_reducible refine Br.f Bool.not_true ?_) | (with_reducible refine Br.t (decide_eq_true trivial) ?_))
      exact ⟨k + 1,(chk_of cl2),cl3,by omega,by omega⟩
   ·obtain rfl : k = 8:=by omega
    repeat' (first | refine sk101 ?_ | (intro b;conv=>whnf))
    exact ⟨j + 1,rfl,rfl,by omega,by omega⟩
  ·obtain rfl : j = 4:=by omega
   repeat' (first | refine sk101 ?_ | (intro b;conv=>whnf))
   exact ⟨i + 1,rfl,rfl,by omega,by omega⟩
 ·obtain rfl : i = 4:=by omega
  repeat' (first | refine sk94 ?_ | (intro b;conv=>whnf))
  refine Rt.pure (congrArg bD ?_)
  rfl
end
end Go.Proofs.YtjbbmjjildhfbaaGreatDoor
