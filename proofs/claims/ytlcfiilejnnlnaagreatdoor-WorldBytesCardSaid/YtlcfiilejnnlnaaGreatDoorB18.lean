/- A part of the proof: Ld Lc. -/
import Derived.Test.YtlcfiilejnnlnaaGreatDoorB17
import Derived.Test.YtlcfiilejnnlnaaGreatDoorRows
import Derived.LaidMore
import Derived.OpenShut
import Derived.LaidHandle
import Derived.LaidSub
import Derived.Lib.LaidU8
import Derived.WideKeyElems2
import Derived.Maps.RangeWalk
import Derived.Maps.Keyed
import Derived.WalkKit
import Derived.ProofKit
import Derived.ChangeSlices
import Derived.ChangeCalls
import Derived.Deep.Onto
import Derived.Stop.Joined
set_option maxRecDepth 100000
set_option maxHeartbeats 20000000
set_option linter.unusedVariables false
set_option linter.unusedSimpArgs false
namespace Go.Proofs.YtlcfiilejnnlnaaGreatDoor
section
open Go Go.Maps Go.MapKept Go.WideElems Go.ChangeShapes Go.WideShapes
set_option maxRecDepth 100000
abbrev laidL:List (String × DataW Unit):=[("diorama/dioramaref02.constants",Rows.laid_diorama_dioramaref02_constants),("math/bits.deBruijn32tab",Rows.laid_math_bits_deBruijn32tab),("math/bits.deBruijn64tab",Rows.laid_math_bits_deBruijn64tab),("diorama/hash.constants",Rows.laid_diorama_hash_constants),("internal/strconv.uint64pow10",Rows.laid_internal_strconv_uint64pow10),("diorama/schema.words",Rows.laid_diorama_schema_words),("diorama/typing.checks",Rows.laid_diorama_typing_checks)]
theorem ck7:Tryz.prog.cellsOf 9=1:=by kernel_rfl
theorem cp2:Tryz.prog.cellsOf 167=1:=by kernel_rfl
theorem cp4:Tryz.prog.cellsOf 347=20:=by kernel_rfl
theorem c_fn:Tryz.prog.cellsOf 243=1:=by kernel_rfl
theorem cp7:Tryz.prog.cellsOf 244=1:=by kernel_rfl
theorem g_pow:Tryz.prog.globalNamed "internal/strconv.uint64pow10" = some 5:=by kernel_rfl
theorem g_words:Tryz.prog.globalNamed "diorama/schema.words" = some 3:=by kernel_rfl
theorem g_chk:Tryz.prog.globalNamed "diorama/typing.checks" = some 0:=by kernel_rfl
theorem t_pow:(Tryz.prog.globals[5]?).map (·.type)=some 347:=by kernel_rfl
theorem t_words:(Tryz.prog.globals[3]?).map (·.type)=some 336:=by kernel_rfl
theorem t_chk:(Tryz.prog.globals[0]?).map (·.type)=some 246:=by kernel_rfl
theorem bF9:(Rows.laid_internal_strconv_uint64pow10:DataW Unit)=Lib.tabData .u64 Lib.pow10Tab:=by rfl
theorem at9 {W:World} (h:laidMetH Tryz.prog laidL W) {n:String} {d:DataW Unit} (hm:(n,d)∈laidL.filter fun x=>x.2.handleName?.isNone):Lib.VarReads Tryz.prog W n d:=Lib.laidMet.reads (laidMetH_iff.1 h).1 hm
theorem bG6:(Rows.laid_internal_strconv_uint64pow10:DataW Unit).handleName?.isNone=true:=rfl
theorem bn4:(Rows.laid_diorama_schema_words:DataW Unit).handleName?.isNone=true:=rfl
theorem bH3 {W:World} (h:laidMetH Tryz.prog laidL W):Pow10 W:=by
 obtain ⟨g,t,cs,fuel,p,hg,ht,hv,hd⟩:=at9 h (n:= "internal/strconv.uint64pow10") (d:=Rows.laid_internal_strconv_uint64pow10) (List.mem_filter.2 ⟨by simp [laidL],bG6⟩)
 obtain rfl:=Option.some.inj (g_pow.symm.trans hg)
 obtain rfl:=Option.some.inj (t_pow.symm.trans ht)
 rw [bF9] at hd
 unfold Pow10 Lib.TabIs
 rw [hv,← Lib.cells_of_tab Tryz.underlying347 Tryz.underlying167 cp2 cp4 hd]
theorem bn9 {W:World} (h:laidMetH Tryz.prog laidL W):WordsAt W:=by
 obtain ⟨g,t,cs,fuel,p,hg,ht,hv,hd⟩:=at9 h (n:= "diorama/schema.words") (d:=Rows.laid_diorama_schema_words) (List.mem_filter.2 ⟨by simp [laidL],bn4⟩)
 obtain rfl:=Option.some.inj (g_words.symm.trans hg)
 obtain rfl:=Option.some.inj (t_words.symm.trans ht)
 obtain ⟨xs,m1,rfl,hx1,hlen,hn3,hel⟩:=DataW.trod_array Tryz.underlying336 hd
 intro i s hi
 have hi9:i<9:=(List.getElem?_eq_some_iff.1 hi).1
 have hE:=hel i hi9
 obtain ⟨y,hy⟩:∃ y,xs[i]?=some y:=⟨xs[i]'(by omega),List.getElem?_eq_getElem (by omega)⟩
 rw [hy,ck7] at hE
 obtain ⟨s',e1,e2,_⟩:=DataW.trod_string Tryz.underlying9 hE
 have hc:=World.var?_cell g_words hv i
 have e3:cs[i]?=some (.string s'):=by
  have:=congrArg (·[0]?) e1
  simpa [List.getElem?_take,List.getElem?_drop] using this
 rw [e3] at hc
 rw [hc]
 have e4:(xs.map (·.1))[i]?=some (.lit (.string s'.data.toList)):=by rw [List.getElem?_map,hy,e2];rfl
 have e5:=congrArg Prod.fst hx1
 simp only [Rows.laid_diorama_schema_words,DataW.agg.injEq] at e5
 rw [← e5] at e4
 have key:s'.data.toList=s.data.toList:=by
  have:i=0∨i=1∨i=2∨i=3∨i=4∨i=5∨i=6∨i=7∨i=8:=by omega
  rcases this with rfl|rfl|rfl|rfl|rfl|rfl|rfl|rfl|rfl <;> (simp at hi e4;subst hi;rw [← e4])
 have:s'=s:=by
  obtain ⟨a⟩:=s';obtain ⟨b⟩:=s
  congr 1
  exact Array.toList_inj.1 key
 rw [this]
abbrev nmB (d:UInt8):List UInt8:=[100,105,111,114,97,109,97,47,116,121,112,105,110,103,46,99,104,101,99,107,115,36,d]
abbrev chkE:List (Lit × DataW (List UInt8)):=[(.int .i64 0,.agg [.held (nmB 49)]),(.int .i64 1,.agg [.held (nmB 50)]),(.int .i64 4,.agg [.held (nmB 51)]),(.int .i64 5,.agg [.held (nmB 52)]),(.int .i64 6,.agg [.held (nmB 53)]),(.int .i64 7,.agg [.held (nmB 54)]),(.int .i64 8,.agg [.held (nmB 55)])]
theorem cj7 {W:World} {n:Nat} {v:Value} {z:DataW (List UInt8) × List MemPlace} {d:UInt8} {f0:FuncId} (h:elemAt (funcToken Tryz.prog) Tryz.prog W 0 (fun _=>true) true n 244 v=some z) (hz:z.1 = .agg [.held (nmB d)])
  (hone:((List.range Tryz.prog.funcs.size).filter fun f=>(Tryz.prog.funcs[f]?).any (·.name.toUTF8.data.toList == nmB d))=[f0]):v = .agg #[chkV f0]:=by
 unfold elemAt at h
 split at h
 ·rename_i hf
  obtain ⟨xs,m,rfl,hx,hl,hn,hel⟩:=DataW.trod_struct Tryz.underlying244 h
  rw [cp7] at hl
  have h0:=hel 0 _ rfl
  obtain ⟨y,hy⟩:∃ y,xs[0]?=some y:=⟨xs[0]'(by rw [hn];decide),List.getElem?_eq_getElem _⟩
  simp only [hy,c_fn,List.drop_zero] at h0
  rw [hx] at hz
  simp only [DataW.agg.injEq] at hz
  have hy1:y.1 = .held (nmB d):=by
   have:(xs.map (·.1))[0]?=some y.1:=by rw [List.getElem?_map,hy];rfl
   rw [hz] at this
   simpa using this.symm
  match hc:v.cells.toList,hl with
  | [c],_=>
   rw [hc] at h0
   simp only [List.getElem_toArray,List.getElem_cons_zero,List.drop_zero,c_fn,List.take_succ_cons,List.take_zero] at h0
   obtain ⟨y1,y2⟩:=y
   simp only at hy1
   subst hy1
   have e:=func_of_trod Tryz.underlying243 hone h0
   subst e
   unfold Value.formed at hf
   rw [Tryz.underlying244] at hf
   cases v with
   | agg cs=>
    simp only [Value.cells] at hc
    obtain ⟨l⟩:=cs
    simp only at hc
    rw [hc];rfl
   | _=>simp at hf
 ·cases h
theorem be6 {W:World} (h:laidMetH Tryz.prog laidL W):∃ r,W.cell? ⟨0,0,none⟩=some (.map (some r))∧MapIs Tryz.prog 3 W r 7 (aggF chkM):=by
 obtain ⟨g,t,cs,fuel,p,hg,ht,hv,hd⟩:=h.funcs (n:= "diorama/typing.checks") (by unfold laidL Rows.laid_diorama_typing_checks;simp only [List.mem_cons];exact .inr (.inr (.inr (.inr (.inr (.inr (.inl rfl)))))))
 obtain rfl:=Option.some.inj (g_chk.symm.trans hg)
 obtain rfl:=Option.some.inj (t_chk.symm.trans ht)
 have hd':DataW.trod (funcToken Tryz.prog) Tryz.prog W 0 (fun _=>true) true fuel 246 cs.toList=some (.map chkE,p):=hd
 rcases open_map Tryz.underlying246 hd' with ⟨_,hx⟩|⟨bm,es,clock,m,rfl,hcs,hb,_,F,hx⟩
 ·simp at hx
 simp only [Prod.mk.injEq,DataW.map.injEq] at hx
 have hp:=hx.1 ▸ sorted_perm (es.toList.map (rg Tryz.prog 3 (elemAt (funcToken Tryz.prog) Tryz.prog W 0 (fun _=>true) true m 244)))
 have hcell:=World.var?_cell hg hv 0
 rw [Array.eq_one_of_toList hcs] at hcell
 have hsz:es.size=7:=by have:=hp.length_eq;simpa using this.symm
 have one:∀ e∈es.toList,aggF chkM e.key=some e.val:=fun e he=>by
  obtain ⟨y,hy⟩:=F.reads e he
  have hm:y∈chkE:=hp.mem_iff.2 (List.mem_map.2 ⟨e,he,rg_of hy⟩)
  have hk:=rd_key hy
  obtain ⟨z,hz1,hz2⟩:=rd_val hy
  obtain ⟨q,e1,e2,_⟩:=keyOf_int_inv Tryz.underlying3 hk
  simp only [chkE,List.mem_cons,List.not_mem_nil,or_false] at hm
  rcases hm with rfl|rfl|rfl|rfl|rfl|rfl|rfl <;> (cases e2;rw [e1,cj7 hz1 hz2.symm (by kernel_rfl)];rfl)
 refine ⟨bm,by simpa using hcell,es,clock,hb,⟨by omega,F.stamped,F.keys,one,fun key v hkv=>?_⟩⟩
 have back:∀ (n:Int) d,(Lit.int .i64 n,d)∈chkE→∃ e∈es.toList,e.key = .int .i64 n:=fun n d hm=>by
  obtain ⟨e,he,hr⟩:=List.mem_map.1 (hp.mem_iff.1 hm)
  obtain ⟨y,hy⟩:=F.reads e he
  rw [rg_of hy] at hr
  have hk:=rd_key hy
  rw [hr] at hk
  obtain ⟨q,e1,e2,_⟩:=keyOf_int_inv Tryz.underlying3 hk
  simp only at e2
  cases e2
  exact ⟨e,he,e1⟩
 have fin:∀ (n:Int) d,(Lit.int .i64 n,d)∈chkE→key = .int .i64 n→∃ e∈es.toList,e.key=key∧e.val=v:=fun n d hm hk=>by
  obtain ⟨e,he,e1⟩:=back n d hm
  have:=one e he
  rw [e1,← hk,hkv] at this
  exact ⟨e,he,by rw [e1,hk],(Option.some.inj this).symm⟩
 unfold aggF chkM at hkv
 split at hkv
 ·exact fin 0 (.agg [.held (nmB 49)]) (by simp [chkE]) rfl
 ·exact fin 1 (.agg [.held (nmB 50)]) (by simp [chkE]) rfl
 ·exact fin 4 (.agg [.held (nmB 51)]) (by simp [chkE]) rfl
 ·exact fin 5 (.agg [.held (nmB 52)]) (by simp [chkE]) rfl
 ·exact fin 6 (.agg [.held (nmB 53)]) (by simp [chkE]) rfl
 ·exact fin 7 (.agg [.held (nmB 54)]) (by simp [chkE]) rfl
 ·exact fin 8 (.agg [.held (nmB 55)]) (by simp [chkE]) rfl
 ·cases hkv
theorem cc6 {W:World} {n:String} {g:Nat} {cs:Array Value} (hg:Tryz.prog.globalNamed n=some g) (hv:W.var? Tryz.prog n=some cs):g<W.heap.size:=by
 unfold World.var? at hv
 rw [hg] at hv
 simp only [Option.bind_some] at hv
 cases hb:W.heap[g]? with
 | none=>rw [hb] at hv;simp at hv
 | some o=>exact (Array.getElem?_eq_some_iff.1 hb).1
theorem cp3:Tryz.prog.cellsOf 168=1:=by kernel_rfl
theorem cp5:Tryz.prog.cellsOf 293=64:=by kernel_rfl
theorem bM2 {W:World} {n:String} {d:DataW Unit} {g0:Nat} (hd:d=Lib.tabData .u32 (kLit.map fun n:Nat=>(n:Int))) (hg0:Tryz.prog.globalNamed n=some g0) (ht0:(Tryz.prog.globals[g0]?).map (·.type)=some 293) (h:Lib.VarReads Tryz.prog W n d):bC6 g0 W:=by
 obtain ⟨g,t,cs,fuel,p,hg,ht,hv,hd'⟩:=h
 obtain rfl:=Option.some.inj (hg0.symm.trans hg)
 obtain rfl:=Option.some.inj (ht0.symm.trans ht)
 rw [hd] at hd'
 have e:=Lib.cells_of_tab Tryz.underlying293 Tryz.underlying168 cp3 cp5 hd'
 intro i n hi
 have hc:=World.var?_cell hg hv i
 rw [hc,← Array.getElem?_toList,e,List.getElem?_map,List.getElem?_map,hi]
 rfl
theorem bx9:(Rows.laid_diorama_hash_constants:DataW Unit)=Lib.tabData .u32 (kLit.map fun n:Nat=>(n:Int)):=by kernel_rfl
theorem bm9:(Rows.laid_diorama_dioramaref02_constants:DataW Unit)=Lib.tabData .u32 (kLit.map fun n:Nat=>(n:Int)):=by kernel_rfl
theorem bu9:(Rows.laid_diorama_hash_constants:DataW Unit).handleName?.isNone=true:=rfl
theorem bn5:(Rows.laid_diorama_dioramaref02_constants:DataW Unit).handleName?.isNone=true:=rfl
theorem bV2 {W:World} (h:laidMetH Tryz.prog laidL W):bC6 1 W:=
 bM2 (n:= "diorama/hash.constants") bx9 (by kernel_rfl) (by kernel_rfl) (at9 h (List.mem_filter.2 ⟨by simp [laidL],bu9⟩))
theorem bV1 {W:World} (h:laidMetH Tryz.prog laidL W):bC6 2 W:=
 bM2 (n:= "diorama/dioramaref02.constants") bm9 (by kernel_rfl) (by kernel_rfl) (at9 h (List.mem_filter.2 ⟨by simp [laidL],bn5⟩))
theorem bH5 {W:World} (h:laidMetH Tryz.prog laidL W):GOK W (fun _=>False):=by
 obtain ⟨g,t,cs,fuel,p,hg,ht,hv,hd⟩:=at9 h (n:= "math/bits.deBruijn64tab") (d:=Rows.laid_math_bits_deBruijn64tab) (List.mem_filter.2 ⟨by simp [laidL],rfl⟩)
 have hlt:=cc6 hg hv
 obtain rfl:=Option.some.inj ((show Tryz.prog.globalNamed "math/bits.deBruijn64tab" = some 7 by kernel_rfl).symm.trans hg)
 obtain ⟨r,h1,h2⟩:=be6 h
 exact ⟨fun _ h=>h.elim,hlt,fun _ _ h=>h,bH3 h,bn9 h,⟨r,h1,fun h=>h,h2⟩,bV2 h,bV1 h⟩
end
section
open Go Go.ChangeShapes Go.WideShapes Go.ChangeAt Go.RowKit
set_option maxRecDepth 100000
theorem cp6:Tryz.prog.cellsOf 3=1:=by kernel_rfl
theorem cp8:Tryz.prog.bytesOf 3=8:=by kernel_rfl
theorem c_u8:Tryz.prog.cellsOf 5=1:=by kernel_rfl
theorem b_u8:Tryz.prog.bytesOf 5=1:=by kernel_rfl
structure bC7 (b:List Nat):Prop where
 lt:∀ d∈b,d<256
 len:b.length≤140737488355328
inductive ArgD:TypeId→D→Prop
 | int (n:Int) (h:I64n n):ArgD 3 (iD n)
 | ints (l:List Int) (h:I64s l):ArgD 22 (slI l)
 | bytes (b:List Nat) (h:bC7 b):ArgD 23 (slY b)
inductive ArgsD:List TypeId→List D→Prop
 | nil:ArgsD [] []
 | cons {t:TypeId} {d:D} {ts:List TypeId} {ds:List D} (h:ArgD t d) (k:ArgsD ts ds):ArgsD (t :: ts) (d :: ds)
theorem ArgD.int_inv {d:D} (h:ArgD 3 d):∃ n,I64n n∧d=iD n:=by
 generalize hq:3=q at h
 cases h with
 | int n h=>exact ⟨n,h,rfl⟩
 | ints l h=>exact absurd hq (by decide)
 | bytes l h=>exact absurd hq (by decide)
theorem ArgD.ints_inv {d:D} (h:ArgD 22 d):∃ l,I64s l∧d=slI l:=by
 generalize hq:22=q at h
 cases h with
 | int n h=>exact absurd hq (by decide)
 | ints l h=>exact ⟨l,h,rfl⟩
 | bytes l h=>exact absurd hq (by decide)
theorem ArgD.bytes_inv {d:D} (h:ArgD 23 d):∃ b,bC7 b∧d=slY b:=by
 generalize hq:23=q at h
 cases h with
 | int n h=>exact absurd hq (by decide)
 | ints l h=>exact absurd hq (by decide)
 | bytes l h=>exact ⟨l,h,rfl⟩
theorem ArgsD.nil_inv {ds:List D} (h:ArgsD [] ds):ds=[]:=by cases h;rfl
theorem ArgsD.int_inv {ts:List TypeId} {ds:List D} (h:ArgsD (3 :: ts) ds):∃ n ds',I64n n∧ds=iD n :: ds'∧ArgsD ts ds':=by
 cases h with
 | cons h k=>obtain ⟨n,hn,rfl⟩:=h.int_inv;exact ⟨n,_,hn,rfl,k⟩
theorem ArgsD.ints_inv {ts:List TypeId} {ds:List D} (h:ArgsD (22 :: ts) ds):∃ l ds',I64s l∧ds=slI l :: ds'∧ArgsD ts ds':=by
 cases h with
 | cons h k=>obtain ⟨n,hn,rfl⟩:=h.ints_inv;exact ⟨n,_,hn,rfl,k⟩
theorem ArgsD.bytes_inv {ts:List TypeId} {ds:List D} (h:ArgsD (23 :: ts) ds):∃ b ds',bC7 b∧ds=slY b :: ds'∧ArgsD ts ds':=by
 cases h with
 | cons h k=>obtain ⟨n,hn,rfl⟩:=h.bytes_inv;exact ⟨n,_,hn,rfl,k⟩
theorem bO2 {n:Int} (h:(Lit.int .i64 n).wf=true):I64n n:=by
 simp only [Lit.wf,Bool.and_eq_true,decide_eq_true_eq] at h
 exact ⟨h.1,h.2⟩
section
variable {H:Type} {enc:TypeId × Value→H} {W:World}
theorem bt3 {t e:TypeId} {k:IntKind} {wt:Nat} {v:Value} {d:DataW H} {ps:List MemPlace} {base:Nat} (ht:Tryz.prog.underlying t=some (.slice e)) (he:Tryz.prog.underlying e=some (.int k)) (hce:Tryz.prog.cellsOf e=1) (hbe:Tryz.prog.bytesOf e=wt) (hwt:1≤wt)
  (hv:Value.okWide Tryz.prog W .any base t v) (h:DataW.Trod enc Tryz.prog W 0 (fun _=>true) true t v d ps) (hw:∀ n∈d.weights Tryz.prog t,n≤reachBytes) :
  (∃ zs:List Int,(∀ n∈zs,(Lit.int k n).wf=true)∧zs.length*wt≤140737488355328∧Rd W (fun _=>False) (.sl 1 (zs.map fun n=>[.v (.int k n)])) v)∧∀ W',Ex W W'→∀ sp:Nat→Bool,(∀ p∈ps,sp p.block=true)→DataW.Trod enc Tryz.prog W' 0 sp true t v d ps:=by
 obtain ⟨a,len,cap,rfl⟩:=okWide_slice ht hv
 obtain ⟨fuel,hf⟩:=h
 rcases open_ints ht he hce hf with ⟨h1,h2⟩|⟨a',len',cap',zs,h1,hb,hl,hm,hz,hx,hcell,hwf⟩
 ·simp only [Value.cells,List.cons.injEq,Value.slice.injEq,and_true] at h1
  obtain ⟨rfl,rfl,rfl⟩:=h1
  cases h2
  refine ⟨⟨[],by simp,by simp,?_⟩,fun W' _ sp _=>⟨1,?_⟩⟩
  ·exact .sl 1 [] none 0 (fun _ _=>undef) (Nat.le_refl _) (by simp) (by simp) (by simp)
  ·rw [DataW.trod_step]
   unfold DataW.trodStep
   simp only [ht,Value.cells]
 ·simp only [Value.cells,List.cons.injEq,Value.slice.injEq,and_true] at h1
  obtain ⟨rfl,rfl,rfl⟩:=h1
  simp only [if_true] at hz
  cases hx
  have hlen:len*wt≤140737488355328:=by
   have:=hw ((len+(cap - len))*wt) (by
    unfold DataW.weights
    rw [ht]
    simp only [List.length_map,List.length_take,List.length_drop,lits,hbe,hz,Nat.min_eq_left hl]
    exact List.mem_cons_self)
   unfold reachBytes at this
   have h2:len*wt≤(len+(cap - len))*wt:=Nat.mul_le_mul_right _ (by omega)
   omega
  have hlen2:(zs.take len).length=len:=by rw [List.length_take];omega
  refine ⟨⟨zs.take len,fun n hn=>hwf n (List.mem_of_mem_take hn),by rw [hlen2];exact hlen,?_⟩,fun W' hex sp hsp=>?_⟩
  ·have hcl:∀ (i:Nat) n,(zs.take len)[i]?=some n→W.cell? (a'.add i)=some (.int k n):=fun i n hn=>by
    rw [List.getElem?_take] at hn
    split at hn
    ·have hi:=(List.getElem?_eq_some_iff.1 hn).1
     rw [hcell i hi]
     simp [List.getD_eq_getElem?_getD,hn]
    ·cases hn
   have hln:len=((zs.take len).map fun n=>[D.v (.int k n)]).length:=by rw [List.length_map,hlen2]
   have:Rd W (fun _=>False) (.sl 1 ((zs.take len).map fun n=>[D.v (.int k n)])) (.slice (some a') ((zs.take len).map fun n=>[D.v (.int k n)]).length cap):=by
    refine .sl 1 _ (some a') cap (fun i _=>.int k ((zs.take len).getD i 0)) (by rw [← hln];exact hl) (fun y hy=>by obtain ⟨n,_,rfl⟩:=List.mem_map.1 hy;rfl) (fun i y hy=>?_) (fun i y hy j d hd=>?_)
    ·rw [List.getElem?_map,Option.map_eq_some_iff] at hy
     obtain ⟨n,hn,rfl⟩:=hy
     have hc:=hcl i n hn
     obtain ⟨b,off,spot⟩:=a'
     have hs:spot=none:=by
      have hi0:=(List.getElem?_eq_some_iff.1 hn).1
      rw [hlen2] at hi0
      have:=World.cell?_spot (hcell 0 (by omega))
      simpa [Addr.add] using this
     subst hs
     refine ⟨b,off,rfl,fun h=>h,by have:=World.block_lt_of_cell? W _ hc;simp only [Addr.add] at this;split at this <;> simpa using this,fun j hj=>?_⟩
     obtain rfl:j=0:=by omega
     rw [add_plain] at hc
     rw [Nat.mul_one,Nat.add_zero,hc]
     simp [List.getD_eq_getElem?_getD,hn]
    ·rw [List.getElem?_map,Option.map_eq_some_iff] at hy
     obtain ⟨n,hn,rfl⟩:=hy
     cases j with
     | succ j=>simp at hd
     | zero=>
      simp at hd
      subst hd
      have:(zs.take len).getD i 0=n:=by rw [List.getD_eq_getElem?_getD,hn];rfl
      rw [this]
      exact .v _
   rw [← hln] at this
   exact this
  ·have hsz:zs.length=if sp a'.block=true then cap else len:=by
    rcases Nat.eq_zero_or_pos cap with h0|h0
    ·split <;> omega
    ·rw [if_pos (show sp a'.block=true from hsp (.cell a'.block a'.off) (MemPlace.mem_row.2 ⟨0,by omega,by simp⟩))]
     exact hz
   exact ⟨2,shut_ints 0 ht he hce hb hl hm hsz (fun i hi=>hex.cell (hcell i hi)) hwf⟩
theorem cc9 {n:Int} (h:(Lit.int .u8 n).wf=true):0≤n∧n<256:=by
 simp only [Lit.wf,Bool.and_eq_true,decide_eq_true_eq] at h
 have h1:(0:Int)≤n:=h.1
 have h2:n≤255:=h.2
 omega
theorem br5:∀ {zs:List Int},(∀ n∈zs,0≤n∧n<256)→(zs.map fun n=>[D.v (.int .u8 n)])=(zs.map Int.toNat).map yC
 | [],_=>rfl
 | z :: zs,h=>by
  rw [List.map_cons,List.map_cons,List.map_cons,br5 (fun n hn=>h n (List.mem_cons_of_mem _ hn))]
  have:=h z List.mem_cons_self
  congr 1
  show [D.v (.int .u8 z)]=[D.v (.int .u8 ((z.toNat:Nat):Int))]
  rw [Int.toNat_of_nonneg this.1]
theorem bK0 {t:TypeId} {v:Value} {d:DataW H} {ps:List MemPlace} {base:Nat} (ht:t=3∨t=22∨t=23) (hv:Value.okWide Tryz.prog W .any base t v)
  (h:DataW.Trod enc Tryz.prog W 0 (fun _=>true) true t v d ps) (hw:∀ n∈d.weights Tryz.prog t,n≤reachBytes) :
  (∃ x,ArgD t x∧Rd W (fun _=>False) x v)∧∀ W',Ex W W'→∀ sp:Nat→Bool,(∀ p∈ps,sp p.block=true)→DataW.Trod enc Tryz.prog W' 0 sp true t v d ps:=by
 rcases ht with rfl|rfl|rfl
 ·obtain ⟨n,rfl,rfl,rfl,hn⟩:=open_int Tryz.underlying3 hv h
  exact ⟨⟨_,.int n (bO2 hn),.v _⟩,fun W' _ sp _=>shut_int Tryz.underlying3 hn⟩
 ·obtain ⟨⟨zs,h1,h2,h3⟩,h4⟩:=bt3 Tryz.underlying22 Tryz.underlying3 cp6 cp8 (by decide) hv h hw
  exact ⟨⟨_,.ints zs ⟨fun n hn=>bO2 (h1 n hn),by omega⟩,h3⟩,h4⟩
 ·obtain ⟨⟨zs,h1,h2,h3⟩,h4⟩:=bt3 Tryz.underlying23 Tryz.underlying5 c_u8 b_u8 (by decide) hv h hw
  rw [br5 (fun n hn=>cc9 (h1 n hn))] at h3
  refine ⟨⟨_,.bytes (zs.map Int.toNat) ⟨fun d hd=>?_,by rw [List.length_map];omega⟩,h3⟩,h4⟩
  obtain ⟨z,hz,rfl⟩:=List.mem_map.1 hd
  have:=cc9 (h1 z hz)
  omega
theorem bb4 {base:Nat}:∀ {ts:List TypeId} {vs:List Value} {ds:List (DataW H)} {ps:List MemPlace},(∀ t∈ts,t=3∨t=22∨t=23)→(∀ (j:Nat) t v,ts[j]?=some t→vs[j]?=some v→Value.okWide Tryz.prog W .any base t v) →
  DataW.TrodAll enc Tryz.prog W 0 (fun _=>true) true ts vs ds ps→(∀ n∈DataW.weightsEach Tryz.prog ts ds,n≤reachBytes) →
  (∃ xs,ArgsD ts xs∧RdL W (fun _=>False) xs vs)∧(∀ W',Ex W W'→∀ sp:Nat→Bool,(∀ p∈ps,sp p.block=true)→DataW.TrodAll enc Tryz.prog W' 0 sp true ts vs ds ps)
 | [],vs,ds,ps,_,_,h,_=>by
  obtain ⟨rfl,rfl,rfl⟩:=trodAll_nil h
  exact ⟨⟨[],.nil,.nil⟩,fun _ _ _ _=>trodAll_mk0⟩
 | t :: ts,vs,ds,ps,ht,hv,h,hw=>by
  obtain ⟨v0,vs0,d0,ds0,p0,q0,rfl,rfl,rfl,h0,r0⟩:=trodAll_cons h
  have hw':DataW.weightsEach Tryz.prog (t :: ts) (d0 :: ds0)=d0.weights Tryz.prog t ++ DataW.weightsEach Tryz.prog ts ds0:=rfl
  rw [hw'] at hw
  obtain ⟨⟨x,k1,k2⟩,k3⟩:=bK0 (ht t (by simp)) (hv 0 t v0 rfl rfl) h0 (fun n hn=>hw n (List.mem_append_left _ hn))
  obtain ⟨⟨xs,g1,g2⟩,g3⟩:=bb4 (fun u hu=>ht u (by simp [hu])) (fun j u v hj hvj=>hv (j+1) u v (by simpa using hj) (by simpa using hvj)) r0 (fun n hn=>hw n (List.mem_append_right _ hn))
  exact ⟨⟨x :: xs,.cons k1 g1,.cons k2 g2⟩,fun W' hex sp hsp=>trodAll_cons_mk (k3 W' hex sp (fun p hp=>hsp p (List.mem_append_left _ hp))) (g3 W' hex sp (fun p hp=>hsp p (List.mem_append_right _ hp)))⟩
theorem bV3 {W':World} (h:Ex W W') (may:MemPlace→Prop):W.keptBut W' may:=by
 refine World.keptBut_mono (may:=fun _=>False) (fun _ f=>f.elim) (World.keptBut.congr (World.keptBut_refl W _) ?_ ?_ (fun i hi=>h.block i hi))
 ·exact Keep.os h
 ·exact Keep.output h
theorem aY4 {f:FuncId} {fn:Func} {s:ChangeSpec} (hts:∀ t∈fn.params.toList,t=3∨t=22∨t=23) (hvars:s.vars=[]) (hres:fn.resultTypes = #[4])
  (hs:∀ ds:List (DataW H),ds.length=fn.params.size→s.fn H ds={ results:=[.lit (.bool true)],args:=ds }) (hP:∀ xs,ArgsD fn.params.toList xs→APure Tryz.prog f xs (bD true))
  (base:Nat) (args:Array Value) (ds gs:List (DataW H)) (before:List MemPlace)
  (hval:∀ (j:Nat) t v,fn.params[j]?=some t→args[j]?=some v→Value.okWide Tryz.prog W .any base t v)
  (hW:DataW.Whole enc Tryz.prog fn.params.toList s.vars false W args.toList ds gs before)
  (hsz:(DataW.weightsEach Tryz.prog (fn.params.toList ++ s.plain.varTypes Tryz.prog) (ds ++ gs)).all (·≤reachBytes)=true) (hL:laidMetH Tryz.prog laidL W) :
  Calls Tryz.prog f args W fun e W'=>∃ v,e = .returned v∧s.post enc Tryz.prog fn false true false false W args v W':=by
 have hW':=hW
 obtain ⟨p,q,hA,hV,rfl,hfz,hnd⟩:=hW
 rw [hvars] at hV
 obtain ⟨rfl,rfl⟩:=trodVars_none hV
 have hdl:ds.length=fn.params.size:=by have:=(trodAll_length hA).2;simpa using this
 have hw:∀ n∈DataW.weightsEach Tryz.prog fn.params.toList ds,n≤reachBytes:=fun n hn=>by
  have hvt:s.plain.varTypes Tryz.prog=[]:=by simp [DataSpec.varTypes,ChangeSpec.plain,hvars]
  rw [hvt,List.append_nil,List.append_nil] at hsz
  exact of_decide_eq_true (List.all_eq_true.1 hsz n hn)
 obtain ⟨⟨xs,k1,k2⟩,k3⟩:=bb4 hts (fun j t v hj hv=>hval j t v (by simpa using hj) (by simpa using hv)) hA hw
 have hrun:=(hP xs k1).run W (fun _=>False) args.toList k2 (bH5 hL)
 rw [Array.toArray_toList] at hrun
 refine hrun.mono fun e W' ⟨u,he,hu,hex⟩=>?_
 have hu':=hu.val rfl
 subst hu'
 refine ⟨_,he,?_⟩
 have hfn:=hs ds hdl
 have hold:∀ x∈p,(fun b=>decide (b<W.heap.size)) x.block=true:=fun x hx=>by have:=hW'.lt x (by simpa using hx);simpa using this
 have hra:∀ (b:Nat) (sp:Nat→Bool) (hd:Bool),DataW.TrodAll enc Tryz.prog W' b sp hd fn.resultTypes.toList ((Value.bool true).resultList fn.resultTypes.size) (s.fn H (ds ++ [])).results []:=fun b sp hd=>by
  rw [List.append_nil,hfn,hres]
  exact trodAll_cons_mk (shut_bool Tryz.underlying4 _) trodAll_mk0
 have hA1:∀ sp:Nat→Bool,(∀ x∈p,sp x.block=true)→DataW.TrodAll enc Tryz.prog W' 0 sp true fn.params.toList args.toList (s.fn H (ds ++ [])).args p:=fun sp hsp=>by
  rw [List.append_nil,hfn];exact k3 W' hex _ hsp
 have hV1:∀ sp:Nat→Bool,DataW.TrodVars enc Tryz.prog W' sp s.vars (s.fn H (ds ++ [])).vars []:=fun sp=>by
  rw [hvars,List.append_nil,hfn];rfl
 refine ⟨ds,[],p ++ [],[],p,[],hW',hra _ _ _,hA1 _ hold,hV1 _,bV3 hex _,fun _=>?_⟩
 ·refine ⟨ok_one hres rfl (okWide_bool_mk Tryz.underlying4 _),_,_,([] ++ p) ++ [],⟨[] ++ p,[],trodAll_append (hA1 _ (fun _ _=>rfl)) (hra _ _ _),hV1 _,rfl,?_,fun h=>by cases h⟩,fun x hx _=>by simpa using hx⟩
  intro b off hp
  have hp':MemPlace.cell b off∈p ++ []:=by simpa using hp
  rw [hex.frozen (hW'.lt _ hp')]
  exact hfz b off hp'
end
theorem bI9 (os:Os) (args:Array Value):laidMetH Tryz.prog laidL ((World.doorLaid Tryz.prog 76 os).forCall (fun _ _=>0) ⟨#[],args,[]⟩).memory:=
 laidMetH_of_parts3 (fuel:=8) (laidMet_of_run' 8 (by kernel_rfl) (by kernel_rfl)) (by kernel_rfl) (by kernel_rfl)
theorem own:ownKnob Tryz.prog.godebug=none:=by kernel_rfl
end
end Go.Proofs.YtlcfiilejnnlnaaGreatDoor
