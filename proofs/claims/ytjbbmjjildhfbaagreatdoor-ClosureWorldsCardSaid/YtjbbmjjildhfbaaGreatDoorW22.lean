/- A part of the proof: SrcA Lists SrcB. -/
import Derived.Test.YtjbbmjjildhfbaaGreatDoorW21
import Derived.Lib.ItoaLen
import Derived.Lib.LaidTab
import Derived.Test.YtjbbmjjildhfbaaGreatDoorProg
import Derived.Shelf.Abstract
import Derived.Deep.RegionWith
set_option maxRecDepth 100000
set_option maxHeartbeats 4000000
set_option linter.unusedVariables false
set_option linter.unusedSimpArgs false
namespace Go.Proofs.YtjbbmjjildhfbaaGreatDoor
section
open Go.RowKit Go.Shelf Go.Sort
theorem var_ex {w w':World} (he:Ex w w') {P:Program} {n:String} {cs:Array Value} (h:w.var? P n=some cs):w'.var? P n=some cs:=by
 unfold World.var? at h ⊢
 cases hg:P.globalNamed n with
 | none=>simp [hg] at h
 | some g=>
  simp only [hg,Option.bind_some] at h ⊢
  have hlt:g<w.heap.size:=by
   rcases Nat.lt_or_ge g w.heap.size with h' | h'
   ·exact h'
   ·simp [Array.getElem?_eq_none h'] at h
  rw [he.block g hlt]
  exact h
theorem Pow10.ex {w w':World} (h:Pow10 w) (he:Ex w w'):Pow10 w':=var_ex he h
theorem grow_ex (w:World) (k:Nat) (os:Array Obj):Ex w (grow (w.drewN k) os):=
 ⟨rfl,rfl,rfl,by simp [grow,Array.size_append],fun b hb _=>by
  show (w.heap ++ os)[b]?=_
  rw [Array.getElem?_append_left hb]⟩
theorem itoa_intB (n:Int) (hn:I64 n):(Lib.itoa n).length≤intB n:=by
 unfold intB
 split
 ·by_cases hneg:n<0
  ·obtain ⟨u,rfl⟩:∃ u:Nat,n = -(u:Int):=⟨n.natAbs,by omega⟩
   rw [Lib.itoa_neg u (by omega),List.length_cons,Lib.decDigits_length]
   have:=aP4 u (by omega)
   omega
  ·obtain ⟨u,rfl⟩:∃ u:Nat,n=u:=⟨n.toNat,by omega⟩
   rw [Lib.itoa_nonneg,Lib.decDigits_length]
   have:=aP4 u (by omega)
   omega
 ·exact Lib.itoa_length_le n hn.1 hn.2
theorem itoa_any (n:Int) (hn:I64 n) (w:World) (hp:Pow10 w) :
  Calls Tryz.prog 167 #[.int .i64 n] w fun e w'=>∃ s:ByteArray,e = .returned (.string s)∧s.size≤intB n∧Ex w w':=by
 refine (Tryz.strconv_Itoa n hn.1 hn.2 w hp).mono ?_
 rintro e w' ⟨rfl,k,os,rfl⟩
 refine ⟨_,rfl,?_,grow_ex w k os⟩
 have:=itoa_intB n hn
 simpa [ByteArray.size] using this
def RAny (x:Int ⊕ ByteArray) (vs:List Value):Prop:=
 match x with
 | .inl n=>vs=[.iface 3 (.int .i64 n)]∧I64 n
 | .inr s=>vs=[.iface 9 (.string s)]
def au4:Int ⊕ ByteArray→Nat
 | .inl n=>1+intB n
 | .inr s=>1+s.size
def ab8 (l:List (Int ⊕ ByteArray)):Nat:=(l.map au4).sum
theorem itemsB_take (l:List (Int ⊕ ByteArray)) (j:Nat) (x:Int ⊕ ByteArray) (h:l[j]?=some x):ab8 (l.take (j+1))=ab8 (l.take j)+au4 x:=by
 simp [ab8,List.take_add_one,h,List.sum_append]
theorem bh7 (l:List (Int ⊕ ByteArray)):∀ j,ab8 (l.take j)≤ab8 l:=by
 induction l with
 | nil=>intro j;simp [ab8]
 | cons x l ih=>
  intro j
  cases j with
  | zero=>simp [ab8]
  | succ j=>have:=ih j;simp only [ab8,List.take_succ_cons,List.map_cons,List.sum_cons] at *;omega
theorem Wrote.ex {w wr w':World} {b n n':Nat} {O:Option Nat} (he:Ex w wr) (hb:Bld wr w.heap.size b n O) (hw:Wrote wr w' w.heap.size b n' O):Ex w w':=by
 obtain ⟨hk,_⟩:=hw
 obtain ⟨l,p,v,_,_,hB,_,hown,hO,_⟩:=hb
 refine ⟨hk.os.trans (Keep.os he),hk.tape.trans (Keep.tape he),hk.output.trans (Keep.output he),Nat.le_trans he.size hk.size,fun x hx _=>?_⟩
 rw [hk.block x (Nat.lt_of_lt_of_le hx he.size) ?_]
 ·exact he.block x hx
 ·rintro (rfl|h)
  ·omega
  ·have:=(hown.lt x (by rw [hO,h])).1;omega
theorem Wrote.bld {w w':World} {B b n:Nat} {O:Option Nat} (hw:Wrote w w' B b n O):∃ O',Bld w' B b n O':=by obtain ⟨_,O',h,_⟩:=hw;exact ⟨O',h⟩
theorem any_cells {w w':World} {F:Nat→Prop} {xs:List (Int ⊕ ByteArray)} {a:Option Addr} {cap:Nat} (h:Row 1 RAny w F xs a cap) (hex:Same F w w') {i:Nat} (hi:i<xs.length) :
  ∃ x b off v,Hid (xs[i]?=some x)∧a=some ⟨b,off,none⟩∧F b∧w'.cell? ⟨b,off+i,none⟩=some v∧Hid (RAny x [v]):=by
 obtain ⟨b,off,ha,hb,vs,hl,hr,hc⟩:=h.at_ i xs[i] (List.getElem?_eq_getElem hi)
 obtain ⟨v,rfl⟩:∃ v,vs=[v]:=by
  match vs,hl with
  | [v],_=>exact ⟨v,rfl⟩
 exact ⟨xs[i],b,off,v,Lib.hid (List.getElem?_eq_getElem hi),ha,hb,hex.cell (p:=⟨b,off+i,none⟩) (by have:=hc 0 _ rfl;simpa using this) hb,hr⟩
theorem ta_ii (q:Int) (w:World):(Instr.typeAssert (.iface 3 (.int .i64 q)) 20 3 true).run Tryz.prog w = .ok (.tuple #[.int .i64 q,.bool true]) w:=by kernel_rfl
theorem ta_si (q:ByteArray) (w:World):(Instr.typeAssert (.iface 9 (.string q)) 20 3 true).run Tryz.prog w = .ok (.tuple #[.int .i64 0,.bool false]) w:=by kernel_rfl
theorem ta_ss (q:ByteArray) (w:World):(Instr.typeAssert (.iface 9 (.string q)) 20 9 true).run Tryz.prog w = .ok (.tuple #[.string q,.bool true]) w:=by kernel_rfl
theorem ba2 (word:ByteArray) (items:List (Int ⊕ ByteArray)) (w:World) {F:Nat→Prop} {a:Option Addr} {cap:Nat} (h:Row 1 RAny w F items a cap) (hp:Pow10 w) (hl:items.length≤1000000) (hm:word.size+ab8 items≤1000000000) :
  Calls Tryz.prog 139 #[.string word,.slice a items.length cap] w fun e w'=>∃ s:ByteArray,e = .returned (.string s)∧s.size≤word.size+ab8 items+1∧Ex w w':=by
 have t1:=ta_ii
 have t2:=ta_si
 have t3:=ta_ss
 have hbd:=Bld.fresh w w.heap.size (Nat.le_refl _)
 go_enter Tryz.func139,Tryz.ntmps139
 go_wp2_with (go_at_call 138;refine (aj6 hbd _ (by omega)).mono ?_;rintro e w1 ⟨rfl,hwr⟩)
 have hex:=Wrote.ex (Ex.refl w).alloc hbd hwr
 obtain ⟨O,hbd1⟩:=hwr.bld
 clear hwr hbd
 rw [Nat.zero_add] at hbd1
 go_wp2
 go_loopw [14] (fun i wr=>∃ (j n:Nat) (O:Option Nat),j≤items.length∧i = .int .i64 j∧Ex w wr∧Bld wr w.heap.size w.heap.size n O∧n≤word.size+ab8 (items.take j)) (fun i _=>items.length - (intOf i).toNat)
 case atStart=>exact ⟨0,_,O,by omega,rfl,hex,hbd1,by simp [ab8]⟩
 case round=>
  obtain ⟨j,n,O',hj,rfl,hex',hbd,hn⟩:=hrel
  clear hex hbd1
  have hle:=bh7 items j
  by_cases hlt:j<items.length
  ·obtain ⟨x,b,off,v,hx,rfl,_,c0,hr⟩:=any_cells h hex'.same hlt
   have Ht:=Lib.hid (itemsB_take items j x hx.out)
   have hle1:=bh7 items (j+1)
   have Hle1:=Lib.hid hle1
   clear hle1
   cases x with
   | inl q=>
    obtain ⟨hv,hq⟩:=hr.out
    cases hv
    clear hr
    have hsum:n+1+intB q≤1000000000:=by have h1:=Ht.out;have h2:=Hle1.out;simp only [au4] at h1;omega
    go_wp2_with fail
    refine (aM9 hbd (by omega)).mono ?_
    rintro e w1 ⟨rfl,hwr⟩
    have hex1:=Wrote.ex hex' hbd hwr
    obtain ⟨O1,hbd1⟩:=hwr.bld
    clear hwr c0
    go_wp2_with fail
    refine (itoa_any q hq _ (hp.ex hex1)).mono ?_
    rintro e w2 ⟨s,rfl,hs,he2⟩
    have hbd2:=hbd1.ex he2
    have hex2:=hex1.trans he2
    clear hbd1 he2
    go_wp2_with fail
    refine (aj6 hbd2 s (by omega)).mono ?_
    rintro e w3 ⟨rfl,hwr⟩
    have hex3:=Wrote.ex hex2 hbd2 hwr
    obtain ⟨O3,hbd3⟩:=hwr.bld
    clear hwr hbd2
    go_wp2
    go_roundw
    case rel=>exact ⟨j+1,_,O3,by omega,by go_num,hex3,hbd3,by have h1:=Ht.out;simp only [au4] at h1;omega⟩
    case measure=>simp [intOf];omega
   | inr q=>
    have hv:=hr.out
    cases hv
    clear hr
    have hsum:n+1+q.size≤1000000000:=by have h1:=Ht.out;have h2:=Hle1.out;simp only [au4] at h1;omega
    go_wp2_with fail
    refine (aM9 hbd (by omega)).mono ?_
    rintro e w1 ⟨rfl,hwr⟩
    have hex1:=Wrote.ex hex' hbd hwr
    obtain ⟨O1,hbd1⟩:=hwr.bld
    clear hwr c0
    go_wp2_with fail
    refine (aj6 hbd1 q (by omega)).mono ?_
    rintro e w3 ⟨rfl,hwr⟩
    have hex3:=Wrote.ex hex1 hbd1 hwr
    obtain ⟨O3,hbd3⟩:=hwr.bld
    clear hwr hbd1
    go_wp2
    go_roundw
    case rel=>exact ⟨j+1,_,O3,by omega,by go_num,hex3,hbd3,by have h1:=Ht.out;simp only [au4] at h1;omega⟩
    case measure=>simp [intOf];omega
  ·have hj':items.take j=items:=List.take_of_length_le (by omega)
   rw [hj'] at hn
   clear hj'
   obtain ⟨l,p,v,hl',hpp,hB,hbk,hown,hO,hne⟩:=hbd
   have hib:Lib.IsBuilder 206 5 w.heap.size w.heap.size (Lib.byteCells l) wr:=by
    rcases hpp with rfl|rfl
    ·exact .inl ⟨hB,v,hbk,by rw [al9];exact hown,by rw [hO];exact hne⟩
    ·exact .inr ⟨hB,v,hbk,by rw [al9];exact hown,by rw [hO];exact hne⟩
   have HSt:=Lib.hid (Tryz.Builder_String_any w.heap.size w.heap.size l wr hib (by have:=hex'.size;omega))
   have HL:=Lib.hid hl'
   clear hbk hown hO hib hpp hl'
   have hsz:l.length≤1000000000:=by have:=HL.out;omega
   go_wp2_with fail
   refine HSt.out.mono ?_
   rintro e w2 ⟨rfl,hb2⟩
   have hex2:Ex w w2:=Ex.of_below ⟨hb2.os.trans (Keep.os hex'),hb2.tape.trans (Keep.tape hex'),hb2.output.trans (Keep.output hex'),Nat.le_trans hex'.size hb2.size,fun k hk=>(hb2.block k hk).trans (hex'.block k hk)⟩
   have hss:(⟨l.toArray⟩:ByteArray).size=l.length:=by simp [ByteArray.size]
   generalize (⟨l.toArray⟩:ByteArray)=st at hss ⊢
   have HSS:=Lib.hid hss
   have hst:st.size≤1000000000:=by omega
   clear hss
   go_wp2
   go_ret
   refine ⟨_,rfl,?_,hex2⟩
   rw [ByteArray.size_append,HSS.out]
   have:=HL.out
   show l.length+1≤_
   omega
end
section
open Go.RowKit Go.Shelf
set_option linter.unusedVariables false
structure Asks {α:Type} (P:Program) (g:FuncId) (cb:Array Value) (w:World) (arg:List Value→Value) (R:α→List Value→Prop) (xs:List α) (p:α→Bool):Prop where
 enters:∀ (args:Array Value) (w:World),(callFunc g args).run P w = .ok (.enter g args) w
 says:∀ x vs W,x∈xs→R x vs→Ex w W→Calls P g (#[arg vs] ++ cb) W fun e W'=>e = .returned (.bool (p x))∧Ex W W'
def ah9 (vs:List Value):Value:=.agg vs.toArray
def au3 (vs:List Value):Value:=vs.headD undef
theorem aD5 {α:Type} {xs:List α} {p:α→Bool} {j:Nat} {x:α} (hno:∀ i y,i<j→xs[i]?=some y→p y=false) (hx:xs[j]?=some x) (hp:p x=false) :
  ∀ i y,i<j+1→xs[i]?=some y→p y=false:=fun i y hi hy=>by
 rcases Nat.lt_or_ge i j with h|h
 ·exact hno i y h hy
 ·obtain rfl:i=j:=by omega
  rw [hx] at hy;cases hy;exact hp
theorem am5 {α:Type} (p:α→Bool) (xs:List α):(!xs.any fun x=>!p x)=xs.all p:=by
 induction xs with
 | nil=>rfl
 | cons x xs ih=>simp only [List.any_cons,List.all_cons,← ih];cases p x <;> simp
theorem aD6 {α:Type} {xs:List α} {p:α→Bool} {j:Nat} (hno:∀ i y,i<j→xs[i]?=some y→p y=false) (hj:xs.length≤j):idx p xs = -1:=
 ap2 (fun i y hy=>hno i y (by have:=(List.getElem?_eq_some_iff.1 hy).1;omega) hy)
theorem Asks.mono {α:Type} {P:Program} {g:FuncId} {cb:Array Value} {w w':World} {arg:List Value→Value} {R:α→List Value→Prop} {xs:List α} {p:α→Bool} (h:Asks P g cb w arg R xs p) (hx:Ex w w'):Asks P g cb w' arg R xs p:=
 ⟨h.enters,fun x vs W hm hr hw=>h.says x vs W hm hr (hx.trans hw)⟩
theorem bh3 {w w' w0:World} {F F0:Nat→Prop} {xs:List Knd} {a:Option Addr} {cap:Nat} (h:Row 4 (RKnd w0 F0) w F xs a cap) (hex:Same F w w') {i:Nat} (hi:i<xs.length) :
  ∃ x b off fa fc,Hid (xs[i]?=some x)∧a=some ⟨b,off,none⟩∧F b∧w'.cell? ⟨b,off+i*4,none⟩=some (.string x.name)∧w'.cell? ⟨b,off+i*4+1,none⟩=some (.int .i64 x.lo)∧w'.cell? ⟨b,off+i*4+2,none⟩=some (.int .i64 x.hi)∧w'.cell? ⟨b,off+i*4+3,none⟩=some (.slice fa x.fields.length fc)∧Hid ((RKnd w0 F0) x [.string x.name,.int .i64 x.lo,.int .i64 x.hi,.slice fa x.fields.length fc]):=by
 obtain ⟨b,off,ha,hb,vs,hl,hr,hc⟩:=h.at_ i xs[i] (List.getElem?_eq_getElem hi)
 have hr':=hr
 obtain ⟨fa,fc,rfl,_⟩:=hr
 exact ⟨xs[i],b,off,fa,fc,Lib.hid (List.getElem?_eq_getElem hi),ha,hb,hex.cell (hc 0 _ rfl) hb,hex.cell (hc 1 _ rfl) hb,hex.cell (hc 2 _ rfl) hb,hex.cell (hc 3 _ rfl) hb,hr'⟩
theorem idx_knd {w w0:World} {F F0:Nat→Prop} {xs:List Knd} {a:Option Addr} {cap:Nat} (h:Row 4 (RKnd w0 F0) w F xs a cap) (hl:xs.length≤140737488355328) {g:FuncId} {cb:Array Value} {p:Knd→Bool}
  (hg:Asks Tryz.prog g cb w ah9 (RKnd w0 F0) xs p) :
  Calls Tryz.prog 125 #[.slice a xs.length cap,.func (.func g) #[] cb] w fun e w'=>e = .returned (.int .i64 (idx p xs))∧Ex w w':=by
 have eg:=hg.enters
 go_enter Tryz.func125,Tryz.ntmps125
 go_wp2
 go_loopw [8] (fun i wr=>∃ j:Nat,j≤xs.length∧i = .int .i64 j∧Hid (∀ i y,i<j→xs[i]?=some y→p y=false)∧Ex w wr) (fun i _=>xs.length - (intOf i).toNat)
 case atStart=>exact ⟨0,by omega,rfl,fun i y h=>by omega,Ex.refl _⟩
 case round=>
  obtain ⟨j,hj,rfl,hno,hex⟩:=hrel
  by_cases hlt:j<xs.length
  ·obtain ⟨x,b,off,fa,fc,hx,rfl,_,c0,c1,c2,c3,hr⟩:=bh3 h hex.same hlt
   have hcall:=hg.says x _ wr (List.mem_of_getElem? hx.out) hr.out hex
   simp only [ah9,au3,List.headD] at hcall
   cases hp:p x with
   | true=>
    have hi:=ae6 hx.out hp hno.out
    rw [hp] at hcall
    have Hi:=Lib.hid hi;clear hi hp
    go_wp2_with (go_at_fn g;refine hcall.mono ?_;rintro e w' ⟨rfl,hb'⟩)
    go_ret
    exact ⟨by rw [Hi.out];rfl,hex.trans hb'⟩
   | false=>
    have hi:=aD5 hno.out hx.out hp
    rw [hp] at hcall
    have Hi:=Lib.hid hi;clear hi hp hno
    go_wp2_with (go_at_fn g;refine hcall.mono ?_;rintro e w' ⟨rfl,hb'⟩)
    go_roundw
    case rel=>exact ⟨j+1,by omega,by go_num,Hi,hex.trans hb'⟩
    case measure=>simp [intOf];omega
  ·have hi:idx p xs = -1:=aD6 hno.out (by omega)
   have Hi:=Lib.hid hi;clear hi hno
   go_wp2_with fail
   go_ret
   exact ⟨by rw [Hi.out];rfl,hex⟩
theorem contains_knd {w w0:World} {F F0:Nat→Prop} {xs:List Knd} {a:Option Addr} {cap:Nat} (h:Row 4 (RKnd w0 F0) w F xs a cap) (hl:xs.length≤140737488355328) {g:FuncId} {cb:Array Value} {p:Knd→Bool}
  (hg:Asks Tryz.prog g cb w ah9 (RKnd w0 F0) xs p) :
  Calls Tryz.prog 127 #[.slice a xs.length cap,.func (.func g) #[] cb] w fun e w'=>e = .returned (.bool (xs.any p))∧Ex w w':=by
 have hc:=idx_knd h hl hg
 have Ha:=Lib.hid (ar3 p xs)
 go_enter Tryz.func127,Tryz.ntmps127
 go_wp2_with (go_at_call 125;refine hc.mono ?_;rintro e w' ⟨rfl,hb'⟩)
 go_ret
 exact ⟨by rw [← Ha.out];rfl,hb'⟩
theorem all1_knd {w w0:World} {F0:Nat→Prop} {xs:List Knd} {g:FuncId} {cb:Array Value} {p:Knd→Bool} {B:Nat} (hB:w.cell? ⟨B,0,none⟩=some (.func (.func g) #[] cb))
  (hg:Asks Tryz.prog g cb w ah9 (RKnd w0 F0) xs p):Asks Tryz.prog 128 #[.pointer (some ⟨B,0,none⟩)] w ah9 (RKnd w0 F0) xs (fun x=>!p x):=by
 refine ⟨enters_of Tryz.func128 (by kernel_rfl) rfl,fun x vs W hm hr hW=>?_⟩
 have eg:=hg.enters
 have c0:=hW.cell hB
 have lB:B<W.heap.size:=World.block_lt_of_cell? _ _ c0
 have hr':=hr
 obtain ⟨fa,fc,rfl,_⟩:=hr
 have hcall:=fun W' (hx:Ex W W')=>hg.says x _ W' hm hr' (hW.trans hx)
 simp only [ah9,au3,List.headD,Array.append_empty] at hcall ⊢
 have Hc:=Lib.hid hcall;clear hcall
 show Calls _ _ #[_,_] _ _
 go_enter Tryz.func128,Tryz.ntmps128
 go_wp2_with (go_at_fn g;refine (Hc.out _ (by first|exact Ex.refl _|exact (Ex.refl _).alloc)).mono ?_;rintro e w' ⟨rfl,hb'⟩)
 go_ret
 exact ⟨rfl,by first|exact hb' | exact (Ex.refl _).alloc.trans hb'⟩
theorem all_knd {w w0:World} {F F0:Nat→Prop} {xs:List Knd} {a:Option Addr} {cap:Nat} (h:Row 4 (RKnd w0 F0) w F xs a cap) (hl:xs.length≤140737488355328) {g:FuncId} {cb:Array Value} {p:Knd→Bool}
  (hg:Asks Tryz.prog g cb w ah9 (RKnd w0 F0) xs p) :
  Calls Tryz.prog 108 #[.slice a xs.length cap,.func (.func g) #[] cb] w fun e w'=>e = .returned (.bool (xs.all p))∧Ex w w':=by
 have hcall:=fun B (hB:(w.alloc (.cells #[.func (.func g) #[] cb] 187)).cell? ⟨B,0,none⟩=some (.func (.func g) #[] cb))=>contains_knd (h.keep (w':=w.alloc (.cells #[.func (.func g) #[] cb] 187)) (Ex.refl w).alloc.same (fun _ h=>h) (fun _ _ _ h=>h)) hl (all1_knd hB (hg.mono (Ex.refl w).alloc))
 have Hc:=Lib.hid hcall;clear hcall
 have Ha:Hid ((!xs.any fun x=>!p x)=xs.all p):=Lib.hid (am5 p xs)
 go_enter Tryz.func108,Tryz.ntmps108
 go_wp2_with (go_at_call 127;refine (Hc.out _ (by simp)).mono ?_;rintro e w' ⟨rfl,hb'⟩)
 go_ret
 exact ⟨by rw [← Ha.out];rfl,(Ex.refl _).alloc.trans hb'⟩
theorem bh1 {w w' w0:World} {F F0:Nat→Prop} {xs:List Lif} {a:Option Addr} {cap:Nat} (h:Row 3 (RLif w0 F0) w F xs a cap) (hex:Same F w w') {i:Nat} (hi:i<xs.length) :
  ∃ x b off sa sc ma mc,Hid (xs[i]?=some x)∧a=some ⟨b,off,none⟩∧F b∧w'.cell? ⟨b,off+i*3,none⟩=some (.string x.name)∧w'.cell? ⟨b,off+i*3+1,none⟩=some (.slice sa x.states.length sc)∧w'.cell? ⟨b,off+i*3+2,none⟩=some (.slice ma x.moves.length mc)∧Hid ((RLif w0 F0) x [.string x.name,.slice sa x.states.length sc,.slice ma x.moves.length mc]):=by
 obtain ⟨b,off,ha,hb,vs,hl,hr,hc⟩:=h.at_ i xs[i] (List.getElem?_eq_getElem hi)
 have hr':=hr
 obtain ⟨sa,sc,ma,mc,rfl,_⟩:=hr
 exact ⟨xs[i],b,off,sa,sc,ma,mc,Lib.hid (List.getElem?_eq_getElem hi),ha,hb,hex.cell (hc 0 _ rfl) hb,hex.cell (hc 1 _ rfl) hb,hex.cell (hc 2 _ rfl) hb,hr'⟩
theorem idx_lif {w w0:World} {F F0:Nat→Prop} {xs:List Lif} {a:Option Addr} {cap:Nat} (h:Row 3 (RLif w0 F0) w F xs a cap) (hl:xs.length≤140737488355328) {g:FuncId} {cb:Array Value} {p:Lif→Bool}
  (hg:Asks Tryz.prog g cb w ah9 (RLif w0 F0) xs p) :
  Calls Tryz.prog 115 #[.slice a xs.length cap,.func (.func g) #[] cb] w fun e w'=>e = .returned (.int .i64 (idx p xs))∧Ex w w':=by
 have eg:=hg.enters
 go_enter Tryz.func115,Tryz.ntmps115
 go_wp2
 go_loopw [8] (fun i wr=>∃ j:Nat,j≤xs.length∧i = .int .i64 j∧Hid (∀ i y,i<j→xs[i]?=some y→p y=false)∧Ex w wr) (fun i _=>xs.length - (intOf i).toNat)
 case atStart=>exact ⟨0,by omega,rfl,fun i y h=>by omega,Ex.refl _⟩
 case round=>
  obtain ⟨j,hj,rfl,hno,hex⟩:=hrel
  by_cases hlt:j<xs.length
  ·obtain ⟨x,b,off,sa,sc,ma,mc,hx,rfl,_,c0,c1,c2,hr⟩:=bh1 h hex.same hlt
   have hcall:=hg.says x _ wr (List.mem_of_getElem? hx.out) hr.out hex
   simp only [ah9,au3,List.headD] at hcall
   cases hp:p x with
   | true=>
    have hi:=ae6 hx.out hp hno.out
    rw [hp] at hcall
    have Hi:=Lib.hid hi;clear hi hp
    go_wp2_with (go_at_fn g;refine hcall.mono ?_;rintro e w' ⟨rfl,hb'⟩)
    go_ret
    exact ⟨by rw [Hi.out];rfl,hex.trans hb'⟩
   | false=>
    have hi:=aD5 hno.out hx.out hp
    rw [hp] at hcall
    have Hi:=Lib.hid hi;clear hi hp hno
    go_wp2_with (go_at_fn g;refine hcall.mono ?_;rintro e w' ⟨rfl,hb'⟩)
    go_roundw
    case rel=>exact ⟨j+1,by omega,by go_num,Hi,hex.trans hb'⟩
    case measure=>simp [intOf];omega
  ·have hi:idx p xs = -1:=aD6 hno.out (by omega)
   have Hi:=Lib.hid hi;clear hi hno
   go_wp2_with fail
   go_ret
   exact ⟨by rw [Hi.out];rfl,hex⟩
theorem contains_lif {w w0:World} {F F0:Nat→Prop} {xs:List Lif} {a:Option Addr} {cap:Nat} (h:Row 3 (RLif w0 F0) w F xs a cap) (hl:xs.length≤140737488355328) {g:FuncId} {cb:Array Value} {p:Lif→Bool}
  (hg:Asks Tryz.prog g cb w ah9 (RLif w0 F0) xs p) :
  Calls Tryz.prog 83 #[.slice a xs.length cap,.func (.func g) #[] cb] w fun e w'=>e = .returned (.bool (xs.any p))∧Ex w w':=by
 have hc:=idx_lif h hl hg
 have Ha:=Lib.hid (ar3 p xs)
 go_enter Tryz.func83,Tryz.ntmps83
 go_wp2_with (go_at_call 115;refine hc.mono ?_;rintro e w' ⟨rfl,hb'⟩)
 go_ret
 exact ⟨by rw [← Ha.out];rfl,hb'⟩
theorem all1_lif {w w0:World} {F0:Nat→Prop} {xs:List Lif} {g:FuncId} {cb:Array Value} {p:Lif→Bool} {B:Nat} (hB:w.cell? ⟨B,0,none⟩=some (.func (.func g) #[] cb))
  (hg:Asks Tryz.prog g cb w ah9 (RLif w0 F0) xs p):Asks Tryz.prog 133 #[.pointer (some ⟨B,0,none⟩)] w ah9 (RLif w0 F0) xs (fun x=>!p x):=by
 refine ⟨enters_of Tryz.func133 (by kernel_rfl) rfl,fun x vs W hm hr hW=>?_⟩
 have eg:=hg.enters
 have c0:=hW.cell hB
 have lB:B<W.heap.size:=World.block_lt_of_cell? _ _ c0
 have hr':=hr
 obtain ⟨sa,sc,ma,mc,rfl,_⟩:=hr
 have hcall:=fun W' (hx:Ex W W')=>hg.says x _ W' hm hr' (hW.trans hx)
 simp only [ah9,au3,List.headD,Array.append_empty] at hcall ⊢
 have Hc:=Lib.hid hcall;clear hcall
 show Calls _ _ #[_,_] _ _
 go_enter Tryz.func133,Tryz.ntmps133
 go_wp2_with (go_at_fn g;refine (Hc.out _ (by first|exact Ex.refl _|exact (Ex.refl _).alloc)).mono ?_;rintro e w' ⟨rfl,hb'⟩)
 go_ret
 exact ⟨rfl,by first|exact hb' | exact (Ex.refl _).alloc.trans hb'⟩
theorem all_lif {w w0:World} {F F0:Nat→Prop} {xs:List Lif} {a:Option Addr} {cap:Nat} (h:Row 3 (RLif w0 F0) w F xs a cap) (hl:xs.length≤140737488355328) {g:FuncId} {cb:Array Value} {p:Lif→Bool}
  (hg:Asks Tryz.prog g cb w ah9 (RLif w0 F0) xs p) :
  Calls Tryz.prog 110 #[.slice a xs.length cap,.func (.func g) #[] cb] w fun e w'=>e = .returned (.bool (xs.all p))∧Ex w w':=by
 have hcall:=fun B (hB:(w.alloc (.cells #[.func (.func g) #[] cb] 153)).cell? ⟨B,0,none⟩=some (.func (.func g) #[] cb))=>contains_lif (h.keep (w':=w.alloc (.cells #[.func (.func g) #[] cb] 153)) (Ex.refl w).alloc.same (fun _ h=>h) (fun _ _ _ h=>h)) hl (all1_lif hB (hg.mono (Ex.refl w).alloc))
 have Hc:=Lib.hid hcall;clear hcall
 have Ha:Hid ((!xs.any fun x=>!p x)=xs.all p):=Lib.hid (am5 p xs)
 go_enter Tryz.func110,Tryz.ntmps110
 go_wp2_with (go_at_call 83;refine (Hc.out _ (by simp)).mono ?_;rintro e w' ⟨rfl,hb'⟩)
 go_ret
 exact ⟨by rw [← Ha.out];rfl,(Ex.refl _).alloc.trans hb'⟩
theorem bd9 {w w':World} {F:Nat→Prop} {xs:List Rul} {a:Option Addr} {cap:Nat} (h:Row 5 RRul w F xs a cap) (hex:Same F w w') {i:Nat} (hi:i<xs.length) :
  ∃ x b off,Hid (xs[i]?=some x)∧a=some ⟨b,off,none⟩∧F b∧w'.cell? ⟨b,off+i*5,none⟩=some (.string x.name)∧w'.cell? ⟨b,off+i*5+1,none⟩=some (.string x.kind)∧w'.cell? ⟨b,off+i*5+2,none⟩=some (.string x.a)∧w'.cell? ⟨b,off+i*5+3,none⟩=some (.string x.b)∧w'.cell? ⟨b,off+i*5+4,none⟩=some (.int .i64 x.n)∧Hid (RRul x [.string x.name,.string x.kind,.string x.a,.string x.b,.int .i64 x.n]):=by
 obtain ⟨b,off,ha,hb,vs,hl,hr,hc⟩:=h.at_ i xs[i] (List.getElem?_eq_getElem hi)
 have hr':=hr
 obtain ⟨rfl,_⟩:=hr
 exact ⟨xs[i],b,off,Lib.hid (List.getElem?_eq_getElem hi),ha,hb,hex.cell (hc 0 _ rfl) hb,hex.cell (hc 1 _ rfl) hb,hex.cell (hc 2 _ rfl) hb,hex.cell (hc 3 _ rfl) hb,hex.cell (hc 4 _ rfl) hb,hr'⟩
theorem idx_rul {w:World} {F:Nat→Prop} {xs:List Rul} {a:Option Addr} {cap:Nat} (h:Row 5 RRul w F xs a cap) (hl:xs.length≤140737488355328) {g:FuncId} {cb:Array Value} {p:Rul→Bool}
  (hg:Asks Tryz.prog g cb w ah9 RRul xs p) :
  Calls Tryz.prog 143 #[.slice a xs.length cap,.func (.func g) #[] cb] w fun e w'=>e = .returned (.int .i64 (idx p xs))∧Ex w w':=by
 have eg:=hg.enters
 go_enter Tryz.func143,Tryz.ntmps143
 go_wp2
 go_loopw [8] (fun i wr=>∃ j:Nat,j≤xs.length∧i = .int .i64 j∧Hid (∀ i y,i<j→xs[i]?=some y→p y=false)∧Ex w wr) (fun i _=>xs.length - (intOf i).toNat)
 case atStart=>exact ⟨0,by omega,rfl,fun i y h=>by omega,Ex.refl _⟩
 case round=>
  obtain ⟨j,hj,rfl,hno,hex⟩:=hrel
  by_cases hlt:j<xs.length
  ·obtain ⟨x,b,off,hx,rfl,_,c0,c1,c2,c3,c4,hr⟩:=bd9 h hex.same hlt
   have hcall:=hg.says x _ wr (List.mem_of_getElem? hx.out) hr.out hex
   simp only [ah9,au3,List.headD] at hcall
   cases hp:p x with
   | true=>
    have hi:=ae6 hx.out hp hno.out
    rw [hp] at hcall
    have Hi:=Lib.hid hi;clear hi hp
    go_wp2_with (go_at_fn g;refine hcall.mono ?_;rintro e w' ⟨rfl,hb'⟩)
    go_ret
    exact ⟨by rw [Hi.out];rfl,hex.trans hb'⟩
   | false=>
    have hi:=aD5 hno.out hx.out hp
    rw [hp] at hcall
    have Hi:=Lib.hid hi;clear hi hp hno
    go_wp2_with (go_at_fn g;refine hcall.mono ?_;rintro e w' ⟨rfl,hb'⟩)
    go_roundw
    case rel=>exact ⟨j+1,by omega,by go_num,Hi,hex.trans hb'⟩
    case measure=>simp [intOf];omega
  ·have hi:idx p xs = -1:=aD6 hno.out (by omega)
   have Hi:=Lib.hid hi;clear hi hno
   go_wp2_with fail
   go_ret
   exact ⟨by rw [Hi.out];rfl,hex⟩
theorem contains_rul {w:World} {F:Nat→Prop} {xs:List Rul} {a:Option Addr} {cap:Nat} (h:Row 5 RRul w F xs a cap) (hl:xs.length≤140737488355328) {g:FuncId} {cb:Array Value} {p:Rul→Bool}
  (hg:Asks Tryz.prog g cb w ah9 RRul xs p) :
  Calls Tryz.prog 116 #[.slice a xs.length cap,.func (.func g) #[] cb] w fun e w'=>e = .returned (.bool (xs.any p))∧Ex w w':=by
 have hc:=idx_rul h hl hg
 have Ha:=Lib.hid (ar3 p xs)
 go_enter Tryz.func116,Tryz.ntmps116
 go_wp2_with (go_at_call 143;refine hc.mono ?_;rintro e w' ⟨rfl,hb'⟩)
 go_ret
 exact ⟨by rw [← Ha.out];rfl,hb'⟩
theorem all1_rul {w:World} {xs:List Rul} {g:FuncId} {cb:Array Value} {p:Rul→Bool} {B:Nat} (hB:w.cell? ⟨B,0,none⟩=some (.func (.func g) #[] cb))
  (hg:Asks Tryz.prog g cb w ah9 RRul xs p):Asks Tryz.prog 137 #[.pointer (some ⟨B,0,none⟩)] w ah9 RRul xs (fun x=>!p x):=by
 refine ⟨enters_of Tryz.func137 (by kernel_rfl) rfl,fun x vs W hm hr hW=>?_⟩
 have eg:=hg.enters
 have c0:=hW.cell hB
 have lB:B<W.heap.size:=World.block_lt_of_cell? _ _ c0
 have hr':=hr
 obtain ⟨rfl,_⟩:=hr
 have hcall:=fun W' (hx:Ex W W')=>hg.says x _ W' hm hr' (hW.trans hx)
 simp only [ah9,au3,List.headD,Array.append_empty] at hcall ⊢
 have Hc:=Lib.hid hcall;clear hcall
 show Calls _ _ #[_,_] _ _
 go_enter Tryz.func137,Tryz.ntmps137
 go_wp2_with (go_at_fn g;refine (Hc.out _ (by first|exact Ex.refl _|exact (Ex.refl _).alloc)).mono ?_;rintro e w' ⟨rfl,hb'⟩)
 go_ret
 exact ⟨rfl,by first|exact hb' | exact (Ex.refl _).alloc.trans hb'⟩
theorem all_rul {w:World} {F:Nat→Prop} {xs:List Rul} {a:Option Addr} {cap:Nat} (h:Row 5 RRul w F xs a cap) (hl:xs.length≤140737488355328) {g:FuncId} {cb:Array Value} {p:Rul→Bool}
  (hg:Asks Tryz.prog g cb w ah9 RRul xs p) :
  Calls Tryz.prog 112 #[.slice a xs.length cap,.func (.func g) #[] cb] w fun e w'=>e = .returned (.bool (xs.all p))∧Ex w w':=by
 have hcall:=fun B (hB:(w.alloc (.cells #[.func (.func g) #[] cb] 189)).cell? ⟨B,0,none⟩=some (.func (.func g) #[] cb))=>contains_rul (h.keep (w':=w.alloc (.cells #[.func (.func g) #[] cb] 189)) (Ex.refl w).alloc.same (fun _ h=>h) (fun _ _ _ h=>h)) hl (all1_rul hB (hg.mono (Ex.refl w).alloc))
 have Hc:=Lib.hid hcall;clear hcall
 have Ha:Hid ((!xs.any fun x=>!p x)=xs.all p):=Lib.hid (am5 p xs)
 go_enter Tryz.func112,Tryz.ntmps112
 go_wp2_with (go_at_call 116;refine (Hc.out _ (by simp)).mono ?_;rintro e w' ⟨rfl,hb'⟩)
 go_ret
 exact ⟨by rw [← Ha.out];rfl,(Ex.refl _).alloc.trans hb'⟩
theorem fld_cells {w w' w0:World} {F F0:Nat→Prop} {xs:List Fld} {a:Option Addr} {cap:Nat} (h:Row 8 (RFld w0 F0) w F xs a cap) (hex:Same F w w') {i:Nat} (hi:i<xs.length) :
  ∃ x b off wa wc ga gc,Hid (xs[i]?=some x)∧a=some ⟨b,off,none⟩∧F b∧w'.cell? ⟨b,off+i*8,none⟩=some (.string x.name)∧w'.cell? ⟨b,off+i*8+1,none⟩=some (.string x.of)∧w'.cell? ⟨b,off+i*8+2,none⟩=some (.string x.up)∧w'.cell? ⟨b,off+i*8+3,none⟩=some (.int .i64 x.kind)∧w'.cell? ⟨b,off+i*8+4,none⟩=some (.int .i64 x.lo)∧w'.cell? ⟨b,off+i*8+5,none⟩=some (.int .i64 x.hi)∧w'.cell? ⟨b,off+i*8+6,none⟩=some (.slice wa x.words.length wc)∧w'.cell? ⟨b,off+i*8+7,none⟩=some (.slice ga x.weights.length gc)∧Hid ((RFld w0 F0) x [.string x.name,.string x.of,.string x.up,.int .i64 x.kind,.int .i64 x.lo,.int .i64 x.hi,.slice wa x.words.length wc,.slice ga x.weights.length gc]):=by
 obtain ⟨b,off,ha,hb,vs,hl,hr,hc⟩:=h.at_ i xs[i] (List.getElem?_eq_getElem hi)
 have hr':=hr
 obtain ⟨wa,wc,ga,gc,rfl,_⟩:=hr
 exact ⟨xs[i],b,off,wa,wc,ga,gc,Lib.hid (List.getElem?_eq_getElem hi),ha,hb,hex.cell (hc 0 _ rfl) hb,hex.cell (hc 1 _ rfl) hb,hex.cell (hc 2 _ rfl) hb,hex.cell (hc 3 _ rfl) hb,hex.cell (hc 4 _ rfl) hb,hex.cell (hc 5 _ rfl) hb,hex.cell (hc 6 _ rfl) hb,hex.cell (hc 7 _ rfl) hb,hr'⟩
theorem idx_fld {w w0:World} {F F0:Nat→Prop} {xs:List Fld} {a:Option Addr} {cap:Nat} (h:Row 8 (RFld w0 F0) w F xs a cap) (hl:xs.length≤140737488355328) {g:FuncId} {cb:Array Value} {p:Fld→Bool}
  (hg:Asks Tryz.prog g cb w ah9 (RFld w0 F0) xs p) :
  Calls Tryz.prog 104 #[.slice a xs.length cap,.func (.func g) #[] cb] w fun e w'=>e = .returned (.int .i64 (idx p xs))∧Ex w w':=by
 have eg:=hg.enters
 go_enter Tryz.func104,Tryz.ntmps104
 go_wp2
 go_loopw [8] (fun i wr=>∃ j:Nat,j≤xs.length∧i = .int .i64 j∧Hid (∀ i y,i<j→xs[i]?=some y→p y=false)∧Ex w wr) (fun i _=>xs.length - (intOf i).toNat)
 case atStart=>exact ⟨0,by omega,rfl,fun i y h=>by omega,Ex.refl _⟩
 case round=>
  obtain ⟨j,hj,rfl,hno,hex⟩:=hrel
  by_cases hlt:j<xs.length
  ·obtain ⟨x,b,off,wa,wc,ga,gc,hx,rfl,_,c0,c1,c2,c3,c4,c5,c6,c7,hr⟩:=fld_cells h hex.same hlt
   have hcall:=hg.says x _ wr (List.mem_of_getElem? hx.out) hr.out hex
   simp only [ah9,au3,List.headD] at hcall
   cases hp:p x with
   | true=>
    have hi:=ae6 hx.out hp hno.out
    rw [hp] at hcall
    have Hi:=Lib.hid hi;clear hi hp
    go_wp2_with (go_at_fn g;refine hcall.mono ?_;rintro e w' ⟨rfl,hb'⟩)
    go_ret
    exact ⟨by rw [Hi.out];rfl,hex.trans hb'⟩
   | false=>
    have hi:=aD5 hno.out hx.out hp
    rw [hp] at hcall
    have Hi:=Lib.hid hi;clear hi hp hno
    go_wp2_with (go_at_fn g;refine hcall.mono ?_;rintro e w' ⟨rfl,hb'⟩)
    go_roundw
    case rel=>exact ⟨j+1,by omega,by go_num,Hi,hex.trans hb'⟩
    case measure=>simp [intOf];omega
  ·have hi:idx p xs = -1:=aD6 hno.out (by omega)
   have Hi:=Lib.hid hi;clear hi hno
   go_wp2_with fail
   go_ret
   exact ⟨by rw [Hi.out];rfl,hex⟩
theorem contains_fld {w w0:World} {F F0:Nat→Prop} {xs:List Fld} {a:Option Addr} {cap:Nat} (h:Row 8 (RFld w0 F0) w F xs a cap) (hl:xs.length≤140737488355328) {g:FuncId} {cb:Array Value} {p:Fld→Bool}
  (hg:Asks Tryz.prog g cb w ah9 (RFld w0 F0) xs p) :
  Calls Tryz.prog 156 #[.slice a xs.length cap,.func (.func g) #[] cb] w fun e w'=>e = .returned (.bool (xs.any p))∧Ex w w':=by
 have hc:=idx_fld h hl hg
 have Ha:=Lib.hid (ar3 p xs)
 go_enter Tryz.func156,Tryz.ntmps156
 go_wp2_with (go_at_call 104;refine hc.mono ?_;rintro e w' ⟨rfl,hb'⟩)
 go_ret
 exact ⟨by rw [← Ha.out];rfl,hb'⟩
theorem all1_fld {w w0:World} {F0:Nat→Prop} {xs:List Fld} {g:FuncId} {cb:Array Value} {p:Fld→Bool} {B:Nat} (hB:w.cell? ⟨B,0,none⟩=some (.func (.func g) #[] cb))
  (hg:Asks Tryz.prog g cb w ah9 (RFld w0 F0) xs p):Asks Tryz.prog 157 #[.pointer (some ⟨B,0,none⟩)] w ah9 (RFld w0 F0) xs (fun x=>!p x):=by
 refine ⟨enters_of Tryz.func157 (by kernel_rfl) rfl,fun x vs W hm hr hW=>?_⟩
 have eg:=hg.enters
 have c0:=hW.cell hB
 have lB:B<W.heap.size:=World.block_lt_of_cell? _ _ c0
 have hr':=hr
 obtain ⟨wa,wc,ga,gc,rfl,_⟩:=hr
 have hcall:=fun W' (hx:Ex W W')=>hg.says x _ W' hm hr' (hW.trans hx)
 simp only [ah9,au3,List.headD,Array.append_empty] at hcall ⊢
 have Hc:=Lib.hid hcall;clear hcall
 show Calls _ _ #[_,_] _ _
 go_enter Tryz.func157,Tryz.ntmps157
 go_wp2_with (go_at_fn g;refine (Hc.out _ (by first|exact Ex.refl _|exact (Ex.refl _).alloc)).mono ?_;rintro e w' ⟨rfl,hb'⟩)
 go_ret
 exact ⟨rfl,by first|exact hb' | exact (Ex.refl _).alloc.trans hb'⟩
theorem all_fld {w w0:World} {F F0:Nat→Prop} {xs:List Fld} {a:Option Addr} {cap:Nat} (h:Row 8 (RFld w0 F0) w F xs a cap) (hl:xs.length≤140737488355328) {g:FuncId} {cb:Array Value} {p:Fld→Bool}
  (hg:Asks Tryz.prog g cb w ah9 (RFld w0 F0) xs p) :
  Calls Tryz.prog 131 #[.slice a xs.length cap,.func (.func g) #[] cb] w fun e w'=>e = .returned (.bool (xs.all p))∧Ex w w':=by
 have hcall:=fun B (hB:(w.alloc (.cells #[.func (.func g) #[] cb] 183)).cell? ⟨B,0,none⟩=some (.func (.func g) #[] cb))=>contains_fld (h.keep (w':=w.alloc (.cells #[.func (.func g) #[] cb] 183)) (Ex.refl w).alloc.same (fun _ h=>h) (fun _ _ _ h=>h)) hl (all1_fld hB (hg.mono (Ex.refl w).alloc))
 have Hc:=Lib.hid hcall;clear hcall
 have Ha:Hid ((!xs.any fun x=>!p x)=xs.all p):=Lib.hid (am5 p xs)
 go_enter Tryz.func131,Tryz.ntmps131
 go_wp2_with (go_at_call 156;refine (Hc.out _ (by simp)).mono ?_;rintro e w' ⟨rfl,hb'⟩)
 go_ret
 exact ⟨by rw [← Ha.out];rfl,(Ex.refl _).alloc.trans hb'⟩
theorem aw5 {w w':World} {F:Nat→Prop} {xs:List ByteArray} {a:Option Addr} {cap:Nat} (h:Row 1 RStr w F xs a cap) (hex:Same F w w') {i:Nat} (hi:i<xs.length) :
  ∃ x b off,Hid (xs[i]?=some x)∧a=some ⟨b,off,none⟩∧F b∧w'.cell? ⟨b,off+i,none⟩=some (.string x)∧Hid (RStr x [.string x]):=by
 obtain ⟨b,off,ha,hb,vs,hl,hr,hc⟩:=h.at_ i xs[i] (List.getElem?_eq_getElem hi)
 have hr':=hr
 obtain rfl:=hr
 exact ⟨xs[i],b,off,Lib.hid (List.getElem?_eq_getElem hi),ha,hb,hex.cell (p:=⟨b,off+i,none⟩) (by have:=hc 0 _ rfl;simpa using this) hb,hr'⟩
theorem idx_str {w:World} {F:Nat→Prop} {xs:List ByteArray} {a:Option Addr} {cap:Nat} (h:Row 1 RStr w F xs a cap) (hl:xs.length≤140737488355328) {g:FuncId} {cb:Array Value} {p:ByteArray→Bool}
  (hg:Asks Tryz.prog g cb w au3 RStr xs p) :
  Calls Tryz.prog 178 #[.slice a xs.length cap,.func (.func g) #[] cb] w fun e w'=>e = .returned (.int .i64 (idx p xs))∧Ex w w':=by
 have eg:=hg.enters
 go_enter Tryz.func178,Tryz.ntmps178
 go_wp2
 go_loopw [8] (fun i wr=>∃ j:Nat,j≤xs.length∧i = .int .i64 j∧Hid (∀ i y,i<j→xs[i]?=some y→p y=false)∧Ex w wr) (fun i _=>xs.length - (intOf i).toNat)
 case atStart=>exact ⟨0,by omega,rfl,fun i y h=>by omega,Ex.refl _⟩
 case round=>
  obtain ⟨j,hj,rfl,hno,hex⟩:=hrel
  by_cases hlt:j<xs.length
  ·obtain ⟨x,b,off,hx,rfl,_,c0,hr⟩:=aw5 h hex.same hlt
   have hcall:=hg.says x _ wr (List.mem_of_getElem? hx.out) hr.out hex
   simp only [ah9,au3,List.headD] at hcall
   cases hp:p x with
   | true=>
    have hi:=ae6 hx.out hp hno.out
    rw [hp] at hcall
    have Hi:=Lib.hid hi;clear hi hp
    go_wp2_with (go_at_fn g;refine hcall.mono ?_;rintro e w' ⟨rfl,hb'⟩)
    go_ret
    exact ⟨by rw [Hi.out];rfl,hex.trans hb'⟩
   | false=>
    have hi:=aD5 hno.out hx.out hp
    rw [hp] at hcall
    have Hi:=Lib.hid hi;clear hi hp hno
    go_wp2_with (go_at_fn g;refine hcall.mono ?_;rintro e w' ⟨rfl,hb'⟩)
    go_roundw
    case rel=>exact ⟨j+1,by omega,by go_num,Hi,hex.trans hb'⟩
    case measure=>simp [intOf];omega
  ·have hi:idx p xs = -1:=aD6 hno.out (by omega)
   have Hi:=Lib.hid hi;clear hi hno
   go_wp2_with fail
   go_ret
   exact ⟨by rw [Hi.out];rfl,hex⟩
theorem contains_str {w:World} {F:Nat→Prop} {xs:List ByteArray} {a:Option Addr} {cap:Nat} (h:Row 1 RStr w F xs a cap) (hl:xs.length≤140737488355328) {g:FuncId} {cb:Array Value} {p:ByteArray→Bool}
  (hg:Asks Tryz.prog g cb w au3 RStr xs p) :
  Calls Tryz.prog 161 #[.slice a xs.length cap,.func (.func g) #[] cb] w fun e w'=>e = .returned (.bool (xs.any p))∧Ex w w':=by
 have hc:=idx_str h hl hg
 have Ha:=Lib.hid (ar3 p xs)
 go_enter Tryz.func161,Tryz.ntmps161
 go_wp2_with (go_at_call 178;refine hc.mono ?_;rintro e w' ⟨rfl,hb'⟩)
 go_ret
 exact ⟨by rw [← Ha.out];rfl,hb'⟩
theorem all1_str {w:World} {xs:List ByteArray} {g:FuncId} {cb:Array Value} {p:ByteArray→Bool} {B:Nat} (hB:w.cell? ⟨B,0,none⟩=some (.func (.func g) #[] cb))
  (hg:Asks Tryz.prog g cb w au3 RStr xs p):Asks Tryz.prog 162 #[.pointer (some ⟨B,0,none⟩)] w au3 RStr xs (fun x=>!p x):=by
 refine ⟨enters_of Tryz.func162 (by kernel_rfl) rfl,fun x vs W hm hr hW=>?_⟩
 have eg:=hg.enters
 have c0:=hW.cell hB
 have lB:B<W.heap.size:=World.block_lt_of_cell? _ _ c0
 have hr':=hr
 obtain rfl:=hr
 have hcall:=fun W' (hx:Ex W W')=>hg.says x _ W' hm hr' (hW.trans hx)
 simp only [ah9,au3,List.headD,Array.append_empty] at hcall ⊢
 have Hc:=Lib.hid hcall;clear hcall
 show Calls _ _ #[_,_] _ _
 go_enter Tryz.func162,Tryz.ntmps162
 go_wp2_with (go_at_fn g;refine (Hc.out _ (by first|exact Ex.refl _|exact (Ex.refl _).alloc)).mono ?_;rintro e w' ⟨rfl,hb'⟩)
 go_ret
 exact ⟨rfl,by first|exact hb' | exact (Ex.refl _).alloc.trans hb'⟩
theorem all_str {w:World} {F:Nat→Prop} {xs:List ByteArray} {a:Option Addr} {cap:Nat} (h:Row 1 RStr w F xs a cap) (hl:xs.length≤140737488355328) {g:FuncId} {cb:Array Value} {p:ByteArray→Bool}
  (hg:Asks Tryz.prog g cb w au3 RStr xs p) :
  Calls Tryz.prog 134 #[.slice a xs.length cap,.func (.func g) #[] cb] w fun e w'=>e = .returned (.bool (xs.all p))∧Ex w w':=by
 have hcall:=fun B (hB:(w.alloc (.cells #[.func (.func g) #[] cb] 197)).cell? ⟨B,0,none⟩=some (.func (.func g) #[] cb))=>contains_str (h.keep (w':=w.alloc (.cells #[.func (.func g) #[] cb] 197)) (Ex.refl w).alloc.same (fun _ h=>h) (fun _ _ _ h=>h)) hl (all1_str hB (hg.mono (Ex.refl w).alloc))
 have Hc:=Lib.hid hcall;clear hcall
 have Ha:Hid ((!xs.any fun x=>!p x)=xs.all p):=Lib.hid (am5 p xs)
 go_enter Tryz.func134,Tryz.ntmps134
 go_wp2_with (go_at_call 161;refine (Hc.out _ (by simp)).mono ?_;rintro e w' ⟨rfl,hb'⟩)
 go_ret
 exact ⟨by rw [← Ha.out];rfl,(Ex.refl _).alloc.trans hb'⟩
theorem bd0 {w w':World} {F:Nat→Prop} {xs:List (Int × Int)} {a:Option Addr} {cap:Nat} (h:Row 2 RTwo w F xs a cap) (hex:Same F w w') {i:Nat} (hi:i<xs.length) :
  ∃ x b off,Hid (xs[i]?=some x)∧a=some ⟨b,off,none⟩∧F b∧w'.cell? ⟨b,off+i*2,none⟩=some (.int .i64 x.1)∧w'.cell? ⟨b,off+i*2+1,none⟩=some (.int .i64 x.2)∧Hid (RTwo x [.int .i64 x.1,.int .i64 x.2]):=by
 obtain ⟨b,off,ha,hb,vs,hl,hr,hc⟩:=h.at_ i xs[i] (List.getElem?_eq_getElem hi)
 have hr':=hr
 obtain ⟨rfl,_⟩:=hr
 exact ⟨xs[i],b,off,Lib.hid (List.getElem?_eq_getElem hi),ha,hb,hex.cell (hc 0 _ rfl) hb,hex.cell (hc 1 _ rfl) hb,hr'⟩
theorem idx_two {w:World} {F:Nat→Prop} {xs:List (Int × Int)} {a:Option Addr} {cap:Nat} (h:Row 2 RTwo w F xs a cap) (hl:xs.length≤140737488355328) {g:FuncId} {cb:Array Value} {p:(Int × Int)→Bool}
  (hg:Asks Tryz.prog g cb w ah9 RTwo xs p) :
  Calls Tryz.prog 179 #[.slice a xs.length cap,.func (.func g) #[] cb] w fun e w'=>e = .returned (.int .i64 (idx p xs))∧Ex w w':=by
 have eg:=hg.enters
 go_enter Tryz.func179,Tryz.ntmps179
 go_wp2
 go_loopw [8] (fun i wr=>∃ j:Nat,j≤xs.length∧i = .int .i64 j∧Hid (∀ i y,i<j→xs[i]?=some y→p y=false)∧Ex w wr) (fun i _=>xs.length - (intOf i).toNat)
 case atStart=>exact ⟨0,by omega,rfl,fun i y h=>by omega,Ex.refl _⟩
 case round=>
  obtain ⟨j,hj,rfl,hno,hex⟩:=hrel
  by_cases hlt:j<xs.length
  ·obtain ⟨x,b,off,hx,rfl,_,c0,c1,hr⟩:=bd0 h hex.same hlt
   have hcall:=hg.says x _ wr (List.mem_of_getElem? hx.out) hr.out hex
   simp only [ah9,au3,List.headD] at hcall
   cases hp:p x with
   | true=>
    have hi:=ae6 hx.out hp hno.out
    rw [hp] at hcall
    have Hi:=Lib.hid hi;clear hi hp
    go_wp2_with (go_at_fn g;refine hcall.mono ?_;rintro e w' ⟨rfl,hb'⟩)
    go_ret
    exact ⟨by rw [Hi.out];rfl,hex.trans hb'⟩
   | false=>
    have hi:=aD5 hno.out hx.out hp
    rw [hp] at hcall
    have Hi:=Lib.hid hi;clear hi hp hno
    go_wp2_with (go_at_fn g;refine hcall.mono ?_;rintro e w' ⟨rfl,hb'⟩)
    go_roundw
    case rel=>exact ⟨j+1,by omega,by go_num,Hi,hex.trans hb'⟩
    case measure=>simp [intOf];omega
  ·have hi:idx p xs = -1:=aD6 hno.out (by omega)
   have Hi:=Lib.hid hi;clear hi hno
   go_wp2_with fail
   go_ret
   exact ⟨by rw [Hi.out];rfl,hex⟩
theorem contains_two {w:World} {F:Nat→Prop} {xs:List (Int × Int)} {a:Option Addr} {cap:Nat} (h:Row 2 RTwo w F xs a cap) (hl:xs.length≤140737488355328) {g:FuncId} {cb:Array Value} {p:(Int × Int)→Bool}
  (hg:Asks Tryz.prog g cb w ah9 RTwo xs p) :
  Calls Tryz.prog 163 #[.slice a xs.length cap,.func (.func g) #[] cb] w fun e w'=>e = .returned (.bool (xs.any p))∧Ex w w':=by
 have hc:=idx_two h hl hg
 have Ha:=Lib.hid (ar3 p xs)
 go_enter Tryz.func163,Tryz.ntmps163
 go_wp2_with (go_at_call 179;refine hc.mono ?_;rintro e w' ⟨rfl,hb'⟩)
 go_ret
 exact ⟨by rw [← Ha.out];rfl,hb'⟩
theorem all1_two {w:World} {xs:List (Int × Int)} {g:FuncId} {cb:Array Value} {p:(Int × Int)→Bool} {B:Nat} (hB:w.cell? ⟨B,0,none⟩=some (.func (.func g) #[] cb))
  (hg:Asks Tryz.prog g cb w ah9 RTwo xs p):Asks Tryz.prog 164 #[.pointer (some ⟨B,0,none⟩)] w ah9 RTwo xs (fun x=>!p x):=by
 refine ⟨enters_of Tryz.func164 (by kernel_rfl) rfl,fun x vs W hm hr hW=>?_⟩
 have eg:=hg.enters
 have c0:=hW.cell hB
 have lB:B<W.heap.size:=World.block_lt_of_cell? _ _ c0
 have hr':=hr
 obtain ⟨rfl,_⟩:=hr
 have hcall:=fun W' (hx:Ex W W')=>hg.says x _ W' hm hr' (hW.trans hx)
 simp only [ah9,au3,List.headD,Array.append_empty] at hcall ⊢
 have Hc:=Lib.hid hcall;clear hcall
 show Calls _ _ #[_,_] _ _
 go_enter Tryz.func164,Tryz.ntmps164
 go_wp2_with (go_at_fn g;refine (Hc.out _ (by first|exact Ex.refl _|exact (Ex.refl _).alloc)).mono ?_;rintro e w' ⟨rfl,hb'⟩)
 go_ret
 exact ⟨rfl,by first|exact hb' | exact (Ex.refl _).alloc.trans hb'⟩
theorem all_two {w:World} {F:Nat→Prop} {xs:List (Int × Int)} {a:Option Addr} {cap:Nat} (h:Row 2 RTwo w F xs a cap) (hl:xs.length≤140737488355328) {g:FuncId} {cb:Array Value} {p:(Int × Int)→Bool}
  (hg:Asks Tryz.prog g cb w ah9 RTwo xs p) :
  Calls Tryz.prog 135 #[.slice a xs.length cap,.func (.func g) #[] cb] w fun e w'=>e = .returned (.bool (xs.all p))∧Ex w w':=by
 have hcall:=fun B (hB:(w.alloc (.cells #[.func (.func g) #[] cb] 202)).cell? ⟨B,0,none⟩=some (.func (.func g) #[] cb))=>contains_two (h.keep (w':=w.alloc (.cells #[.func (.func g) #[] cb] 202)) (Ex.refl w).alloc.same (fun _ h=>h) (fun _ _ _ h=>h)) hl (all1_two hB (hg.mono (Ex.refl w).alloc))
 have Hc:=Lib.hid hcall;clear hcall
 have Ha:Hid ((!xs.any fun x=>!p x)=xs.all p):=Lib.hid (am5 p xs)
 go_enter Tryz.func135,Tryz.ntmps135
 go_wp2_with (go_at_call 163;refine (Hc.out _ (by simp)).mono ?_;rintro e w' ⟨rfl,hb'⟩)
 go_ret
 exact ⟨by rw [← Ha.out];rfl,(Ex.refl _).alloc.trans hb'⟩
theorem byt_cells {w w':World} {F:Nat→Prop} {xs:List UInt8} {a:Option Addr} {cap:Nat} (h:Row 1 RByte w F xs a cap) (hex:Same F w w') {i:Nat} (hi:i<xs.length) :
  ∃ x b off,Hid (xs[i]?=some x)∧a=some ⟨b,off,none⟩∧F b∧w'.cell? ⟨b,off+i,none⟩=some (.int .u8 x.toNat)∧Hid (RByte x [.int .u8 x.toNat]):=by
 obtain ⟨b,off,ha,hb,vs,hl,hr,hc⟩:=h.at_ i xs[i] (List.getElem?_eq_getElem hi)
 have hr':=hr
 obtain rfl:=hr
 exact ⟨xs[i],b,off,Lib.hid (List.getElem?_eq_getElem hi),ha,hb,hex.cell (p:=⟨b,off+i,none⟩) (by have:=hc 0 _ rfl;simpa using this) hb,hr'⟩
theorem idx_byt {w:World} {F:Nat→Prop} {xs:List UInt8} {a:Option Addr} {cap:Nat} (h:Row 1 RByte w F xs a cap) (hl:xs.length≤140737488355328) {g:FuncId} {cb:Array Value} {p:UInt8→Bool}
  (hg:Asks Tryz.prog g cb w au3 RByte xs p) :
  Calls Tryz.prog 175 #[.slice a xs.length cap,.func (.func g) #[] cb] w fun e w'=>e = .returned (.int .i64 (idx p xs))∧Ex w w':=by
 have eg:=hg.enters
 go_enter Tryz.func175,Tryz.ntmps175
 go_wp2
 go_loopw [8] (fun i wr=>∃ j:Nat,j≤xs.length∧i = .int .i64 j∧Hid (∀ i y,i<j→xs[i]?=some y→p y=false)∧Ex w wr) (fun i _=>xs.length - (intOf i).toNat)
 case atStart=>exact ⟨0,by omega,rfl,fun i y h=>by omega,Ex.refl _⟩
 case round=>
  obtain ⟨j,hj,rfl,hno,hex⟩:=hrel
  by_cases hlt:j<xs.length
  ·obtain ⟨x,b,off,hx,rfl,_,c0,hr⟩:=byt_cells h hex.same hlt
   have hcall:=hg.says x _ wr (List.mem_of_getElem? hx.out) hr.out hex
   simp only [ah9,au3,List.headD] at hcall
   cases hp:p x with
   | true=>
    have hi:=ae6 hx.out hp hno.out
    rw [hp] at hcall
    have Hi:=Lib.hid hi;clear hi hp
    go_wp2_with (go_at_fn g;refine hcall.mono ?_;rintro e w' ⟨rfl,hb'⟩)
    go_ret
    exact ⟨by rw [Hi.out];rfl,hex.trans hb'⟩
   | false=>
    have hi:=aD5 hno.out hx.out hp
    rw [hp] at hcall
    have Hi:=Lib.hid hi;clear hi hp hno
    go_wp2_with (go_at_fn g;refine hcall.mono ?_;rintro e w' ⟨rfl,hb'⟩)
    go_roundw
    case rel=>exact ⟨j+1,by omega,by go_num,Hi,hex.trans hb'⟩
    case measure=>simp [intOf];omega
  ·have hi:idx p xs = -1:=aD6 hno.out (by omega)
   have Hi:=Lib.hid hi;clear hi hno
   go_wp2_with fail
   go_ret
   exact ⟨by rw [Hi.out];rfl,hex⟩
theorem contains_byt {w:World} {F:Nat→Prop} {xs:List UInt8} {a:Option Addr} {cap:Nat} (h:Row 1 RByte w F xs a cap) (hl:xs.length≤140737488355328) {g:FuncId} {cb:Array Value} {p:UInt8→Bool}
  (hg:Asks Tryz.prog g cb w au3 RByte xs p) :
  Calls Tryz.prog 153 #[.slice a xs.length cap,.func (.func g) #[] cb] w fun e w'=>e = .returned (.bool (xs.any p))∧Ex w w':=by
 have hc:=idx_byt h hl hg
 have Ha:=Lib.hid (ar3 p xs)
 go_enter Tryz.func153,Tryz.ntmps153
 go_wp2_with (go_at_call 175;refine hc.mono ?_;rintro e w' ⟨rfl,hb'⟩)
 go_ret
 exact ⟨by rw [← Ha.out];rfl,hb'⟩
end
section
open Go.RowKit Go.Shelf
theorem or_any (xs:List ByteArray) (w:World) {F:Nat→Prop} {a:Option Addr} {cap:Nat} (h:az4 w F xs a cap) (hl:xs.length≤1000000) :
  Calls Tryz.prog 168 #[.slice a xs.length cap] w fun e w'=>∃ s:ByteArray,e = .returned (.string s)∧(s=⟨#[]⟩∨s∈xs)∧w=w':=by
 go_enter Tryz.func168,Tryz.ntmps168
 go_wp2
 go_loop [8] (fun i=>∃ j:Nat,j≤xs.length∧i = .int .i64 j) (fun i=>xs.length - (intOf i).toNat)
 case atStart=>exact ⟨0,by omega,rfl⟩
 case round=>
  obtain ⟨j,hj,rfl⟩:=hrel
  by_cases hlt:j<xs.length
  ·obtain ⟨x,b,off,hx,rfl,_,c0,_⟩:=aw5 h (Ex.refl w).same hlt
   cases he:x.toList.isEmpty
   ·go_wp2
    go_ret
    exact ⟨x,rfl,.inr (List.mem_of_getElem? hx.out),rfl⟩
   ·go_wp2
    go_round
    case rel=>exact ⟨j+1,by omega,by go_num⟩
    case measure=>simp [intOf];omega
  ·go_wp2
   go_ret
   exact ⟨_,rfl,.inl rfl,rfl⟩
theorem strs_new (w:World) (T:TypeId) (l:List ByteArray):az4 (w.alloc (.cells (l.map Value.string).toArray T)) (fun _=>True) l (some ⟨w.heap.size,0,none⟩) l.length:=
 ⟨Nat.le_refl _,fun i x hx=>⟨w.heap.size,0,rfl,trivial,[.string x],rfl,rfl,fun j v hj=>by
  cases j with
  | zero=>simp at hj;subst hj;simp [hx]
  | succ j=>simp at hj⟩⟩
theorem aF8 (s:ByteArray) (w:World) :
  Calls Tryz.prog 141 #[.string s] w fun e w'=>∃ t:ByteArray,e = .returned (.string t)∧t.size≤s.size+1∧Ex w w':=by
 have HO:=Lib.hid (or_any [s,⟨#[45]⟩] _ (strs_new w 9 [s,⟨#[45]⟩]) (by simp))
 go_enter Tryz.func141,Tryz.ntmps141
 go_wp2_with (go_at_call 168;refine HO.out.mono ?_;rintro e w' ⟨t,rfl,ht,rfl⟩)
 go_ret
 refine ⟨t,rfl,?_,cl0⟩
 rcases ht with rfl|h
 ·exact Nat.zero_le _
 ·simp only [List.mem_cons,List.not_mem_nil,or_false] at h
  rcases h with rfl|rfl
  ·omega
  ·show 1≤_;omega
def anyV:Int ⊕ ByteArray→Value
 | .inl n=>.iface 3 (.int .i64 n)
 | .inr s=>.iface 9 (.string s)
theorem any_new (w:World) (T:TypeId) (items:List (Int ⊕ ByteArray)) (hi:∀ n,Sum.inl n∈items→I64 n):Row 1 RAny (w.alloc (.cells (items.map anyV).toArray T)) (fun _=>True) items (some ⟨w.heap.size,0,none⟩) items.length:=
 ⟨Nat.le_refl _,fun i x hx=>⟨w.heap.size,0,rfl,trivial,[anyV x],rfl,by
  cases x with
  | inl n=>exact ⟨rfl,hi n (List.mem_of_getElem? hx)⟩
  | inr s=>rfl,fun j v hj=>by
  cases j with
  | zero=>simp at hj;subst hj;simp [hx]
  | succ j=>simp at hj⟩⟩
theorem al8 (word:ByteArray) (items:List (Int ⊕ ByteArray)) (w:World) (hi:∀ n,Sum.inl n∈items→I64 n) (hp:Pow10 w) (hl:items.length≤1000000) (hm:word.size+ab8 items≤1000000000) :
  Calls Tryz.prog 139 #[.string word,.slice (some ⟨w.heap.size,0,none⟩) items.length items.length] (w.alloc (.cells (items.map anyV).toArray 20)) fun e w'=>∃ s:ByteArray,e = .returned (.string s)∧s.size≤word.size+ab8 items+1∧Ex w w':=
 (ba2 word items _ (any_new w _ items hi) (hp.ex (Ex.refl w).alloc) hl hm).mono fun e w' ⟨s,h1,h2,h3⟩=>⟨s,h1,h2,(Ex.refl w).alloc.trans h3⟩
theorem WordsAt.ex {w w':World} (h:WordsAt w) (he:Ex w w'):WordsAt w':=fun i s hs=>he.cell (h i s hs)
theorem field_0 (n o u:ByteArray) (lo hi:Int) (nw ng:Nat) (w:World) (wa ga:Option Addr) (cw cg:Nat) (hr1:n.size≤1000000) (hr2:o.size≤1000000) (hr3:u.size≤1000000) (h1:I64 lo) (h2:I64 hi) (hp:Pow10 w) (hwd:WordsAt w) :
  Calls Tryz.prog 140 #[.agg #[.string n,.string o,.string u,.int .i64 0,.int .i64 lo,.int .i64 hi,.slice wa nw cw,.slice ga ng cg]] w fun e w'=>∃ s:ByteArray,e = .returned (.string s)∧s.size≤16+n.size+o.size+u.size+intB lo+intB hi∧Ex w w':=by
 have c0:=hwd 0 _ rfl
 have lB:1<w.heap.size:=World.block_lt_of_cell? _ _ c0
 have i1:=ae9 lo
 have i2:=ae9 hi
 have HB:Hid (ab8 [.inr n,.inl lo]+6≤16+n.size+o.size+u.size+intB lo+intB hi):=by unfold Hid;simp [ab8,au4];omega
 have HL:Hid (∀ (W:World) (N:Nat),Ex w W→N=W.heap.size→Calls Tryz.prog 139 #[.string ⟨#[107,101,121]⟩,.slice (some ⟨N,0,none⟩) 2 2] (W.alloc (.cells #[.iface 9 (.string n),.iface 3 (.int .i64 lo)] 20)) fun e w'=>∃ s:ByteArray,e = .returned (.string s)∧s.size≤3+ab8 [.inr n,.inl lo]+1∧Ex W w'):=Lib.hid (by
  intro W N he hN
  subst hN
  exact al8 ⟨#[107,101,121]⟩ [.inr n,.inl lo] W (by simp [h1,h2]) (hp.ex he) (by simp) (by have:=HB.out;show 3+_≤_;omega))
 go_enter Tryz.func140,Tryz.ntmps140
 go_wp2_with (go_at_call 139;refine (HL.out _ _ cl0 (by simp)).mono ?_;rintro e w1 ⟨s,rfl,hs,hb1⟩)
 go_ret
 refine ⟨s,rfl,?_,cl0⟩
 have:=HB.out
 omega
theorem field_2 (n o u:ByteArray) (lo hi:Int) (nw ng:Nat) (w:World) (wa ga:Option Addr) (cw cg:Nat) (hr1:n.size≤1000000) (hr2:o.size≤1000000) (hr3:u.size≤1000000) (h1:I64 lo) (h2:I64 hi) (hp:Pow10 w) (hwd:WordsAt w) :
  Calls Tryz.prog 140 #[.agg #[.string n,.string o,.string u,.int .i64 2,.int .i64 lo,.int .i64 hi,.slice wa nw cw,.slice ga ng cg]] w fun e w'=>∃ s:ByteArray,e = .returned (.string s)∧s.size≤16+n.size+o.size+u.size+intB lo+intB hi∧Ex w w':=by
 have c0:=hwd 2 _ rfl
 have lB:1<w.heap.size:=World.block_lt_of_cell? _ _ c0
 have i1:=ae9 lo
 have i2:=ae9 hi
 have HB:Hid (ab8 [.inr n,.inl lo,.inl hi]+6≤16+n.size+o.size+u.size+intB lo+intB hi):=by unfold Hid;simp [ab8,au4];omega
 have HL:Hid (∀ (W:World) (N:Nat),Ex w W→N=W.heap.size→Calls Tryz.prog 139 #[.string ⟨#[110,117,109]⟩,.slice (some ⟨N,0,none⟩) 3 3] (W.alloc (.cells #[.iface 9 (.string n),.iface 3 (.int .i64 lo),.iface 3 (.int .i64 hi)] 20)) fun e w'=>∃ s:ByteArray,e = .returned (.string s)∧s.size≤3+ab8 [.inr n,.inl lo,.inl hi]+1∧Ex W w'):=Lib.hid (by
  intro W N he hN
  subst hN
  exact al8 ⟨#[110,117,109]⟩ [.inr n,.inl lo,.inl hi] W (by simp [h1,h2]) (hp.ex he) (by simp) (by have:=HB.out;show 3+_≤_;omega))
 go_enter Tryz.func140,Tryz.ntmps140
 go_wp2_with (go_at_call 139;refine (HL.out _ _ cl0 (by simp)).mono ?_;rintro e w1 ⟨s,rfl,hs,hb1⟩)
 go_ret
 refine ⟨s,rfl,?_,cl0⟩
 have:=HB.out
 omega
theorem field_6 (n o u:ByteArray) (lo hi:Int) (nw ng:Nat) (w:World) (wa ga:Option Addr) (cw cg:Nat) (hr1:n.size≤1000000) (hr2:o.size≤1000000) (hr3:u.size≤1000000) (h1:I64 lo) (h2:I64 hi) (hp:Pow10 w) (hwd:WordsAt w) :
  Calls Tryz.prog 140 #[.agg #[.string n,.string o,.string u,.int .i64 6,.int .i64 lo,.int .i64 hi,.slice wa nw cw,.slice ga ng cg]] w fun e w'=>∃ s:ByteArray,e = .returned (.string s)∧s.size≤16+n.size+o.size+u.size+intB lo+intB hi∧Ex w w':=by
 have c0:=hwd 6 _ rfl
 have lB:1<w.heap.size:=World.block_lt_of_cell? _ _ c0
 have i1:=ae9 lo
 have i2:=ae9 hi
 have HB:Hid (ab8 [.inr n,.inr o]+6≤16+n.size+o.size+u.size+intB lo+intB hi):=by unfold Hid;simp [ab8,au4];omega
 have HL:Hid (∀ (W:World) (N:Nat),Ex w W→N=W.heap.size→Calls Tryz.prog 139 #[.string ⟨#[115,117,109]⟩,.slice (some ⟨N,0,none⟩) 2 2] (W.alloc (.cells #[.iface 9 (.string n),.iface 9 (.string o)] 20)) fun e w'=>∃ s:ByteArray,e = .returned (.string s)∧s.size≤3+ab8 [.inr n,.inr o]+1∧Ex W w'):=Lib.hid (by
  intro W N he hN
  subst hN
  exact al8 ⟨#[115,117,109]⟩ [.inr n,.inr o] W (by simp [h1,h2]) (hp.ex he) (by simp) (by have:=HB.out;show 3+_≤_;omega))
 go_enter Tryz.func140,Tryz.ntmps140
 go_wp2_with (go_at_call 139;refine (HL.out _ _ cl0 (by simp)).mono ?_;rintro e w1 ⟨s,rfl,hs,hb1⟩)
 go_ret
 refine ⟨s,rfl,?_,cl0⟩
 have:=HB.out
 omega
theorem field_7 (n o u:ByteArray) (lo hi:Int) (nw ng:Nat) (w:World) (wa ga:Option Addr) (cw cg:Nat) (hr1:n.size≤1000000) (hr2:o.size≤1000000) (hr3:u.size≤1000000) (h1:I64 lo) (h2:I64 hi) (hp:Pow10 w) (hwd:WordsAt w) :
  Calls Tryz.prog 140 #[.agg #[.string n,.string o,.string u,.int .i64 7,.int .i64 lo,.int .i64 hi,.slice wa nw cw,.slice ga ng cg]] w fun e w'=>∃ s:ByteArray,e = .returned (.string s)∧s.size≤16+n.size+o.size+u.size+intB lo+intB hi∧Ex w w':=by
 have c0:=hwd 7 _ rfl
 have lB:1<w.heap.size:=World.block_lt_of_cell? _ _ c0
 have i1:=ae9 lo
 have i2:=ae9 hi
 have HB:Hid (ab8 [.inr n,.inr u,.inr o,.inl lo,.inl hi]+6≤16+n.size+o.size+u.size+intB lo+intB hi):=by unfold Hid;simp [ab8,au4];omega
 have HL:Hid (∀ (W:World) (N:Nat),Ex w W→N=W.heap.size→Calls Tryz.prog 139 #[.string ⟨#[115,104,97,114,101]⟩,.slice (some ⟨N,0,none⟩) 5 5] (W.alloc (.cells #[.iface 9 (.string n),.iface 9 (.string u),.iface 9 (.string o),.iface 3 (.int .i64 lo),.iface 3 (.int .i64 hi)] 20)) fun e w'=>∃ s:ByteArray,e = .returned (.string s)∧s.size≤5+ab8 [.inr n,.inr u,.inr o,.inl lo,.inl hi]+1∧Ex W w'):=Lib.hid (by
  intro W N he hN
  subst hN
  exact al8 ⟨#[115,104,97,114,101]⟩ [.inr n,.inr u,.inr o,.inl lo,.inl hi] W (by simp [h1,h2]) (hp.ex he) (by simp) (by have:=HB.out;show 5+_≤_;omega))
 go_enter Tryz.func140,Tryz.ntmps140
 go_wp2_with (go_at_call 139;refine (HL.out _ _ cl0 (by simp)).mono ?_;rintro e w1 ⟨s,rfl,hs,hb1⟩)
 go_ret
 refine ⟨s,rfl,?_,cl0⟩
 have:=HB.out
 omega
theorem field_8 (n o u:ByteArray) (lo hi:Int) (nw ng:Nat) (w:World) (wa ga:Option Addr) (cw cg:Nat) (hr1:n.size≤1000000) (hr2:o.size≤1000000) (hr3:u.size≤1000000) (h1:I64 lo) (h2:I64 hi) (hp:Pow10 w) (hwd:WordsAt w) :
  Calls Tryz.prog 140 #[.agg #[.string n,.string o,.string u,.int .i64 8,.int .i64 lo,.int .i64 hi,.slice wa nw cw,.slice ga ng cg]] w fun e w'=>∃ s:ByteArray,e = .returned (.string s)∧s.size≤16+n.size+o.size+u.size+intB lo+intB hi∧Ex w w':=by
 have c0:=hwd 8 _ rfl
 have lB:1<w.heap.size:=World.block_lt_of_cell? _ _ c0
 have i1:=ae9 lo
 have i2:=ae9 hi
 have HB:Hid (ab8 [.inr n,.inr u,.inr o]+6≤16+n.size+o.size+u.size+intB lo+intB hi):=by unfold Hid;simp [ab8,au4];omega
 have HL:Hid (∀ (W:World) (N:Nat),Ex w W→N=W.heap.size→Calls Tryz.prog 139 #[.string ⟨#[99,111,112,121]⟩,.slice (some ⟨N,0,none⟩) 3 3] (W.alloc (.cells #[.iface 9 (.string n),.iface 9 (.string u),.iface 9 (.string o)] 20)) fun e w'=>∃ s:ByteArray,e = .returned (.string s)∧s.size≤4+ab8 [.inr n,.inr u,.inr o]+1∧Ex W w'):=Lib.hid (by
  intro W N he hN
  subst hN
  exact al8 ⟨#[99,111,112,121]⟩ [.inr n,.inr u,.inr o] W (by simp [h1,h2]) (hp.ex he) (by simp) (by have:=HB.out;show 4+_≤_;omega))
 go_enter Tryz.func140,Tryz.ntmps140
 go_wp2_with (go_at_call 139;refine (HL.out _ _ cl0 (by simp)).mono ?_;rintro e w1 ⟨s,rfl,hs,hb1⟩)
 go_ret
 refine ⟨s,rfl,?_,cl0⟩
 have:=HB.out
 omega
end
end Go.Proofs.YtjbbmjjildhfbaaGreatDoor
