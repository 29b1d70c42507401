/- A part of the proof: Lists SrcB SrcC Own SchemaA. -/
import Derived.Test.YtjbbmjjildhfbaaGreatDoorP18
import Derived.Test.YtjbbmjjildhfbaaGreatDoorProg
import Derived.Shelf.Abstract
import Derived.Deep.RegionWith
import Derived.Deep.RegionHeld3
import Derived.Maps.AppendAt
import Derived.Lib.ConvBytes
set_option maxRecDepth 100000
set_option maxHeartbeats 4000000
set_option linter.unusedVariables false
set_option linter.unusedSimpArgs false
namespace Go.Proofs.YtjbbmjjildhfbaaGreatDoor
section
open Go.RowKit Go.Shelf
set_option linter.unusedVariables false
structure Asks {α:Type} (P:Program) (g:FuncId) (cb:Array Value) (w:World) (arg:List Value→Value) (R:α→List Value→Prop) (xs:List α) (p:α→Bool):Prop where
 enters:∀ (args:Array Value) (w:World),(callFunc g args).run P w = .ok (.enter g args) w
 says:∀ x vs W,x∈xs→R x vs→Ex w W→Calls P g (#[arg vs] ++ cb) W fun e W'=>e = .returned (.bool (p x))∧Ex W W'
def af7 (vs:List Value):Value:=.agg vs.toArray
def ar6 (vs:List Value):Value:=vs.headD undef
theorem aB2 {α:Type} {xs:List α} {p:α→Bool} {j:Nat} {x:α} (hno:∀ i y,i<j→xs[i]?=some y→p y=false) (hx:xs[j]?=some x) (hp:p x=false) :
  ∀ i y,i<j+1→xs[i]?=some y→p y=false:=fun i y hi hy=>by
 rcases Nat.lt_or_ge i j with h|h
 ·exact hno i y h hy
 ·obtain rfl:i=j:=by omega
  rw [hx] at hy;cases hy;exact hp
theorem al2 {α:Type} (p:α→Bool) (xs:List α):(!xs.any fun x=>!p x)=xs.all p:=by
 induction xs with
 | nil=>rfl
 | cons x xs ih=>simp only [List.any_cons,List.all_cons,← ih];cases p x <;> simp
theorem aB3 {α:Type} {xs:List α} {p:α→Bool} {j:Nat} (hno:∀ i y,i<j→xs[i]?=some y→p y=false) (hj:xs.length≤j):idx p xs = -1:=
 an9 (fun i y hy=>hno i y (by have:=(List.getElem?_eq_some_iff.1 hy).1;omega) hy)
theorem Asks.mono {α:Type} {P:Program} {g:FuncId} {cb:Array Value} {w w':World} {arg:List Value→Value} {R:α→List Value→Prop} {xs:List α} {p:α→Bool} (h:Asks P g cb w arg R xs p) (hx:Ex w w'):Asks P g cb w' arg R xs p:=
 ⟨h.enters,fun x vs W hm hr hw=>h.says x vs W hm hr (hx.trans hw)⟩
theorem be9 {w w' w0:World} {F F0:Nat→Prop} {xs:List Knd} {a:Option Addr} {cap:Nat} (h:Row 4 (RKnd w0 F0) w F xs a cap) (hex:Same F w w') {i:Nat} (hi:i<xs.length) :
  ∃ x b off fa fc,Hid (xs[i]?=some x)∧a=some ⟨b,off,none⟩∧F b∧w'.cell? ⟨b,off+i*4,none⟩=some (.string x.name)∧w'.cell? ⟨b,off+i*4+1,none⟩=some (.int .i64 x.lo)∧w'.cell? ⟨b,off+i*4+2,none⟩=some (.int .i64 x.hi)∧w'.cell? ⟨b,off+i*4+3,none⟩=some (.slice fa x.fields.length fc)∧Hid ((RKnd w0 F0) x [.string x.name,.int .i64 x.lo,.int .i64 x.hi,.slice fa x.fields.length fc]):=by
 obtain ⟨b,off,ha,hb,vs,hl,hr,hc⟩:=h.at_ i xs[i] (List.getElem?_eq_getElem hi)
 have hr':=hr
 obtain ⟨fa,fc,rfl,_⟩:=hr
 exact ⟨xs[i],b,off,fa,fc,Lib.hid (List.getElem?_eq_getElem hi),ha,hb,hex.cell (hc 0 _ rfl) hb,hex.cell (hc 1 _ rfl) hb,hex.cell (hc 2 _ rfl) hb,hex.cell (hc 3 _ rfl) hb,hr'⟩
theorem idx_knd {w w0:World} {F F0:Nat→Prop} {xs:List Knd} {a:Option Addr} {cap:Nat} (h:Row 4 (RKnd w0 F0) w F xs a cap) (hl:xs.length≤140737488355328) {g:FuncId} {cb:Array Value} {p:Knd→Bool}
  (hg:Asks Tryz.prog g cb w af7 (RKnd w0 F0) xs p) :
  Calls Tryz.prog 125 #[.slice a xs.length cap,.func (.func g) #[] cb] w fun e w'=>e = .returned (.int .i64 (idx p xs))∧Ex w w':=by
 have eg:=hg.enters
 go_enter Tryz.func125,Tryz.ntmps125
 go_wp2
 go_loopw [8] (fun i wr=>∃ j:Nat,j≤xs.length∧i = .int .i64 j∧Hid (∀ i y,i<j→xs[i]?=some y→p y=false)∧Ex w wr) (fun i _=>xs.length - (intOf i).toNat)
 case atStart=>exact ⟨0,by omega,rfl,fun i y h=>by omega,Ex.refl _⟩
 case round=>
  obtain ⟨j,hj,rfl,hno,hex⟩:=hrel
  by_cases hlt:j<xs.length
  ·obtain ⟨x,b,off,fa,fc,hx,rfl,_,c0,c1,c2,c3,hr⟩:=be9 h hex.same hlt
   have hcall:=hg.says x _ wr (List.mem_of_getElem? hx.out) hr.out hex
   simp only [af7,ar6,List.headD] at hcall
   cases hp:p x with
   | true=>
    have hi:=ad6 hx.out hp hno.out
    rw [hp] at hcall
    have Hi:=Lib.hid hi;clear hi hp
    go_wp2_with (go_at_fn g;refine hcall.mono ?_;rintro e w' ⟨rfl,hb'⟩)
    go_ret
    exact ⟨by rw [Hi.out];rfl,hex.trans hb'⟩
   | false=>
    have hi:=aB2 hno.out hx.out hp
    rw [hp] at hcall
    have Hi:=Lib.hid hi;clear hi hp hno
    go_wp2_with (go_at_fn g;refine hcall.mono ?_;rintro e w' ⟨rfl,hb'⟩)
    go_roundw
    case rel=>exact ⟨j+1,by omega,by go_num,Hi,hex.trans hb'⟩
    case measure=>simp [intOf];omega
  ·have hi:idx p xs = -1:=aB3 hno.out (by omega)
   have Hi:=Lib.hid hi;clear hi hno
   go_wp2_with fail
   go_ret
   exact ⟨by rw [Hi.out];rfl,hex⟩
theorem bg8 {w w0:World} {F F0:Nat→Prop} {xs:List Knd} {a:Option Addr} {cap:Nat} (h:Row 4 (RKnd w0 F0) w F xs a cap) (hl:xs.length≤140737488355328) {g:FuncId} {cb:Array Value} {p:Knd→Bool}
  (hg:Asks Tryz.prog g cb w af7 (RKnd w0 F0) xs p) :
  Calls Tryz.prog 127 #[.slice a xs.length cap,.func (.func g) #[] cb] w fun e w'=>e = .returned (.bool (xs.any p))∧Ex w w':=by
 have hc:=idx_knd h hl hg
 have Ha:=Lib.hid (an5 p xs)
 go_enter Tryz.func127,Tryz.ntmps127
 go_wp2_with (go_at_call 125;refine hc.mono ?_;rintro e w' ⟨rfl,hb'⟩)
 go_ret
 exact ⟨by rw [← Ha.out];rfl,hb'⟩
theorem all1_knd {w w0:World} {F0:Nat→Prop} {xs:List Knd} {g:FuncId} {cb:Array Value} {p:Knd→Bool} {B:Nat} (hB:w.cell? ⟨B,0,none⟩=some (.func (.func g) #[] cb))
  (hg:Asks Tryz.prog g cb w af7 (RKnd w0 F0) xs p):Asks Tryz.prog 128 #[.pointer (some ⟨B,0,none⟩)] w af7 (RKnd w0 F0) xs (fun x=>!p x):=by
 refine ⟨enters_of Tryz.func128 (by kernel_rfl) rfl,fun x vs W hm hr hW=>?_⟩
 have eg:=hg.enters
 have c0:=hW.cell hB
 have lB:B<W.heap.size:=World.block_lt_of_cell? _ _ c0
 have hr':=hr
 obtain ⟨fa,fc,rfl,_⟩:=hr
 have hcall:=fun W' (hx:Ex W W')=>hg.says x _ W' hm hr' (hW.trans hx)
 simp only [af7,ar6,List.headD,Array.append_empty] at hcall ⊢
 have Hc:=Lib.hid hcall;clear hcall
 show Calls _ _ #[_,_] _ _
 go_enter Tryz.func128,Tryz.ntmps128
 go_wp2_with (go_at_fn g;refine (Hc.out _ (by first|exact Ex.refl _|exact (Ex.refl _).alloc)).mono ?_;rintro e w' ⟨rfl,hb'⟩)
 go_ret
 exact ⟨rfl,by first|exact hb' | exact (Ex.refl _).alloc.trans hb'⟩
theorem all_knd {w w0:World} {F F0:Nat→Prop} {xs:List Knd} {a:Option Addr} {cap:Nat} (h:Row 4 (RKnd w0 F0) w F xs a cap) (hl:xs.length≤140737488355328) {g:FuncId} {cb:Array Value} {p:Knd→Bool}
  (hg:Asks Tryz.prog g cb w af7 (RKnd w0 F0) xs p) :
  Calls Tryz.prog 108 #[.slice a xs.length cap,.func (.func g) #[] cb] w fun e w'=>e = .returned (.bool (xs.all p))∧Ex w w':=by
 have hcall:=fun B (hB:(w.alloc (.cells #[.func (.func g) #[] cb] 187)).cell? ⟨B,0,none⟩=some (.func (.func g) #[] cb))=>bg8 (h.keep (w':=w.alloc (.cells #[.func (.func g) #[] cb] 187)) (Ex.refl w).alloc.same (fun _ h=>h) (fun _ _ _ h=>h)) hl (all1_knd hB (hg.mono (Ex.refl w).alloc))
 have Hc:=Lib.hid hcall;clear hcall
 have Ha:Hid ((!xs.any fun x=>!p x)=xs.all p):=Lib.hid (al2 p xs)
 go_enter Tryz.func108,Tryz.ntmps108
 go_wp2_with (go_at_call 127;refine (Hc.out _ (by simp)).mono ?_;rintro e w' ⟨rfl,hb'⟩)
 go_ret
 exact ⟨by rw [← Ha.out];rfl,(Ex.refl _).alloc.trans hb'⟩
theorem be6 {w w' w0:World} {F F0:Nat→Prop} {xs:List Lif} {a:Option Addr} {cap:Nat} (h:Row 3 (RLif w0 F0) w F xs a cap) (hex:Same F w w') {i:Nat} (hi:i<xs.length) :
  ∃ x b off sa sc ma mc,Hid (xs[i]?=some x)∧a=some ⟨b,off,none⟩∧F b∧w'.cell? ⟨b,off+i*3,none⟩=some (.string x.name)∧w'.cell? ⟨b,off+i*3+1,none⟩=some (.slice sa x.states.length sc)∧w'.cell? ⟨b,off+i*3+2,none⟩=some (.slice ma x.moves.length mc)∧Hid ((RLif w0 F0) x [.string x.name,.slice sa x.states.length sc,.slice ma x.moves.length mc]):=by
 obtain ⟨b,off,ha,hb,vs,hl,hr,hc⟩:=h.at_ i xs[i] (List.getElem?_eq_getElem hi)
 have hr':=hr
 obtain ⟨sa,sc,ma,mc,rfl,_⟩:=hr
 exact ⟨xs[i],b,off,sa,sc,ma,mc,Lib.hid (List.getElem?_eq_getElem hi),ha,hb,hex.cell (hc 0 _ rfl) hb,hex.cell (hc 1 _ rfl) hb,hex.cell (hc 2 _ rfl) hb,hr'⟩
theorem idx_lif {w w0:World} {F F0:Nat→Prop} {xs:List Lif} {a:Option Addr} {cap:Nat} (h:Row 3 (RLif w0 F0) w F xs a cap) (hl:xs.length≤140737488355328) {g:FuncId} {cb:Array Value} {p:Lif→Bool}
  (hg:Asks Tryz.prog g cb w af7 (RLif w0 F0) xs p) :
  Calls Tryz.prog 115 #[.slice a xs.length cap,.func (.func g) #[] cb] w fun e w'=>e = .returned (.int .i64 (idx p xs))∧Ex w w':=by
 have eg:=hg.enters
 go_enter Tryz.func115,Tryz.ntmps115
 go_wp2
 go_loopw [8] (fun i wr=>∃ j:Nat,j≤xs.length∧i = .int .i64 j∧Hid (∀ i y,i<j→xs[i]?=some y→p y=false)∧Ex w wr) (fun i _=>xs.length - (intOf i).toNat)
 case atStart=>exact ⟨0,by omega,rfl,fun i y h=>by omega,Ex.refl _⟩
 case round=>
  obtain ⟨j,hj,rfl,hno,hex⟩:=hrel
  by_cases hlt:j<xs.length
  ·obtain ⟨x,b,off,sa,sc,ma,mc,hx,rfl,_,c0,c1,c2,hr⟩:=be6 h hex.same hlt
   have hcall:=hg.says x _ wr (List.mem_of_getElem? hx.out) hr.out hex
   simp only [af7,ar6,List.headD] at hcall
   cases hp:p x with
   | true=>
    have hi:=ad6 hx.out hp hno.out
    rw [hp] at hcall
    have Hi:=Lib.hid hi;clear hi hp
    go_wp2_with (go_at_fn g;refine hcall.mono ?_;rintro e w' ⟨rfl,hb'⟩)
    go_ret
    exact ⟨by rw [Hi.out];rfl,hex.trans hb'⟩
   | false=>
    have hi:=aB2 hno.out hx.out hp
    rw [hp] at hcall
    have Hi:=Lib.hid hi;clear hi hp hno
    go_wp2_with (go_at_fn g;refine hcall.mono ?_;rintro e w' ⟨rfl,hb'⟩)
    go_roundw
    case rel=>exact ⟨j+1,by omega,by go_num,Hi,hex.trans hb'⟩
    case measure=>simp [intOf];omega
  ·have hi:idx p xs = -1:=aB3 hno.out (by omega)
   have Hi:=Lib.hid hi;clear hi hno
   go_wp2_with fail
   go_ret
   exact ⟨by rw [Hi.out];rfl,hex⟩
theorem bg7 {w w0:World} {F F0:Nat→Prop} {xs:List Lif} {a:Option Addr} {cap:Nat} (h:Row 3 (RLif w0 F0) w F xs a cap) (hl:xs.length≤140737488355328) {g:FuncId} {cb:Array Value} {p:Lif→Bool}
  (hg:Asks Tryz.prog g cb w af7 (RLif w0 F0) xs p) :
  Calls Tryz.prog 83 #[.slice a xs.length cap,.func (.func g) #[] cb] w fun e w'=>e = .returned (.bool (xs.any p))∧Ex w w':=by
 have hc:=idx_lif h hl hg
 have Ha:=Lib.hid (an5 p xs)
 go_enter Tryz.func83,Tryz.ntmps83
 go_wp2_with (go_at_call 115;refine hc.mono ?_;rintro e w' ⟨rfl,hb'⟩)
 go_ret
 exact ⟨by rw [← Ha.out];rfl,hb'⟩
theorem all1_lif {w w0:World} {F0:Nat→Prop} {xs:List Lif} {g:FuncId} {cb:Array Value} {p:Lif→Bool} {B:Nat} (hB:w.cell? ⟨B,0,none⟩=some (.func (.func g) #[] cb))
  (hg:Asks Tryz.prog g cb w af7 (RLif w0 F0) xs p):Asks Tryz.prog 133 #[.pointer (some ⟨B,0,none⟩)] w af7 (RLif w0 F0) xs (fun x=>!p x):=by
 refine ⟨enters_of Tryz.func133 (by kernel_rfl) rfl,fun x vs W hm hr hW=>?_⟩
 have eg:=hg.enters
 have c0:=hW.cell hB
 have lB:B<W.heap.size:=World.block_lt_of_cell? _ _ c0
 have hr':=hr
 obtain ⟨sa,sc,ma,mc,rfl,_⟩:=hr
 have hcall:=fun W' (hx:Ex W W')=>hg.says x _ W' hm hr' (hW.trans hx)
 simp only [af7,ar6,List.headD,Array.append_empty] at hcall ⊢
 have Hc:=Lib.hid hcall;clear hcall
 show Calls _ _ #[_,_] _ _
 go_enter Tryz.func133,Tryz.ntmps133
 go_wp2_with (go_at_fn g;refine (Hc.out _ (by first|exact Ex.refl _|exact (Ex.refl _).alloc)).mono ?_;rintro e w' ⟨rfl,hb'⟩)
 go_ret
 exact ⟨rfl,by first|exact hb' | exact (Ex.refl _).alloc.trans hb'⟩
theorem all_lif {w w0:World} {F F0:Nat→Prop} {xs:List Lif} {a:Option Addr} {cap:Nat} (h:Row 3 (RLif w0 F0) w F xs a cap) (hl:xs.length≤140737488355328) {g:FuncId} {cb:Array Value} {p:Lif→Bool}
  (hg:Asks Tryz.prog g cb w af7 (RLif w0 F0) xs p) :
  Calls Tryz.prog 110 #[.slice a xs.length cap,.func (.func g) #[] cb] w fun e w'=>e = .returned (.bool (xs.all p))∧Ex w w':=by
 have hcall:=fun B (hB:(w.alloc (.cells #[.func (.func g) #[] cb] 153)).cell? ⟨B,0,none⟩=some (.func (.func g) #[] cb))=>bg7 (h.keep (w':=w.alloc (.cells #[.func (.func g) #[] cb] 153)) (Ex.refl w).alloc.same (fun _ h=>h) (fun _ _ _ h=>h)) hl (all1_lif hB (hg.mono (Ex.refl w).alloc))
 have Hc:=Lib.hid hcall;clear hcall
 have Ha:Hid ((!xs.any fun x=>!p x)=xs.all p):=Lib.hid (al2 p xs)
 go_enter Tryz.func110,Tryz.ntmps110
 go_wp2_with (go_at_call 83;refine (Hc.out _ (by simp)).mono ?_;rintro e w' ⟨rfl,hb'⟩)
 go_ret
 exact ⟨by rw [← Ha.out];rfl,(Ex.refl _).alloc.trans hb'⟩
theorem bc2 {w w':World} {F:Nat→Prop} {xs:List Rul} {a:Option Addr} {cap:Nat} (h:Row 5 RRul w F xs a cap) (hex:Same F w w') {i:Nat} (hi:i<xs.length) :
  ∃ x b off,Hid (xs[i]?=some x)∧a=some ⟨b,off,none⟩∧F b∧w'.cell? ⟨b,off+i*5,none⟩=some (.string x.name)∧w'.cell? ⟨b,off+i*5+1,none⟩=some (.string x.kind)∧w'.cell? ⟨b,off+i*5+2,none⟩=some (.string x.a)∧w'.cell? ⟨b,off+i*5+3,none⟩=some (.string x.b)∧w'.cell? ⟨b,off+i*5+4,none⟩=some (.int .i64 x.n)∧Hid (RRul x [.string x.name,.string x.kind,.string x.a,.string x.b,.int .i64 x.n]):=by
 obtain ⟨b,off,ha,hb,vs,hl,hr,hc⟩:=h.at_ i xs[i] (List.getElem?_eq_getElem hi)
 have hr':=hr
 obtain ⟨rfl,_⟩:=hr
 exact ⟨xs[i],b,off,Lib.hid (List.getElem?_eq_getElem hi),ha,hb,hex.cell (hc 0 _ rfl) hb,hex.cell (hc 1 _ rfl) hb,hex.cell (hc 2 _ rfl) hb,hex.cell (hc 3 _ rfl) hb,hex.cell (hc 4 _ rfl) hb,hr'⟩
theorem idx_rul {w:World} {F:Nat→Prop} {xs:List Rul} {a:Option Addr} {cap:Nat} (h:Row 5 RRul w F xs a cap) (hl:xs.length≤140737488355328) {g:FuncId} {cb:Array Value} {p:Rul→Bool}
  (hg:Asks Tryz.prog g cb w af7 RRul xs p) :
  Calls Tryz.prog 143 #[.slice a xs.length cap,.func (.func g) #[] cb] w fun e w'=>e = .returned (.int .i64 (idx p xs))∧Ex w w':=by
 have eg:=hg.enters
 go_enter Tryz.func143,Tryz.ntmps143
 go_wp2
 go_loopw [8] (fun i wr=>∃ j:Nat,j≤xs.length∧i = .int .i64 j∧Hid (∀ i y,i<j→xs[i]?=some y→p y=false)∧Ex w wr) (fun i _=>xs.length - (intOf i).toNat)
 case atStart=>exact ⟨0,by omega,rfl,fun i y h=>by omega,Ex.refl _⟩
 case round=>
  obtain ⟨j,hj,rfl,hno,hex⟩:=hrel
  by_cases hlt:j<xs.length
  ·obtain ⟨x,b,off,hx,rfl,_,c0,c1,c2,c3,c4,hr⟩:=bc2 h hex.same hlt
   have hcall:=hg.says x _ wr (List.mem_of_getElem? hx.out) hr.out hex
   simp only [af7,ar6,List.headD] at hcall
   cases hp:p x with
   | true=>
    have hi:=ad6 hx.out hp hno.out
    rw [hp] at hcall
    have Hi:=Lib.hid hi;clear hi hp
    go_wp2_with (go_at_fn g;refine hcall.mono ?_;rintro e w' ⟨rfl,hb'⟩)
    go_ret
    exact ⟨by rw [Hi.out];rfl,hex.trans hb'⟩
   | false=>
    have hi:=aB2 hno.out hx.out hp
    rw [hp] at hcall
    have Hi:=Lib.hid hi;clear hi hp hno
    go_wp2_with (go_at_fn g;refine hcall.mono ?_;rintro e w' ⟨rfl,hb'⟩)
    go_roundw
    case rel=>exact ⟨j+1,by omega,by go_num,Hi,hex.trans hb'⟩
    case measure=>simp [intOf];omega
  ·have hi:idx p xs = -1:=aB3 hno.out (by omega)
   have Hi:=Lib.hid hi;clear hi hno
   go_wp2_with fail
   go_ret
   exact ⟨by rw [Hi.out];rfl,hex⟩
theorem bg6 {w:World} {F:Nat→Prop} {xs:List Rul} {a:Option Addr} {cap:Nat} (h:Row 5 RRul w F xs a cap) (hl:xs.length≤140737488355328) {g:FuncId} {cb:Array Value} {p:Rul→Bool}
  (hg:Asks Tryz.prog g cb w af7 RRul xs p) :
  Calls Tryz.prog 116 #[.slice a xs.length cap,.func (.func g) #[] cb] w fun e w'=>e = .returned (.bool (xs.any p))∧Ex w w':=by
 have hc:=idx_rul h hl hg
 have Ha:=Lib.hid (an5 p xs)
 go_enter Tryz.func116,Tryz.ntmps116
 go_wp2_with (go_at_call 143;refine hc.mono ?_;rintro e w' ⟨rfl,hb'⟩)
 go_ret
 exact ⟨by rw [← Ha.out];rfl,hb'⟩
theorem all1_rul {w:World} {xs:List Rul} {g:FuncId} {cb:Array Value} {p:Rul→Bool} {B:Nat} (hB:w.cell? ⟨B,0,none⟩=some (.func (.func g) #[] cb))
  (hg:Asks Tryz.prog g cb w af7 RRul xs p):Asks Tryz.prog 137 #[.pointer (some ⟨B,0,none⟩)] w af7 RRul xs (fun x=>!p x):=by
 refine ⟨enters_of Tryz.func137 (by kernel_rfl) rfl,fun x vs W hm hr hW=>?_⟩
 have eg:=hg.enters
 have c0:=hW.cell hB
 have lB:B<W.heap.size:=World.block_lt_of_cell? _ _ c0
 have hr':=hr
 obtain ⟨rfl,_⟩:=hr
 have hcall:=fun W' (hx:Ex W W')=>hg.says x _ W' hm hr' (hW.trans hx)
 simp only [af7,ar6,List.headD,Array.append_empty] at hcall ⊢
 have Hc:=Lib.hid hcall;clear hcall
 show Calls _ _ #[_,_] _ _
 go_enter Tryz.func137,Tryz.ntmps137
 go_wp2_with (go_at_fn g;refine (Hc.out _ (by first|exact Ex.refl _|exact (Ex.refl _).alloc)).mono ?_;rintro e w' ⟨rfl,hb'⟩)
 go_ret
 exact ⟨rfl,by first|exact hb' | exact (Ex.refl _).alloc.trans hb'⟩
theorem all_rul {w:World} {F:Nat→Prop} {xs:List Rul} {a:Option Addr} {cap:Nat} (h:Row 5 RRul w F xs a cap) (hl:xs.length≤140737488355328) {g:FuncId} {cb:Array Value} {p:Rul→Bool}
  (hg:Asks Tryz.prog g cb w af7 RRul xs p) :
  Calls Tryz.prog 112 #[.slice a xs.length cap,.func (.func g) #[] cb] w fun e w'=>e = .returned (.bool (xs.all p))∧Ex w w':=by
 have hcall:=fun B (hB:(w.alloc (.cells #[.func (.func g) #[] cb] 189)).cell? ⟨B,0,none⟩=some (.func (.func g) #[] cb))=>bg6 (h.keep (w':=w.alloc (.cells #[.func (.func g) #[] cb] 189)) (Ex.refl w).alloc.same (fun _ h=>h) (fun _ _ _ h=>h)) hl (all1_rul hB (hg.mono (Ex.refl w).alloc))
 have Hc:=Lib.hid hcall;clear hcall
 have Ha:Hid ((!xs.any fun x=>!p x)=xs.all p):=Lib.hid (al2 p xs)
 go_enter Tryz.func112,Tryz.ntmps112
 go_wp2_with (go_at_call 116;refine (Hc.out _ (by simp)).mono ?_;rintro e w' ⟨rfl,hb'⟩)
 go_ret
 exact ⟨by rw [← Ha.out];rfl,(Ex.refl _).alloc.trans hb'⟩
theorem bf9 {w w' w0:World} {F F0:Nat→Prop} {xs:List Fld} {a:Option Addr} {cap:Nat} (h:Row 8 (RFld w0 F0) w F xs a cap) (hex:Same F w w') {i:Nat} (hi:i<xs.length) :
  ∃ x b off wa wc ga gc,Hid (xs[i]?=some x)∧a=some ⟨b,off,none⟩∧F b∧w'.cell? ⟨b,off+i*8,none⟩=some (.string x.name)∧w'.cell? ⟨b,off+i*8+1,none⟩=some (.string x.of)∧w'.cell? ⟨b,off+i*8+2,none⟩=some (.string x.up)∧w'.cell? ⟨b,off+i*8+3,none⟩=some (.int .i64 x.kind)∧w'.cell? ⟨b,off+i*8+4,none⟩=some (.int .i64 x.lo)∧w'.cell? ⟨b,off+i*8+5,none⟩=some (.int .i64 x.hi)∧w'.cell? ⟨b,off+i*8+6,none⟩=some (.slice wa x.words.length wc)∧w'.cell? ⟨b,off+i*8+7,none⟩=some (.slice ga x.weights.length gc)∧Hid ((RFld w0 F0) x [.string x.name,.string x.of,.string x.up,.int .i64 x.kind,.int .i64 x.lo,.int .i64 x.hi,.slice wa x.words.length wc,.slice ga x.weights.length gc]):=by
 obtain ⟨b,off,ha,hb,vs,hl,hr,hc⟩:=h.at_ i xs[i] (List.getElem?_eq_getElem hi)
 have hr':=hr
 obtain ⟨wa,wc,ga,gc,rfl,_⟩:=hr
 exact ⟨xs[i],b,off,wa,wc,ga,gc,Lib.hid (List.getElem?_eq_getElem hi),ha,hb,hex.cell (hc 0 _ rfl) hb,hex.cell (hc 1 _ rfl) hb,hex.cell (hc 2 _ rfl) hb,hex.cell (hc 3 _ rfl) hb,hex.cell (hc 4 _ rfl) hb,hex.cell (hc 5 _ rfl) hb,hex.cell (hc 6 _ rfl) hb,hex.cell (hc 7 _ rfl) hb,hr'⟩
theorem idx_fld {w w0:World} {F F0:Nat→Prop} {xs:List Fld} {a:Option Addr} {cap:Nat} (h:Row 8 (RFld w0 F0) w F xs a cap) (hl:xs.length≤140737488355328) {g:FuncId} {cb:Array Value} {p:Fld→Bool}
  (hg:Asks Tryz.prog g cb w af7 (RFld w0 F0) xs p) :
  Calls Tryz.prog 104 #[.slice a xs.length cap,.func (.func g) #[] cb] w fun e w'=>e = .returned (.int .i64 (idx p xs))∧Ex w w':=by
 have eg:=hg.enters
 go_enter Tryz.func104,Tryz.ntmps104
 go_wp2
 go_loopw [8] (fun i wr=>∃ j:Nat,j≤xs.length∧i = .int .i64 j∧Hid (∀ i y,i<j→xs[i]?=some y→p y=false)∧Ex w wr) (fun i _=>xs.length - (intOf i).toNat)
 case atStart=>exact ⟨0,by omega,rfl,fun i y h=>by omega,Ex.refl _⟩
 case round=>
  obtain ⟨j,hj,rfl,hno,hex⟩:=hrel
  by_cases hlt:j<xs.length
  ·obtain ⟨x,b,off,wa,wc,ga,gc,hx,rfl,_,c0,c1,c2,c3,c4,c5,c6,c7,hr⟩:=bf9 h hex.same hlt
   have hcall:=hg.says x _ wr (List.mem_of_getElem? hx.out) hr.out hex
   simp only [af7,ar6,List.headD] at hcall
   cases hp:p x with
   | true=>
    have hi:=ad6 hx.out hp hno.out
    rw [hp] at hcall
    have Hi:=Lib.hid hi;clear hi hp
    go_wp2_with (go_at_fn g;refine hcall.mono ?_;rintro e w' ⟨rfl,hb'⟩)
    go_ret
    exact ⟨by rw [Hi.out];rfl,hex.trans hb'⟩
   | false=>
    have hi:=aB2 hno.out hx.out hp
    rw [hp] at hcall
    have Hi:=Lib.hid hi;clear hi hp hno
    go_wp2_with (go_at_fn g;refine hcall.mono ?_;rintro e w' ⟨rfl,hb'⟩)
    go_roundw
    case rel=>exact ⟨j+1,by omega,by go_num,Hi,hex.trans hb'⟩
    case measure=>simp [intOf];omega
  ·have hi:idx p xs = -1:=aB3 hno.out (by omega)
   have Hi:=Lib.hid hi;clear hi hno
   go_wp2_with fail
   go_ret
   exact ⟨by rw [Hi.out];rfl,hex⟩
theorem bg9 {w w0:World} {F F0:Nat→Prop} {xs:List Fld} {a:Option Addr} {cap:Nat} (h:Row 8 (RFld w0 F0) w F xs a cap) (hl:xs.length≤140737488355328) {g:FuncId} {cb:Array Value} {p:Fld→Bool}
  (hg:Asks Tryz.prog g cb w af7 (RFld w0 F0) xs p) :
  Calls Tryz.prog 156 #[.slice a xs.length cap,.func (.func g) #[] cb] w fun e w'=>e = .returned (.bool (xs.any p))∧Ex w w':=by
 have hc:=idx_fld h hl hg
 have Ha:=Lib.hid (an5 p xs)
 go_enter Tryz.func156,Tryz.ntmps156
 go_wp2_with (go_at_call 104;refine hc.mono ?_;rintro e w' ⟨rfl,hb'⟩)
 go_ret
 exact ⟨by rw [← Ha.out];rfl,hb'⟩
theorem all1_fld {w w0:World} {F0:Nat→Prop} {xs:List Fld} {g:FuncId} {cb:Array Value} {p:Fld→Bool} {B:Nat} (hB:w.cell? ⟨B,0,none⟩=some (.func (.func g) #[] cb))
  (hg:Asks Tryz.prog g cb w af7 (RFld w0 F0) xs p):Asks Tryz.prog 157 #[.pointer (some ⟨B,0,none⟩)] w af7 (RFld w0 F0) xs (fun x=>!p x):=by
 refine ⟨enters_of Tryz.func157 (by kernel_rfl) rfl,fun x vs W hm hr hW=>?_⟩
 have eg:=hg.enters
 have c0:=hW.cell hB
 have lB:B<W.heap.size:=World.block_lt_of_cell? _ _ c0
 have hr':=hr
 obtain ⟨wa,wc,ga,gc,rfl,_⟩:=hr
 have hcall:=fun W' (hx:Ex W W')=>hg.says x _ W' hm hr' (hW.trans hx)
 simp only [af7,ar6,List.headD,Array.append_empty] at hcall ⊢
 have Hc:=Lib.hid hcall;clear hcall
 show Calls _ _ #[_,_] _ _
 go_enter Tryz.func157,Tryz.ntmps157
 go_wp2_with (go_at_fn g;refine (Hc.out _ (by first|exact Ex.refl _|exact (Ex.refl _).alloc)).mono ?_;rintro e w' ⟨rfl,hb'⟩)
 go_ret
 exact ⟨rfl,by first|exact hb' | exact (Ex.refl _).alloc.trans hb'⟩
theorem all_fld {w w0:World} {F F0:Nat→Prop} {xs:List Fld} {a:Option Addr} {cap:Nat} (h:Row 8 (RFld w0 F0) w F xs a cap) (hl:xs.length≤140737488355328) {g:FuncId} {cb:Array Value} {p:Fld→Bool}
  (hg:Asks Tryz.prog g cb w af7 (RFld w0 F0) xs p) :
  Calls Tryz.prog 131 #[.slice a xs.length cap,.func (.func g) #[] cb] w fun e w'=>e = .returned (.bool (xs.all p))∧Ex w w':=by
 have hcall:=fun B (hB:(w.alloc (.cells #[.func (.func g) #[] cb] 183)).cell? ⟨B,0,none⟩=some (.func (.func g) #[] cb))=>bg9 (h.keep (w':=w.alloc (.cells #[.func (.func g) #[] cb] 183)) (Ex.refl w).alloc.same (fun _ h=>h) (fun _ _ _ h=>h)) hl (all1_fld hB (hg.mono (Ex.refl w).alloc))
 have Hc:=Lib.hid hcall;clear hcall
 have Ha:Hid ((!xs.any fun x=>!p x)=xs.all p):=Lib.hid (al2 p xs)
 go_enter Tryz.func131,Tryz.ntmps131
 go_wp2_with (go_at_call 156;refine (Hc.out _ (by simp)).mono ?_;rintro e w' ⟨rfl,hb'⟩)
 go_ret
 exact ⟨by rw [← Ha.out];rfl,(Ex.refl _).alloc.trans hb'⟩
theorem au2 {w w':World} {F:Nat→Prop} {xs:List ByteArray} {a:Option Addr} {cap:Nat} (h:Row 1 RStr w F xs a cap) (hex:Same F w w') {i:Nat} (hi:i<xs.length) :
  ∃ x b off,Hid (xs[i]?=some x)∧a=some ⟨b,off,none⟩∧F b∧w'.cell? ⟨b,off+i,none⟩=some (.string x)∧Hid (RStr x [.string x]):=by
 obtain ⟨b,off,ha,hb,vs,hl,hr,hc⟩:=h.at_ i xs[i] (List.getElem?_eq_getElem hi)
 have hr':=hr
 obtain rfl:=hr
 exact ⟨xs[i],b,off,Lib.hid (List.getElem?_eq_getElem hi),ha,hb,hex.cell (p:=⟨b,off+i,none⟩) (by have:=hc 0 _ rfl;simpa using this) hb,hr'⟩
theorem idx_str {w:World} {F:Nat→Prop} {xs:List ByteArray} {a:Option Addr} {cap:Nat} (h:Row 1 RStr w F xs a cap) (hl:xs.length≤140737488355328) {g:FuncId} {cb:Array Value} {p:ByteArray→Bool}
  (hg:Asks Tryz.prog g cb w ar6 RStr xs p) :
  Calls Tryz.prog 178 #[.slice a xs.length cap,.func (.func g) #[] cb] w fun e w'=>e = .returned (.int .i64 (idx p xs))∧Ex w w':=by
 have eg:=hg.enters
 go_enter Tryz.func178,Tryz.ntmps178
 go_wp2
 go_loopw [8] (fun i wr=>∃ j:Nat,j≤xs.length∧i = .int .i64 j∧Hid (∀ i y,i<j→xs[i]?=some y→p y=false)∧Ex w wr) (fun i _=>xs.length - (intOf i).toNat)
 case atStart=>exact ⟨0,by omega,rfl,fun i y h=>by omega,Ex.refl _⟩
 case round=>
  obtain ⟨j,hj,rfl,hno,hex⟩:=hrel
  by_cases hlt:j<xs.length
  ·obtain ⟨x,b,off,hx,rfl,_,c0,hr⟩:=au2 h hex.same hlt
   have hcall:=hg.says x _ wr (List.mem_of_getElem? hx.out) hr.out hex
   simp only [af7,ar6,List.headD] at hcall
   cases hp:p x with
   | true=>
    have hi:=ad6 hx.out hp hno.out
    rw [hp] at hcall
    have Hi:=Lib.hid hi;clear hi hp
    go_wp2_with (go_at_fn g;refine hcall.mono ?_;rintro e w' ⟨rfl,hb'⟩)
    go_ret
    exact ⟨by rw [Hi.out];rfl,hex.trans hb'⟩
   | false=>
    have hi:=aB2 hno.out hx.out hp
    rw [hp] at hcall
    have Hi:=Lib.hid hi;clear hi hp hno
    go_wp2_with (go_at_fn g;refine hcall.mono ?_;rintro e w' ⟨rfl,hb'⟩)
    go_roundw
    case rel=>exact ⟨j+1,by omega,by go_num,Hi,hex.trans hb'⟩
    case measure=>simp [intOf];omega
  ·have hi:idx p xs = -1:=aB3 hno.out (by omega)
   have Hi:=Lib.hid hi;clear hi hno
   go_wp2_with fail
   go_ret
   exact ⟨by rw [Hi.out];rfl,hex⟩
theorem bg5 {w:World} {F:Nat→Prop} {xs:List ByteArray} {a:Option Addr} {cap:Nat} (h:Row 1 RStr w F xs a cap) (hl:xs.length≤140737488355328) {g:FuncId} {cb:Array Value} {p:ByteArray→Bool}
  (hg:Asks Tryz.prog g cb w ar6 RStr xs p) :
  Calls Tryz.prog 161 #[.slice a xs.length cap,.func (.func g) #[] cb] w fun e w'=>e = .returned (.bool (xs.any p))∧Ex w w':=by
 have hc:=idx_str h hl hg
 have Ha:=Lib.hid (an5 p xs)
 go_enter Tryz.func161,Tryz.ntmps161
 go_wp2_with (go_at_call 178;refine hc.mono ?_;rintro e w' ⟨rfl,hb'⟩)
 go_ret
 exact ⟨by rw [← Ha.out];rfl,hb'⟩
theorem all1_str {w:World} {xs:List ByteArray} {g:FuncId} {cb:Array Value} {p:ByteArray→Bool} {B:Nat} (hB:w.cell? ⟨B,0,none⟩=some (.func (.func g) #[] cb))
  (hg:Asks Tryz.prog g cb w ar6 RStr xs p):Asks Tryz.prog 162 #[.pointer (some ⟨B,0,none⟩)] w ar6 RStr xs (fun x=>!p x):=by
 refine ⟨enters_of Tryz.func162 (by kernel_rfl) rfl,fun x vs W hm hr hW=>?_⟩
 have eg:=hg.enters
 have c0:=hW.cell hB
 have lB:B<W.heap.size:=World.block_lt_of_cell? _ _ c0
 have hr':=hr
 obtain rfl:=hr
 have hcall:=fun W' (hx:Ex W W')=>hg.says x _ W' hm hr' (hW.trans hx)
 simp only [af7,ar6,List.headD,Array.append_empty] at hcall ⊢
 have Hc:=Lib.hid hcall;clear hcall
 show Calls _ _ #[_,_] _ _
 go_enter Tryz.func162,Tryz.ntmps162
 go_wp2_with (go_at_fn g;refine (Hc.out _ (by first|exact Ex.refl _|exact (Ex.refl _).alloc)).mono ?_;rintro e w' ⟨rfl,hb'⟩)
 go_ret
 exact ⟨rfl,by first|exact hb' | exact (Ex.refl _).alloc.trans hb'⟩
theorem all_str {w:World} {F:Nat→Prop} {xs:List ByteArray} {a:Option Addr} {cap:Nat} (h:Row 1 RStr w F xs a cap) (hl:xs.length≤140737488355328) {g:FuncId} {cb:Array Value} {p:ByteArray→Bool}
  (hg:Asks Tryz.prog g cb w ar6 RStr xs p) :
  Calls Tryz.prog 134 #[.slice a xs.length cap,.func (.func g) #[] cb] w fun e w'=>e = .returned (.bool (xs.all p))∧Ex w w':=by
 have hcall:=fun B (hB:(w.alloc (.cells #[.func (.func g) #[] cb] 197)).cell? ⟨B,0,none⟩=some (.func (.func g) #[] cb))=>bg5 (h.keep (w':=w.alloc (.cells #[.func (.func g) #[] cb] 197)) (Ex.refl w).alloc.same (fun _ h=>h) (fun _ _ _ h=>h)) hl (all1_str hB (hg.mono (Ex.refl w).alloc))
 have Hc:=Lib.hid hcall;clear hcall
 have Ha:Hid ((!xs.any fun x=>!p x)=xs.all p):=Lib.hid (al2 p xs)
 go_enter Tryz.func134,Tryz.ntmps134
 go_wp2_with (go_at_call 161;refine (Hc.out _ (by simp)).mono ?_;rintro e w' ⟨rfl,hb'⟩)
 go_ret
 exact ⟨by rw [← Ha.out];rfl,(Ex.refl _).alloc.trans hb'⟩
theorem bb4 {w w':World} {F:Nat→Prop} {xs:List (Int × Int)} {a:Option Addr} {cap:Nat} (h:Row 2 RTwo w F xs a cap) (hex:Same F w w') {i:Nat} (hi:i<xs.length) :
  ∃ x b off,Hid (xs[i]?=some x)∧a=some ⟨b,off,none⟩∧F b∧w'.cell? ⟨b,off+i*2,none⟩=some (.int .i64 x.1)∧w'.cell? ⟨b,off+i*2+1,none⟩=some (.int .i64 x.2)∧Hid (RTwo x [.int .i64 x.1,.int .i64 x.2]):=by
 obtain ⟨b,off,ha,hb,vs,hl,hr,hc⟩:=h.at_ i xs[i] (List.getElem?_eq_getElem hi)
 have hr':=hr
 obtain ⟨rfl,_⟩:=hr
 exact ⟨xs[i],b,off,Lib.hid (List.getElem?_eq_getElem hi),ha,hb,hex.cell (hc 0 _ rfl) hb,hex.cell (hc 1 _ rfl) hb,hr'⟩
theorem idx_two {w:World} {F:Nat→Prop} {xs:List (Int × Int)} {a:Option Addr} {cap:Nat} (h:Row 2 RTwo w F xs a cap) (hl:xs.length≤140737488355328) {g:FuncId} {cb:Array Value} {p:(Int × Int)→Bool}
  (hg:Asks Tryz.prog g cb w af7 RTwo xs p) :
  Calls Tryz.prog 179 #[.slice a xs.length cap,.func (.func g) #[] cb] w fun e w'=>e = .returned (.int .i64 (idx p xs))∧Ex w w':=by
 have eg:=hg.enters
 go_enter Tryz.func179,Tryz.ntmps179
 go_wp2
 go_loopw [8] (fun i wr=>∃ j:Nat,j≤xs.length∧i = .int .i64 j∧Hid (∀ i y,i<j→xs[i]?=some y→p y=false)∧Ex w wr) (fun i _=>xs.length - (intOf i).toNat)
 case atStart=>exact ⟨0,by omega,rfl,fun i y h=>by omega,Ex.refl _⟩
 case round=>
  obtain ⟨j,hj,rfl,hno,hex⟩:=hrel
  by_cases hlt:j<xs.length
  ·obtain ⟨x,b,off,hx,rfl,_,c0,c1,hr⟩:=bb4 h hex.same hlt
   have hcall:=hg.says x _ wr (List.mem_of_getElem? hx.out) hr.out hex
   simp only [af7,ar6,List.headD] at hcall
   cases hp:p x with
   | true=>
    have hi:=ad6 hx.out hp hno.out
    rw [hp] at hcall
    have Hi:=Lib.hid hi;clear hi hp
    go_wp2_with (go_at_fn g;refine hcall.mono ?_;rintro e w' ⟨rfl,hb'⟩)
    go_ret
    exact ⟨by rw [Hi.out];rfl,hex.trans hb'⟩
   | false=>
    have hi:=aB2 hno.out hx.out hp
    rw [hp] at hcall
    have Hi:=Lib.hid hi;clear hi hp hno
    go_wp2_with (go_at_fn g;refine hcall.mono ?_;rintro e w' ⟨rfl,hb'⟩)
    go_roundw
    case rel=>exact ⟨j+1,by omega,by go_num,Hi,hex.trans hb'⟩
    case measure=>simp [intOf];omega
  ·have hi:idx p xs = -1:=aB3 hno.out (by omega)
   have Hi:=Lib.hid hi;clear hi hno
   go_wp2_with fail
   go_ret
   exact ⟨by rw [Hi.out];rfl,hex⟩
theorem bg4 {w:World} {F:Nat→Prop} {xs:List (Int × Int)} {a:Option Addr} {cap:Nat} (h:Row 2 RTwo w F xs a cap) (hl:xs.length≤140737488355328) {g:FuncId} {cb:Array Value} {p:(Int × Int)→Bool}
  (hg:Asks Tryz.prog g cb w af7 RTwo xs p) :
  Calls Tryz.prog 163 #[.slice a xs.length cap,.func (.func g) #[] cb] w fun e w'=>e = .returned (.bool (xs.any p))∧Ex w w':=by
 have hc:=idx_two h hl hg
 have Ha:=Lib.hid (an5 p xs)
 go_enter Tryz.func163,Tryz.ntmps163
 go_wp2_with (go_at_call 179;refine hc.mono ?_;rintro e w' ⟨rfl,hb'⟩)
 go_ret
 exact ⟨by rw [← Ha.out];rfl,hb'⟩
theorem all1_two {w:World} {xs:List (Int × Int)} {g:FuncId} {cb:Array Value} {p:(Int × Int)→Bool} {B:Nat} (hB:w.cell? ⟨B,0,none⟩=some (.func (.func g) #[] cb))
  (hg:Asks Tryz.prog g cb w af7 RTwo xs p):Asks Tryz.prog 164 #[.pointer (some ⟨B,0,none⟩)] w af7 RTwo xs (fun x=>!p x):=by
 refine ⟨enters_of Tryz.func164 (by kernel_rfl) rfl,fun x vs W hm hr hW=>?_⟩
 have eg:=hg.enters
 have c0:=hW.cell hB
 have lB:B<W.heap.size:=World.block_lt_of_cell? _ _ c0
 have hr':=hr
 obtain ⟨rfl,_⟩:=hr
 have hcall:=fun W' (hx:Ex W W')=>hg.says x _ W' hm hr' (hW.trans hx)
 simp only [af7,ar6,List.headD,Array.append_empty] at hcall ⊢
 have Hc:=Lib.hid hcall;clear hcall
 show Calls _ _ #[_,_] _ _
 go_enter Tryz.func164,Tryz.ntmps164
 go_wp2_with (go_at_fn g;refine (Hc.out _ (by first|exact Ex.refl _|exact (Ex.refl _).alloc)).mono ?_;rintro e w' ⟨rfl,hb'⟩)
 go_ret
 exact ⟨rfl,by first|exact hb' | exact (Ex.refl _).alloc.trans hb'⟩
theorem all_two {w:World} {F:Nat→Prop} {xs:List (Int × Int)} {a:Option Addr} {cap:Nat} (h:Row 2 RTwo w F xs a cap) (hl:xs.length≤140737488355328) {g:FuncId} {cb:Array Value} {p:(Int × Int)→Bool}
  (hg:Asks Tryz.prog g cb w af7 RTwo xs p) :
  Calls Tryz.prog 135 #[.slice a xs.length cap,.func (.func g) #[] cb] w fun e w'=>e = .returned (.bool (xs.all p))∧Ex w w':=by
 have hcall:=fun B (hB:(w.alloc (.cells #[.func (.func g) #[] cb] 202)).cell? ⟨B,0,none⟩=some (.func (.func g) #[] cb))=>bg4 (h.keep (w':=w.alloc (.cells #[.func (.func g) #[] cb] 202)) (Ex.refl w).alloc.same (fun _ h=>h) (fun _ _ _ h=>h)) hl (all1_two hB (hg.mono (Ex.refl w).alloc))
 have Hc:=Lib.hid hcall;clear hcall
 have Ha:Hid ((!xs.any fun x=>!p x)=xs.all p):=Lib.hid (al2 p xs)
 go_enter Tryz.func135,Tryz.ntmps135
 go_wp2_with (go_at_call 163;refine (Hc.out _ (by simp)).mono ?_;rintro e w' ⟨rfl,hb'⟩)
 go_ret
 exact ⟨by rw [← Ha.out];rfl,(Ex.refl _).alloc.trans hb'⟩
theorem byt_cells {w w':World} {F:Nat→Prop} {xs:List UInt8} {a:Option Addr} {cap:Nat} (h:Row 1 RByte w F xs a cap) (hex:Same F w w') {i:Nat} (hi:i<xs.length) :
  ∃ x b off,Hid (xs[i]?=some x)∧a=some ⟨b,off,none⟩∧F b∧w'.cell? ⟨b,off+i,none⟩=some (.int .u8 x.toNat)∧Hid (RByte x [.int .u8 x.toNat]):=by
 obtain ⟨b,off,ha,hb,vs,hl,hr,hc⟩:=h.at_ i xs[i] (List.getElem?_eq_getElem hi)
 have hr':=hr
 obtain rfl:=hr
 exact ⟨xs[i],b,off,Lib.hid (List.getElem?_eq_getElem hi),ha,hb,hex.cell (p:=⟨b,off+i,none⟩) (by have:=hc 0 _ rfl;simpa using this) hb,hr'⟩
theorem idx_byt {w:World} {F:Nat→Prop} {xs:List UInt8} {a:Option Addr} {cap:Nat} (h:Row 1 RByte w F xs a cap) (hl:xs.length≤140737488355328) {g:FuncId} {cb:Array Value} {p:UInt8→Bool}
  (hg:Asks Tryz.prog g cb w ar6 RByte xs p) :
  Calls Tryz.prog 175 #[.slice a xs.length cap,.func (.func g) #[] cb] w fun e w'=>e = .returned (.int .i64 (idx p xs))∧Ex w w':=by
 have eg:=hg.enters
 go_enter Tryz.func175,Tryz.ntmps175
 go_wp2
 go_loopw [8] (fun i wr=>∃ j:Nat,j≤xs.length∧i = .int .i64 j∧Hid (∀ i y,i<j→xs[i]?=some y→p y=false)∧Ex w wr) (fun i _=>xs.length - (intOf i).toNat)
 case atStart=>exact ⟨0,by omega,rfl,fun i y h=>by omega,Ex.refl _⟩
 case round=>
  obtain ⟨j,hj,rfl,hno,hex⟩:=hrel
  by_cases hlt:j<xs.length
  ·obtain ⟨x,b,off,hx,rfl,_,c0,hr⟩:=byt_cells h hex.same hlt
   have hcall:=hg.says x _ wr (List.mem_of_getElem? hx.out) hr.out hex
   simp only [af7,ar6,List.headD] at hcall
   cases hp:p x with
   | true=>
    have hi:=ad6 hx.out hp hno.out
    rw [hp] at hcall
    have Hi:=Lib.hid hi;clear hi hp
    go_wp2_with (go_at_fn g;refine hcall.mono ?_;rintro e w' ⟨rfl,hb'⟩)
    go_ret
    exact ⟨by rw [Hi.out];rfl,hex.trans hb'⟩
   | false=>
    have hi:=aB2 hno.out hx.out hp
    rw [hp] at hcall
    have Hi:=Lib.hid hi;clear hi hp hno
    go_wp2_with (go_at_fn g;refine hcall.mono ?_;rintro e w' ⟨rfl,hb'⟩)
    go_roundw
    case rel=>exact ⟨j+1,by omega,by go_num,Hi,hex.trans hb'⟩
    case measure=>simp [intOf];omega
  ·have hi:idx p xs = -1:=aB3 hno.out (by omega)
   have Hi:=Lib.hid hi;clear hi hno
   go_wp2_with fail
   go_ret
   exact ⟨by rw [Hi.out];rfl,hex⟩
theorem bh0 {w:World} {F:Nat→Prop} {xs:List UInt8} {a:Option Addr} {cap:Nat} (h:Row 1 RByte w F xs a cap) (hl:xs.length≤140737488355328) {g:FuncId} {cb:Array Value} {p:UInt8→Bool}
  (hg:Asks Tryz.prog g cb w ar6 RByte xs p) :
  Calls Tryz.prog 153 #[.slice a xs.length cap,.func (.func g) #[] cb] w fun e w'=>e = .returned (.bool (xs.any p))∧Ex w w':=by
 have hc:=idx_byt h hl hg
 have Ha:=Lib.hid (an5 p xs)
 go_enter Tryz.func153,Tryz.ntmps153
 go_wp2_with (go_at_call 175;refine hc.mono ?_;rintro e w' ⟨rfl,hb'⟩)
 go_ret
 exact ⟨by rw [← Ha.out];rfl,hb'⟩
end
section
open Go.RowKit Go.Shelf
theorem or_any (xs:List ByteArray) (w:World) {F:Nat→Prop} {a:Option Addr} {cap:Nat} (h:aw9 w F xs a cap) (hl:xs.length≤1000000) :
  Calls Tryz.prog 168 #[.slice a xs.length cap] w fun e w'=>∃ s:ByteArray,e = .returned (.string s)∧(s=⟨#[]⟩∨s∈xs)∧w=w':=by
 go_enter Tryz.func168,Tryz.ntmps168
 go_wp2
 go_loop [8] (fun i=>∃ j:Nat,j≤xs.length∧i = .int .i64 j) (fun i=>xs.length - (intOf i).toNat)
 case atStart=>exact ⟨0,by omega,rfl⟩
 case round=>
  obtain ⟨j,hj,rfl⟩:=hrel
  by_cases hlt:j<xs.length
  ·obtain ⟨x,b,off,hx,rfl,_,c0,_⟩:=au2 h (Ex.refl w).same hlt
   cases he:x.toList.isEmpty
   ·go_wp2
    go_ret
    exact ⟨x,rfl,.inr (List.mem_of_getElem? hx.out),rfl⟩
   ·go_wp2
    go_round
    case rel=>exact ⟨j+1,by omega,by go_num⟩
    case measure=>simp [intOf];omega
  ·go_wp2
   go_ret
   exact ⟨_,rfl,.inl rfl,rfl⟩
theorem strs_new (w:World) (T:TypeId) (l:List ByteArray):aw9 (w.alloc (.cells (l.map Value.string).toArray T)) (fun _=>True) l (some ⟨w.heap.size,0,none⟩) l.length:=
 ⟨Nat.le_refl _,fun i x hx=>⟨w.heap.size,0,rfl,trivial,[.string x],rfl,rfl,fun j v hj=>by
  cases j with
  | zero=>simp at hj;subst hj;simp [hx]
  | succ j=>simp at hj⟩⟩
theorem aD8 (s:ByteArray) (w:World) :
  Calls Tryz.prog 141 #[.string s] w fun e w'=>∃ t:ByteArray,e = .returned (.string t)∧t.size≤s.size+1∧Ex w w':=by
 have HO:=Lib.hid (or_any [s,⟨#[45]⟩] _ (strs_new w 9 [s,⟨#[45]⟩]) (by simp))
 go_enter Tryz.func141,Tryz.ntmps141
 go_wp2_with (go_at_call 168;refine HO.out.mono ?_;rintro e w' ⟨t,rfl,ht,rfl⟩)
 go_ret
 refine ⟨t,rfl,?_,cl0⟩
 rcases ht with rfl|h
 ·exact Nat.zero_le _
 ·simp only [List.mem_cons,List.not_mem_nil,or_false] at h
  rcases h with rfl|rfl
  ·omega
  ·show 1≤_;omega
def anyV:Int ⊕ ByteArray→Value
 | .inl n=>.iface 3 (.int .i64 n)
 | .inr s=>.iface 9 (.string s)
theorem any_new (w:World) (T:TypeId) (items:List (Int ⊕ ByteArray)) (hi:∀ n,Sum.inl n∈items→I64 n):Row 1 RAny (w.alloc (.cells (items.map anyV).toArray T)) (fun _=>True) items (some ⟨w.heap.size,0,none⟩) items.length:=
 ⟨Nat.le_refl _,fun i x hx=>⟨w.heap.size,0,rfl,trivial,[anyV x],rfl,by
  cases x with
  | inl n=>exact ⟨rfl,hi n (List.mem_of_getElem? hx)⟩
  | inr s=>rfl,fun j v hj=>by
  cases j with
  | zero=>simp at hj;subst hj;simp [hx]
  | succ j=>simp at hj⟩⟩
theorem ak3 (word:ByteArray) (items:List (Int ⊕ ByteArray)) (w:World) (hi:∀ n,Sum.inl n∈items→I64 n) (hp:Pow10 w) (hl:items.length≤1000000) (hm:word.size+ab9 items≤1000000000) :
  Calls Tryz.prog 139 #[.string word,.slice (some ⟨w.heap.size,0,none⟩) items.length items.length] (w.alloc (.cells (items.map anyV).toArray 20)) fun e w'=>∃ s:ByteArray,e = .returned (.string s)∧s.size≤word.size+ab9 items+1∧Ex w w':=
 (aY6 word items _ (any_new w _ items hi) (hp.ex (Ex.refl w).alloc) hl hm).mono fun e w' ⟨s,h1,h2,h3⟩=>⟨s,h1,h2,(Ex.refl w).alloc.trans h3⟩
theorem WordsAt.ex {w w':World} (h:WordsAt w) (he:Ex w w'):WordsAt w':=fun i s hs=>he.cell (h i s hs)
theorem field_0 (n o u:ByteArray) (lo hi:Int) (nw ng:Nat) (w:World) (wa ga:Option Addr) (cw cg:Nat) (hr1:n.size≤1000000) (hr2:o.size≤1000000) (hr3:u.size≤1000000) (h1:I64 lo) (h2:I64 hi) (hp:Pow10 w) (hwd:WordsAt w) :
  Calls Tryz.prog 140 #[.agg #[.string n,.string o,.string u,.int .i64 0,.int .i64 lo,.int .i64 hi,.slice wa nw cw,.slice ga ng cg]] w fun e w'=>∃ s:ByteArray,e = .returned (.string s)∧s.size≤16+n.size+o.size+u.size+intB lo+intB hi∧Ex w w':=by
 have c0:=hwd 0 _ rfl
 have lB:1<w.heap.size:=World.block_lt_of_cell? _ _ c0
 have i1:=ae1 lo
 have i2:=ae1 hi
 have HB:Hid (ab9 [.inr n,.inl lo]+6≤16+n.size+o.size+u.size+intB lo+intB hi):=by unfold Hid;simp [ab9,ar7];omega
 have HL:Hid (∀ (W:World) (N:Nat),Ex w W→N=W.heap.size→Calls Tryz.prog 139 #[.string ⟨#[107,101,121]⟩,.slice (some ⟨N,0,none⟩) 2 2] (W.alloc (.cells #[.iface 9 (.string n),.iface 3 (.int .i64 lo)] 20)) fun e w'=>∃ s:ByteArray,e = .returned (.string s)∧s.size≤3+ab9 [.inr n,.inl lo]+1∧Ex W w'):=Lib.hid (by
  intro W N he hN
  subst hN
  exact ak3 ⟨#[107,101,121]⟩ [.inr n,.inl lo] W (by simp [h1,h2]) (hp.ex he) (by simp) (by have:=HB.out;show 3+_≤_;omega))
 go_enter Tryz.func140,Tryz.ntmps140
 go_wp2_with (go_at_call 139;refine (HL.out _ _ cl0 (by simp)).mono ?_;rintro e w1 ⟨s,rfl,hs,hb1⟩)
 go_ret
 refine ⟨s,rfl,?_,cl0⟩
 have:=HB.out
 omega
theorem field_2 (n o u:ByteArray) (lo hi:Int) (nw ng:Nat) (w:World) (wa ga:Option Addr) (cw cg:Nat) (hr1:n.size≤1000000) (hr2:o.size≤1000000) (hr3:u.size≤1000000) (h1:I64 lo) (h2:I64 hi) (hp:Pow10 w) (hwd:WordsAt w) :
  Calls Tryz.prog 140 #[.agg #[.string n,.string o,.string u,.int .i64 2,.int .i64 lo,.int .i64 hi,.slice wa nw cw,.slice ga ng cg]] w fun e w'=>∃ s:ByteArray,e = .returned (.string s)∧s.size≤16+n.size+o.size+u.size+intB lo+intB hi∧Ex w w':=by
 have c0:=hwd 2 _ rfl
 have lB:1<w.heap.size:=World.block_lt_of_cell? _ _ c0
 have i1:=ae1 lo
 have i2:=ae1 hi
 have HB:Hid (ab9 [.inr n,.inl lo,.inl hi]+6≤16+n.size+o.size+u.size+intB lo+intB hi):=by unfold Hid;simp [ab9,ar7];omega
 have HL:Hid (∀ (W:World) (N:Nat),Ex w W→N=W.heap.size→Calls Tryz.prog 139 #[.string ⟨#[110,117,109]⟩,.slice (some ⟨N,0,none⟩) 3 3] (W.alloc (.cells #[.iface 9 (.string n),.iface 3 (.int .i64 lo),.iface 3 (.int .i64 hi)] 20)) fun e w'=>∃ s:ByteArray,e = .returned (.string s)∧s.size≤3+ab9 [.inr n,.inl lo,.inl hi]+1∧Ex W w'):=Lib.hid (by
  intro W N he hN
  subst hN
  exact ak3 ⟨#[110,117,109]⟩ [.inr n,.inl lo,.inl hi] W (by simp [h1,h2]) (hp.ex he) (by simp) (by have:=HB.out;show 3+_≤_;omega))
 go_enter Tryz.func140,Tryz.ntmps140
 go_wp2_with (go_at_call 139;refine (HL.out _ _ cl0 (by simp)).mono ?_;rintro e w1 ⟨s,rfl,hs,hb1⟩)
 go_ret
 refine ⟨s,rfl,?_,cl0⟩
 have:=HB.out
 omega
theorem field_6 (n o u:ByteArray) (lo hi:Int) (nw ng:Nat) (w:World) (wa ga:Option Addr) (cw cg:Nat) (hr1:n.size≤1000000) (hr2:o.size≤1000000) (hr3:u.size≤1000000) (h1:I64 lo) (h2:I64 hi) (hp:Pow10 w) (hwd:WordsAt w) :
  Calls Tryz.prog 140 #[.agg #[.string n,.string o,.string u,.int .i64 6,.int .i64 lo,.int .i64 hi,.slice wa nw cw,.slice ga ng cg]] w fun e w'=>∃ s:ByteArray,e = .returned (.string s)∧s.size≤16+n.size+o.size+u.size+intB lo+intB hi∧Ex w w':=by
 have c0:=hwd 6 _ rfl
 have lB:1<w.heap.size:=World.block_lt_of_cell? _ _ c0
 have i1:=ae1 lo
 have i2:=ae1 hi
 have HB:Hid (ab9 [.inr n,.inr o]+6≤16+n.size+o.size+u.size+intB lo+intB hi):=by unfold Hid;simp [ab9,ar7];omega
 have HL:Hid (∀ (W:World) (N:Nat),Ex w W→N=W.heap.size→Calls Tryz.prog 139 #[.string ⟨#[115,117,109]⟩,.slice (some ⟨N,0,none⟩) 2 2] (W.alloc (.cells #[.iface 9 (.string n),.iface 9 (.string o)] 20)) fun e w'=>∃ s:ByteArray,e = .returned (.string s)∧s.size≤3+ab9 [.inr n,.inr o]+1∧Ex W w'):=Lib.hid (by
  intro W N he hN
  subst hN
  exact ak3 ⟨#[115,117,109]⟩ [.inr n,.inr o] W (by simp [h1,h2]) (hp.ex he) (by simp) (by have:=HB.out;show 3+_≤_;omega))
 go_enter Tryz.func140,Tryz.ntmps140
 go_wp2_with (go_at_call 139;refine (HL.out _ _ cl0 (by simp)).mono ?_;rintro e w1 ⟨s,rfl,hs,hb1⟩)
 go_ret
 refine ⟨s,rfl,?_,cl0⟩
 have:=HB.out
 omega
theorem field_7 (n o u:ByteArray) (lo hi:Int) (nw ng:Nat) (w:World) (wa ga:Option Addr) (cw cg:Nat) (hr1:n.size≤1000000) (hr2:o.size≤1000000) (hr3:u.size≤1000000) (h1:I64 lo) (h2:I64 hi) (hp:Pow10 w) (hwd:WordsAt w) :
  Calls Tryz.prog 140 #[.agg #[.string n,.string o,.string u,.int .i64 7,.int .i64 lo,.int .i64 hi,.slice wa nw cw,.slice ga ng cg]] w fun e w'=>∃ s:ByteArray,e = .returned (.string s)∧s.size≤16+n.size+o.size+u.size+intB lo+intB hi∧Ex w w':=by
 have c0:=hwd 7 _ rfl
 have lB:1<w.heap.size:=World.block_lt_of_cell? _ _ c0
 have i1:=ae1 lo
 have i2:=ae1 hi
 have HB:Hid (ab9 [.inr n,.inr u,.inr o,.inl lo,.inl hi]+6≤16+n.size+o.size+u.size+intB lo+intB hi):=by unfold Hid;simp [ab9,ar7];omega
 have HL:Hid (∀ (W:World) (N:Nat),Ex w W→N=W.heap.size→Calls Tryz.prog 139 #[.string ⟨#[115,104,97,114,101]⟩,.slice (some ⟨N,0,none⟩) 5 5] (W.alloc (.cells #[.iface 9 (.string n),.iface 9 (.string u),.iface 9 (.string o),.iface 3 (.int .i64 lo),.iface 3 (.int .i64 hi)] 20)) fun e w'=>∃ s:ByteArray,e = .returned (.string s)∧s.size≤5+ab9 [.inr n,.inr u,.inr o,.inl lo,.inl hi]+1∧Ex W w'):=Lib.hid (by
  intro W N he hN
  subst hN
  exact ak3 ⟨#[115,104,97,114,101]⟩ [.inr n,.inr u,.inr o,.inl lo,.inl hi] W (by simp [h1,h2]) (hp.ex he) (by simp) (by have:=HB.out;show 5+_≤_;omega))
 go_enter Tryz.func140,Tryz.ntmps140
 go_wp2_with (go_at_call 139;refine (HL.out _ _ cl0 (by simp)).mono ?_;rintro e w1 ⟨s,rfl,hs,hb1⟩)
 go_ret
 refine ⟨s,rfl,?_,cl0⟩
 have:=HB.out
 omega
theorem field_8 (n o u:ByteArray) (lo hi:Int) (nw ng:Nat) (w:World) (wa ga:Option Addr) (cw cg:Nat) (hr1:n.size≤1000000) (hr2:o.size≤1000000) (hr3:u.size≤1000000) (h1:I64 lo) (h2:I64 hi) (hp:Pow10 w) (hwd:WordsAt w) :
  Calls Tryz.prog 140 #[.agg #[.string n,.string o,.string u,.int .i64 8,.int .i64 lo,.int .i64 hi,.slice wa nw cw,.slice ga ng cg]] w fun e w'=>∃ s:ByteArray,e = .returned (.string s)∧s.size≤16+n.size+o.size+u.size+intB lo+intB hi∧Ex w w':=by
 have c0:=hwd 8 _ rfl
 have lB:1<w.heap.size:=World.block_lt_of_cell? _ _ c0
 have i1:=ae1 lo
 have i2:=ae1 hi
 have HB:Hid (ab9 [.inr n,.inr u,.inr o]+6≤16+n.size+o.size+u.size+intB lo+intB hi):=by unfold Hid;simp [ab9,ar7];omega
 have HL:Hid (∀ (W:World) (N:Nat),Ex w W→N=W.heap.size→Calls Tryz.prog 139 #[.string ⟨#[99,111,112,121]⟩,.slice (some ⟨N,0,none⟩) 3 3] (W.alloc (.cells #[.iface 9 (.string n),.iface 9 (.string u),.iface 9 (.string o)] 20)) fun e w'=>∃ s:ByteArray,e = .returned (.string s)∧s.size≤4+ab9 [.inr n,.inr u,.inr o]+1∧Ex W w'):=Lib.hid (by
  intro W N he hN
  subst hN
  exact ak3 ⟨#[99,111,112,121]⟩ [.inr n,.inr u,.inr o] W (by simp [h1,h2]) (hp.ex he) (by simp) (by have:=HB.out;show 4+_≤_;omega))
 go_enter Tryz.func140,Tryz.ntmps140
 go_wp2_with (go_at_call 139;refine (HL.out _ _ cl0 (by simp)).mono ?_;rintro e w1 ⟨s,rfl,hs,hb1⟩)
 go_ret
 refine ⟨s,rfl,?_,cl0⟩
 have:=HB.out
 omega
end
section
open Go.RowKit Go.Shelf
theorem field_1 (n o u:ByteArray) (lo hi:Int) (nw ng:Nat) (w:World) (wa ga:Option Addr) (cw cg:Nat) (hr1:n.size≤1000000) (hr2:o.size≤1000000) (hr3:u.size≤1000000) (h1:I64 lo) (h2:I64 hi) (hp:Pow10 w) (hwd:WordsAt w) :
  Calls Tryz.prog 140 #[.agg #[.string n,.string o,.string u,.int .i64 1,.int .i64 lo,.int .i64 hi,.slice wa nw cw,.slice ga ng cg]] w fun e w'=>∃ s:ByteArray,e = .returned (.string s)∧s.size≤16+n.size+o.size+u.size+intB lo+intB hi∧Ex w w':=by
 have c0:=hwd 1 _ rfl
 have lB:1<w.heap.size:=World.block_lt_of_cell? _ _ c0
 have i1:=ae1 lo
 have i2:=ae1 hi
 have HB:Hid (∀ t:ByteArray,t.size≤o.size+1→ab9 [.inr n,.inr t,.inl lo,.inl hi]+6≤16+n.size+o.size+u.size+intB lo+intB hi):=by unfold Hid;intro t ht;simp [ab9,ar7];omega
 have HL:Hid (∀ (W:World) (N:Nat) (t:ByteArray),t.size≤o.size+1→Ex w W→N=W.heap.size→Calls Tryz.prog 139 #[.string ⟨#[114,101,102]⟩,.slice (some ⟨N,0,none⟩) 4 4] (W.alloc (.cells #[.iface 9 (.string n),.iface 9 (.string t),.iface 3 (.int .i64 lo),.iface 3 (.int .i64 hi)] 20)) fun e w'=>∃ s:ByteArray,e = .returned (.string s)∧s.size≤3+ab9 [.inr n,.inr t,.inl lo,.inl hi]+1∧Ex W w'):=Lib.hid (by
  intro W N t ht he hN
  subst hN
  exact ak3 ⟨#[114,101,102]⟩ [.inr n,.inr t,.inl lo,.inl hi] W (by simp [h1,h2]) (hp.ex he) (by simp) (by have:=HB.out t ht;show 3+_≤_;omega))
 go_enter Tryz.func140,Tryz.ntmps140
 go_wp2
 go_region_held3 (fun W=>W.cell? ⟨w.heap.size,0,none⟩=some (.string n)∧W.cell? ⟨w.heap.size,1,none⟩=some (.string o)∧W.cell? ⟨w.heap.size,4,none⟩=some (.int .i64 lo)∧W.cell? ⟨w.heap.size,5,none⟩=some (.int .i64 hi)) (go_keep) (first|(go_at_call 141;refine (aD8 _ _).mono ?_;rintro e w1 ⟨t,rfl,ht,hb1⟩;(have hq7:=ru7;(try clear hc hf);obtain ⟨hb,hc,hf,hz⟩:=hq7;(try simp only [zsz7] at hz);(try have hz0:=z07 w w1);(try have hz1:=z17 w w1);(try have hz2:=z27 w w1)))|(go_at_call 139;refine (HL.out _ _ _ ht cl0 (by first|rfl|simp)).mono ?_;rintro e w1 ⟨s,rfl,hs,hb1⟩;(have hq7:=ru7;(try clear hc hf);obtain ⟨hb,hc,hf,hz⟩:=hq7;(try simp only [zsz7] at hz);(try have hz0:=z07 w w1);(try have hz1:=z17 w w1);(try have hz2:=z27 w w1))))
 all_goals go_wp2
 all_goals go_ret
 all_goals
  refine ⟨s,rfl,?_,cl0⟩
  have:=HB.out t ht
  omega
theorem field_4 (n o u:ByteArray) (lo hi:Int) (nw ng:Nat) (w:World) (wa ga:Option Addr) (cw cg:Nat) (hr1:n.size≤1000000) (hr2:o.size≤1000000) (hr3:u.size≤1000000) (h1:I64 lo) (h2:I64 hi) (hp:Pow10 w) (hwd:WordsAt w) :
  Calls Tryz.prog 140 #[.agg #[.string n,.string o,.string u,.int .i64 4,.int .i64 lo,.int .i64 hi,.slice wa nw cw,.slice ga ng cg]] w fun e w'=>∃ s:ByteArray,e = .returned (.string s)∧s.size≤16+n.size+o.size+u.size+intB lo+intB hi∧Ex w w':=by
 have c0:=hwd 4 _ rfl
 have lB:1<w.heap.size:=World.block_lt_of_cell? _ _ c0
 have i1:=ae1 lo
 have i2:=ae1 hi
 have HB:Hid (∀ t:ByteArray,t.size≤o.size+1→ab9 [.inr n,.inr t,.inl lo,.inl hi]+6≤16+n.size+o.size+u.size+intB lo+intB hi):=by unfold Hid;intro t ht;simp [ab9,ar7];omega
 have HL:Hid (∀ (W:World) (N:Nat) (t:ByteArray),t.size≤o.size+1→Ex w W→N=W.heap.size→Calls Tryz.prog 139 #[.string ⟨#[100,97,121]⟩,.slice (some ⟨N,0,none⟩) 4 4] (W.alloc (.cells #[.iface 9 (.string n),.iface 9 (.string t),.iface 3 (.int .i64 lo),.iface 3 (.int .i64 hi)] 20)) fun e w'=>∃ s:ByteArray,e = .returned (.string s)∧s.size≤3+ab9 [.inr n,.inr t,.inl lo,.inl hi]+1∧Ex W w'):=Lib.hid (by
  intro W N t ht he hN
  subst hN
  exact ak3 ⟨#[100,97,121]⟩ [.inr n,.inr t,.inl lo,.inl hi] W (by simp [h1,h2]) (hp.ex he) (by simp) (by have:=HB.out t ht;show 3+_≤_;omega))
 go_enter Tryz.func140,Tryz.ntmps140
 go_wp2
 go_region_held3 (fun W=>W.cell? ⟨w.heap.size,0,none⟩=some (.string n)∧W.cell? ⟨w.heap.size,1,none⟩=some (.string o)∧W.cell? ⟨w.heap.size,4,none⟩=some (.int .i64 lo)∧W.cell? ⟨w.heap.size,5,none⟩=some (.int .i64 hi)) (go_keep) (first|(go_at_call 141;refine (aD8 _ _).mono ?_;rintro e w1 ⟨t,rfl,ht,hb1⟩;(have hq7:=ru7;(try clear hc hf);obtain ⟨hb,hc,hf,hz⟩:=hq7;(try simp only [zsz7] at hz);(try have hz0:=z07 w w1);(try have hz1:=z17 w w1);(try have hz2:=z27 w w1)))|(go_at_call 139;refine (HL.out _ _ _ ht cl0 (by first|rfl|simp)).mono ?_;rintro e w1 ⟨s,rfl,hs,hb1⟩;(have hq7:=ru7;(try clear hc hf);obtain ⟨hb,hc,hf,hz⟩:=hq7;(try simp only [zsz7] at hz);(try have hz0:=z07 w w1);(try have hz1:=z17 w w1);(try have hz2:=z27 w w1))))
 all_goals go_wp2
 all_goals go_ret
 all_goals
  refine ⟨s,rfl,?_,cl0⟩
  have:=HB.out t ht
  omega
theorem field_5 (n o u:ByteArray) (lo hi:Int) (nw ng:Nat) (w:World) (wa ga:Option Addr) (cw cg:Nat) (hr1:n.size≤1000000) (hr2:o.size≤1000000) (hr3:u.size≤1000000) (h1:I64 lo) (h2:I64 hi) (hp:Pow10 w) (hwd:WordsAt w) :
  Calls Tryz.prog 140 #[.agg #[.string n,.string o,.string u,.int .i64 5,.int .i64 lo,.int .i64 hi,.slice wa nw cw,.slice ga ng cg]] w fun e w'=>∃ s:ByteArray,e = .returned (.string s)∧s.size≤16+n.size+o.size+u.size+intB lo+intB hi∧Ex w w':=by
 have c0:=hwd 5 _ rfl
 have lB:1<w.heap.size:=World.block_lt_of_cell? _ _ c0
 have i1:=ae1 lo
 have i2:=ae1 hi
 have HB:Hid (∀ t:ByteArray,t.size≤o.size+1→ab9 [.inr n,.inr t,.inl lo,.inl hi]+6≤16+n.size+o.size+u.size+intB lo+intB hi):=by unfold Hid;intro t ht;simp [ab9,ar7];omega
 have HL:Hid (∀ (W:World) (N:Nat) (t:ByteArray),t.size≤o.size+1→Ex w W→N=W.heap.size→Calls Tryz.prog 139 #[.string ⟨#[115,116,101,112]⟩,.slice (some ⟨N,0,none⟩) 4 4] (W.alloc (.cells #[.iface 9 (.string n),.iface 9 (.string t),.iface 3 (.int .i64 lo),.iface 3 (.int .i64 hi)] 20)) fun e w'=>∃ s:ByteArray,e = .returned (.string s)∧s.size≤4+ab9 [.inr n,.inr t,.inl lo,.inl hi]+1∧Ex W w'):=Lib.hid (by
  intro W N t ht he hN
  subst hN
  exact ak3 ⟨#[115,116,101,112]⟩ [.inr n,.inr t,.inl lo,.inl hi] W (by simp [h1,h2]) (hp.ex he) (by simp) (by have:=HB.out t ht;show 4+_≤_;omega))
 go_enter Tryz.func140,Tryz.ntmps140
 go_wp2
 go_region_held3 (fun W=>W.cell? ⟨w.heap.size,0,none⟩=some (.string n)∧W.cell? ⟨w.heap.size,1,none⟩=some (.string o)∧W.cell? ⟨w.heap.size,4,none⟩=some (.int .i64 lo)∧W.cell? ⟨w.heap.size,5,none⟩=some (.int .i64 hi)) (go_keep) (first|(go_at_call 141;refine (aD8 _ _).mono ?_;rintro e w1 ⟨t,rfl,ht,hb1⟩;(have hq7:=ru7;(try clear hc hf);obtain ⟨hb,hc,hf,hz⟩:=hq7;(try simp only [zsz7] at hz);(try have hz0:=z07 w w1);(try have hz1:=z17 w w1);(try have hz2:=z27 w w1)))|(go_at_call 139;refine (HL.out _ _ _ ht cl0 (by first|rfl|simp)).mono ?_;rintro e w1 ⟨s,rfl,hs,hb1⟩;(have hq7:=ru7;(try clear hc hf);obtain ⟨hb,hc,hf,hz⟩:=hq7;(try simp only [zsz7] at hz);(try have hz0:=z07 w w1);(try have hz1:=z17 w w1);(try have hz2:=z27 w w1))))
 all_goals go_wp2
 all_goals go_ret
 all_goals
  refine ⟨s,rfl,?_,cl0⟩
  have:=HB.out t ht
  omega
end
section
open Go.RowKit
def cellsOf {α:Type} (C:α→List Value) (xs:List α):List Value:=xs.flatMap C
theorem aP3 {α:Type} {C:α→List Value} {k:Nat}:∀ {xs:List α} {i:Nat} {x:α} {j:Nat} {v:Value},(∀ x,x∈xs→(C x).length=k)→xs[i]?=some x→(C x)[j]?=some v→(cellsOf C xs)[i*k+j]?=some v
 | [],i,x,j,v,_,h,_=>by simp at h
 | y :: xs,0,x,j,v,hk,h,hj=>by
  simp at h;subst h
  simp only [cellsOf,List.flatMap_cons,Nat.zero_mul,Nat.zero_add]
  rw [List.getElem?_append_left (List.getElem?_eq_some_iff.1 hj).1];exact hj
 | y :: xs,i+1,x,j,v,hk,h,hj=>by
  simp at h
  have:=aP3 (xs:=xs) (fun z hz=>hk z (List.mem_cons_of_mem _ hz)) h hj
  simp only [cellsOf,List.flatMap_cons] at *
  have hy:=hk y (List.mem_cons_self ..)
  rw [List.getElem?_append_right (by rw [hy,Nat.add_mul];omega),hy,Nat.add_mul]
  rw [show i*k+1*k+j - k=i*k+j from by omega];exact this
theorem aM2 {α:Type} {w:World} {base k:Nat} {e:TypeId} {v:Value} {C:α→List Value} {R:α→List Value→Prop} {xs:List α} {n:Nat} (hn:n=xs.length)
  (h:w.ownsRow base e k v n (cellsOf C xs)) (hk:∀ x,x∈xs→(C x).length=k) (hR:∀ x,x∈xs→R x (C x)) :
  ∃ a cap,v = .slice a xs.length cap∧Row k R w (fun b=>some b=v.ownBlock) xs a cap:=by
 subst hn
 rcases h.2 with ⟨rfl,h0⟩|⟨g,cap,cur,rfl,hg,hh,hle,_,hs,ht⟩
 ·have:xs=[]:=List.eq_nil_of_length_eq_zero h0
  subst this
  exact ⟨none,0,rfl,Row.nil⟩
 ·refine ⟨_,cap,rfl,hle,fun i x hx=>⟨g,0,rfl,rfl,C x,hk x (List.mem_of_getElem? hx),hR x (List.mem_of_getElem? hx),fun j u hj=>?_⟩⟩
  have h1:=aP3 hk hx hj
  rw [← ht] at h1
  have h2:cur.toList[i*k+j]?=some u:=by
   have:=(List.getElem?_eq_some_iff.1 h1).1
   rw [List.getElem?_take] at h1
   split at h1
   ·exact h1
   ·simp at h1
  simp only [World.cell?,hh,Nat.zero_add]
  simpa using h2
theorem az3 {w:World} {base k n:Nat} {e:TypeId} {v:Value} {xs:List Value} (h:w.ownsRow base e k v n xs):∃ a cap,v = .slice a n cap:=by
 rcases h.2 with ⟨rfl,h0⟩|⟨g,cap,cur,rfl,_⟩
 ·exact ⟨none,0,by rw [h0]⟩
 ·exact ⟨_,_,rfl⟩
theorem Ex.appended {w wr w':World} {base k n:Nat} {e:TypeId} {v:Value} {xs:List Value} (he:Ex w wr) (h:wr.ownsRow base e k v n xs) (hB:w.heap.size≤base) (hg:wr.grownBy w' v.ownBlock):Ex w w':=
 he.grown hg (fun j hj=>by have:=(h.lt j hj).1;omega)
end
section
open Go.RowKit Go.Shelf
theorem aa8 {a b:Bool} (h:a=b):Ending.returned (.bool a) = .returned (.bool b):=by rw [h]
theorem ax5 {k:IntKind} {a b:Int} (h:a=b):Ending.returned (.int k a) = .returned (.int k b):=by rw [h]
theorem ab1 (n a b:Int) (w:World):Calls Tryz.prog 107 #[.int .i64 n,.int .i64 a,.int .i64 b] w fun e w'=>e = .returned (.bool (ab5 n a b))∧w=w':=by
 by_cases h1:a≤n
 all_goals
  go_enter Tryz.func107,Tryz.ntmps107
  go_wp2
  go_ret
  exact ⟨aa8 (by simp [ab5];try omega),rfl⟩
theorem ah7 (lo hi a b:Int) (w:World):Calls Tryz.prog 130 #[.int .i64 lo,.int .i64 hi,.int .i64 a,.int .i64 b] w fun e w'=>e = .returned (.bool (an2 lo hi a b))∧w=w':=by
 by_cases h1:a≤lo <;> by_cases h2:lo≤hi
 all_goals
  go_enter Tryz.func130,Tryz.ntmps130
  go_wp2
  go_ret
  exact ⟨aa8 (by simp only [an2];rw [Bool.eq_iff_iff];simp;try omega),rfl⟩
theorem aI0 (c:UInt8) (w:World):Calls Tryz.prog 152 #[.int .u8 c.toNat] w fun e w'=>e = .returned (.bool (ax7 c))∧w=w':=by
 by_cases h1:97≤(c.toNat:Int)
 all_goals
  go_enter Tryz.func152,Tryz.ntmps152
  go_wp2
  go_ret
  exact ⟨aa8 (by simp [ax7];try omega),rfl⟩
theorem isDigit_any (c:UInt8) (w:World):Calls Tryz.prog 155 #[.int .u8 c.toNat] w fun e w'=>e = .returned (.bool (digit c))∧w=w':=by
 by_cases h1:48≤(c.toNat:Int)
 all_goals
  go_enter Tryz.func155,Tryz.ntmps155
  go_wp2
  go_ret
  exact ⟨aa8 (by simp [digit];try omega),rfl⟩
theorem bf3 (w:World) (l:List UInt8):Asks Tryz.prog 154 #[] w ar6 RByte l (fun c=>!alnum c):=by
 refine ⟨enters_of Tryz.func154 (by kernel_rfl) rfl,fun c vs W hm hr hW=>?_⟩
 cases hr
 show Calls _ _ #[.int .u8 c.toNat] _ _
 cases h:ax7 c
 all_goals
  go_enter Tryz.func154,Tryz.ntmps154
  go_wp2_with (first|(go_at_call 152;refine (aI0 _ _).mono ?_;rintro e w' ⟨rfl,rfl⟩)|(go_at_call 155;refine (isDigit_any _ _).mono ?_;rintro e w' ⟨rfl,rfl⟩))
  go_ret
  exact ⟨aa8 (by simp [alnum,h]),Ex.refl _⟩
theorem ba1 (w:World) (e:TypeId) (s:ByteArray):Ex w (Lib.bytesWorld w e s):=
 ⟨rfl,rfl,rfl,
  by rw [Lib.bytesWorld_size];omega,fun b hb _=>Lib.bytesWorld_at_old w e s b hb⟩
theorem aQ9 (w:World) (e:TypeId) (s:ByteArray) (cap:Nat) (hc:s.size≤cap):Row 1 RByte (Lib.bytesWorld w e s) (fun _=>True) (bytes s) (some ⟨w.heap.size,0,none⟩) cap:=
 ⟨by unfold bytes;simpa using hc,fun i x hx=>⟨w.heap.size,0,rfl,trivial,[.int .u8 x.toNat],rfl,rfl,fun j v hj=>by
  unfold bytes at hx
  obtain ⟨hi,rfl⟩:=List.getElem?_eq_some_iff.1 hx
  have hi':i<s.size:=by simpa using hi
  have:=Lib.bytesWorld_cell w e s i hi'
  cases j with
  | zero=>simp at hj;subst hj;simpa [List.getD,hi'] using this
  | succ j=>simp at hj⟩⟩
theorem aL4 (s:ByteArray):s.size=(bytes s).length:=by unfold bytes;rw [Array.length_toList];rfl
theorem ab7 (s:ByteArray) (w:World) (hs:s.size≤9223372036854775807):Calls Tryz.prog 129 #[.string s] w fun e w'=>e = .returned (.bool (isNm s))∧Ex w w':=by
 have HW:=Lib.hid (fun n (w:World)=>ab1 n 1 12 w)
 have HL:=Lib.hid aI0
 cases hw:ab5 s.size 1 12 with
 | false=>
  have HN:Hid (isNm s=false):=Lib.hid (by simp [isNm,hw])
  go_enter Tryz.func129,Tryz.ntmps129
  go_wp2_with (go_at_call 107;refine (HW.out _ _).mono ?_;rintro e w' ⟨rfl,rfl⟩)
  go_ret
  exact ⟨aa8 HN.out.symm,Ex.refl _⟩
 | true=>
  have h1:1≤s.size:=by simp [ab5] at hw;omega
  have h12:s.size≤12:=by simp [ab5] at hw;omega
  obtain ⟨c,r,hcr⟩:∃ c r,bytes s=c :: r:=by
   cases h:bytes s with
   | nil=>rw [aL4,h] at h1;simp at h1
   | cons c r=>exact ⟨c,r,rfl⟩
  have hs0:s[0]=c:=by
   have:(bytes s)[0]?=some c:=by rw [hcr];rfl
   unfold bytes at this
   simp only [Array.getElem?_toList] at this
   exact (Array.getElem?_eq_some_iff.1 this).2
  cases hl:ax7 c with
  | false=>
   have HN:Hid (isNm s=false):=Lib.hid (by simp [isNm,hw,hcr,hl])
   have HS:=Lib.hid hs0;clear hs0 hcr
   go_enter Tryz.func129,Tryz.ntmps129
   go_wp2_with (first|(go_at_call 107;refine (HW.out _ _).mono ?_;rintro e w' ⟨rfl,rfl⟩)|(go_at_call 152;rw [HS.out];refine (HL.out _ _).mono ?_;rintro e w' ⟨rfl,rfl⟩))
   go_ret
   exact ⟨aa8 HN.out.symm,Ex.refl _⟩
  | true=>
   have HN:Hid (isNm s=(bytes s).all alnum):=Lib.hid (by simp [isNm,hw,hcr,hl])
   have HA:=Lib.hid (al2 alnum (bytes s))
   have HS:=Lib.hid hs0;clear hs0 hcr
   have hlen:(bytes s).length≤140737488355328:=by rw [← aL4];omega
   have HC:Hid (∀ cap,s.size≤cap→Calls Tryz.prog 153 #[.slice (some ⟨w.heap.size,0,none⟩) s.size cap,.func (.func 154) #[] #[]] (Lib.bytesWorld w 5 s) fun e w'=>e = .returned (.bool ((bytes s).any fun c=>!alnum c))∧Ex (Lib.bytesWorld w 5 s) w'):=
    Lib.hid (fun cap hc=>by
     have:=bh0 (aQ9 w 5 s cap hc) hlen (bf3 _ _)
     rw [← aL4] at this;exact this)
   clear hlen
   have kc:=fun (w:World)=>Lib.run_convert_string_bytes (P:=Tryz.prog) w 9 204 5 s Tryz.underlying9 Tryz.underlying204 Tryz.underlying5
   have hcap:s.size≤grownCap w s.size 0 5:=grownCap_ge _ _ _ _
   go_enter Tryz.func129,Tryz.ntmps129
   go_wp2_with (first|(go_at_call 107;refine (HW.out _ _).mono ?_;rintro e w' ⟨rfl,rfl⟩)|(go_at_call 152;rw [HS.out];refine (HL.out _ _).mono ?_;rintro e w' ⟨rfl,rfl⟩)|(go_at_call 153;refine (HC.out _ hcap).mono ?_;rintro e w' ⟨rfl,hb⟩))
   go_ret
   exact ⟨aa8 (by rw [HN.out,← HA.out]),(ba1 _ _ _).trans hb⟩
end
end Go.Proofs.YtjbbmjjildhfbaaGreatDoor
