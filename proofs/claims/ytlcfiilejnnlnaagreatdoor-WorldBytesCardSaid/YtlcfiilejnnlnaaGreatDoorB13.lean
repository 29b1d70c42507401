/- A part of the proof: Lists SrcB SrcC Own SchemaA SchemaB SrcD SchemaC. -/
import Derived.Test.YtlcfiilejnnlnaaGreatDoorB12
import Derived.Test.YtlcfiilejnnlnaaGreatDoorProg
import Derived.Shelf.Abstract
import Derived.Deep.RegionWith
import Derived.Deep.RegionHeld3
import Derived.Maps.AppendAt
import Derived.Lib.ConvBytes
import Derived.Deep.QuietTactic
import Derived.BigQuiet
import Derived.RegionTactic
set_option maxRecDepth 100000
set_option maxHeartbeats 20000000
set_option linter.unusedVariables false
set_option linter.unusedSimpArgs false
namespace Go.Proofs.YtlcfiilejnnlnaaGreatDoor
section
open Go.RowKit Go.Shelf
set_option linter.unusedVariables false
structure Asks {α:Type} (P:Program) (g:FuncId) (cb:Array Value) (w:World) (arg:List Value→Value) (R:α→List Value→Prop) (xs:List α) (p:α→Bool):Prop where
 enters:∀ (args:Array Value) (w:World),(callFunc g args).run P w = .ok (.enter g args) w
 says:∀ x vs W,x∈xs→R x vs→Ex w W→Calls P g (#[arg vs] ++ cb) W fun e W'=>e = .returned (.bool (p x))∧Ex W W'
def ag2 (vs:List Value):Value:=.agg vs.toArray
def aq6 (vs:List Value):Value:=vs.headD undef
theorem ay9 {α:Type} {xs:List α} {p:α→Bool} {j:Nat} {x:α} (hno:∀ i y,i<j→xs[i]?=some y→p y=false) (hx:xs[j]?=some x) (hp:p x=false) :
  ∀ i y,i<j+1→xs[i]?=some y→p y=false:=fun i y hi hy=>by
 rcases Nat.lt_or_ge i j with h|h
 ·exact hno i y h hy
 ·obtain rfl:i=j:=by omega
  rw [hx] at hy;cases hy;exact hp
theorem ak6 {α:Type} (p:α→Bool) (xs:List α):(!xs.any fun x=>!p x)=xs.all p:=by
 induction xs with
 | nil=>rfl
 | cons x xs ih=>simp only [List.any_cons,List.all_cons,← ih];cases p x <;> simp
theorem az0 {α:Type} {xs:List α} {p:α→Bool} {j:Nat} (hno:∀ i y,i<j→xs[i]?=some y→p y=false) (hj:xs.length≤j):idx p xs = -1:=
 al9 (fun i y hy=>hno i y (by have:=(List.getElem?_eq_some_iff.1 hy).1;omega) hy)
theorem Asks.mono {α:Type} {P:Program} {g:FuncId} {cb:Array Value} {w w':World} {arg:List Value→Value} {R:α→List Value→Prop} {xs:List α} {p:α→Bool} (h:Asks P g cb w arg R xs p) (hx:Ex w w'):Asks P g cb w' arg R xs p:=
 ⟨h.enters,fun x vs W hm hr hw=>h.says x vs W hm hr (hx.trans hw)⟩
theorem aY6 {w w' w0:World} {F F0:Nat→Prop} {xs:List Knd} {a:Option Addr} {cap:Nat} (h:Row 4 (RKnd w0 F0) w F xs a cap) (hex:Same F w w') {i:Nat} (hi:i<xs.length) :
  ∃ x b off fa fc,Hid (xs[i]?=some x)∧a=some ⟨b,off,none⟩∧F b∧w'.cell? ⟨b,off+i*4,none⟩=some (.string x.name)∧w'.cell? ⟨b,off+i*4+1,none⟩=some (.int .i64 x.lo)∧w'.cell? ⟨b,off+i*4+2,none⟩=some (.int .i64 x.hi)∧w'.cell? ⟨b,off+i*4+3,none⟩=some (.slice fa x.fields.length fc)∧Hid ((RKnd w0 F0) x [.string x.name,.int .i64 x.lo,.int .i64 x.hi,.slice fa x.fields.length fc]):=by
 obtain ⟨b,off,ha,hb,vs,hl,hr,hc⟩:=h.at_ i xs[i] (List.getElem?_eq_getElem hi)
 have hr':=hr
 obtain ⟨fa,fc,rfl,_⟩:=hr
 exact ⟨xs[i],b,off,fa,fc,Lib.hid (List.getElem?_eq_getElem hi),ha,hb,hex.cell (hc 0 _ rfl) hb,hex.cell (hc 1 _ rfl) hb,hex.cell (hc 2 _ rfl) hb,hex.cell (hc 3 _ rfl) hb,hr'⟩
theorem bW2 {w w0:World} {F F0:Nat→Prop} {xs:List Knd} {a:Option Addr} {cap:Nat} (h:Row 4 (RKnd w0 F0) w F xs a cap) (hl:xs.length≤140737488355328) {g:FuncId} {cb:Array Value} {p:Knd→Bool}
  (hg:Asks Tryz.prog g cb w ag2 (RKnd w0 F0) xs p) :
  Calls Tryz.prog 108 #[.slice a xs.length cap,.func (.func g) #[] cb] w fun e w'=>e = .returned (.int .i64 (idx p xs))∧Ex w w':=by
 have eg:=hg.enters
 go_enter Tryz.func108,Tryz.ntmps108
 go_wp2
 go_loopw [8] (fun i wr=>∃ j:Nat,j≤xs.length∧i = .int .i64 j∧Hid (∀ i y,i<j→xs[i]?=some y→p y=false)∧Ex w wr) (fun i _=>xs.length - (intOf i).toNat)
 case atStart=>exact ⟨0,by omega,rfl,fun i y h=>by omega,Ex.refl _⟩
 case round=>
  obtain ⟨j,hj,rfl,hno,hex⟩:=hrel
  by_cases hlt:j<xs.length
  ·obtain ⟨x,b,off,fa,fc,hx,rfl,_,c0,c1,c2,c3,hr⟩:=aY6 h hex.same hlt
   have hcall:=hg.says x _ wr (List.mem_of_getElem? hx.out) hr.out hex
   simp only [ag2,aq6,List.headD] at hcall
   cases hp:p x with
   | true=>
    have hi:=ae7 hx.out hp hno.out
    rw [hp] at hcall
    have Hi:=Lib.hid hi;clear hi hp
    go_wp2_with (go_at_fn g;refine hcall.mono ?_;rintro e w' ⟨rfl,hb'⟩)
    go_ret
    exact ⟨by rw [Hi.out];rfl,hex.trans hb'⟩
   | false=>
    have hi:=ay9 hno.out hx.out hp
    rw [hp] at hcall
    have Hi:=Lib.hid hi;clear hi hp hno
    go_wp2_with (go_at_fn g;refine hcall.mono ?_;rintro e w' ⟨rfl,hb'⟩)
    go_roundw
    case rel=>exact ⟨j+1,by omega,by go_num,Hi,hex.trans hb'⟩
    case measure=>simp [intOf];omega
  ·have hi:idx p xs = -1:=az0 hno.out (by omega)
   have Hi:=Lib.hid hi;clear hi hno
   go_wp2_with fail
   go_ret
   exact ⟨by rw [Hi.out];rfl,hex⟩
theorem ba6 {w w0:World} {F F0:Nat→Prop} {xs:List Knd} {a:Option Addr} {cap:Nat} (h:Row 4 (RKnd w0 F0) w F xs a cap) (hl:xs.length≤140737488355328) {g:FuncId} {cb:Array Value} {p:Knd→Bool}
  (hg:Asks Tryz.prog g cb w ag2 (RKnd w0 F0) xs p) :
  Calls Tryz.prog 223 #[.slice a xs.length cap,.func (.func g) #[] cb] w fun e w'=>e = .returned (.bool (xs.any p))∧Ex w w':=by
 have hc:=bW2 h hl hg
 have Ha:=Lib.hid (ap1 p xs)
 go_enter Tryz.func223,Tryz.ntmps223
 go_wp2_with (go_at_call 108;refine hc.mono ?_;rintro e w' ⟨rfl,hb'⟩)
 go_ret
 exact ⟨by rw [← Ha.out];rfl,hb'⟩
theorem bK7 {w w0:World} {F0:Nat→Prop} {xs:List Knd} {g:FuncId} {cb:Array Value} {p:Knd→Bool} {B:Nat} (hB:w.cell? ⟨B,0,none⟩=some (.func (.func g) #[] cb))
  (hg:Asks Tryz.prog g cb w ag2 (RKnd w0 F0) xs p):Asks Tryz.prog 224 #[.pointer (some ⟨B,0,none⟩)] w ag2 (RKnd w0 F0) xs (fun x=>!p x):=by
 refine ⟨enters_of Tryz.func224 (by kernel_rfl) rfl,fun x vs W hm hr hW=>?_⟩
 have eg:=hg.enters
 have c0:=hW.cell hB
 have lB:B<W.heap.size:=World.block_lt_of_cell? _ _ c0
 have hr':=hr
 obtain ⟨fa,fc,rfl,_⟩:=hr
 have hcall:=fun W' (hx:Ex W W')=>hg.says x _ W' hm hr' (hW.trans hx)
 simp only [ag2,aq6,List.headD,Array.append_empty] at hcall ⊢
 have Hc:=Lib.hid hcall;clear hcall
 show Calls _ _ #[_,_] _ _
 go_enter Tryz.func224,Tryz.ntmps224
 go_wp2_with (go_at_fn g;refine (Hc.out _ (by first|exact Ex.refl _|exact (Ex.refl _).alloc)).mono ?_;rintro e w' ⟨rfl,hb'⟩)
 go_ret
 exact ⟨rfl,by first|exact hb' | exact (Ex.refl _).alloc.trans hb'⟩
theorem ca3 {w w0:World} {F F0:Nat→Prop} {xs:List Knd} {a:Option Addr} {cap:Nat} (h:Row 4 (RKnd w0 F0) w F xs a cap) (hl:xs.length≤140737488355328) {g:FuncId} {cb:Array Value} {p:Knd→Bool}
  (hg:Asks Tryz.prog g cb w ag2 (RKnd w0 F0) xs p) :
  Calls Tryz.prog 190 #[.slice a xs.length cap,.func (.func g) #[] cb] w fun e w'=>e = .returned (.bool (xs.all p))∧Ex w w':=by
 have hcall:=fun B (hB:(w.alloc (.cells #[.func (.func g) #[] cb] 204)).cell? ⟨B,0,none⟩=some (.func (.func g) #[] cb))=>ba6 (h.keep (w':=w.alloc (.cells #[.func (.func g) #[] cb] 204)) (Ex.refl w).alloc.same (fun _ h=>h) (fun _ _ _ h=>h)) hl (bK7 hB (hg.mono (Ex.refl w).alloc))
 have Hc:=Lib.hid hcall;clear hcall
 have Ha:Hid ((!xs.any fun x=>!p x)=xs.all p):=Lib.hid (ak6 p xs)
 go_enter Tryz.func190,Tryz.ntmps190
 go_wp2_with (go_at_call 223;refine (Hc.out _ (by simp)).mono ?_;rintro e w' ⟨rfl,hb'⟩)
 go_ret
 exact ⟨by rw [← Ha.out];rfl,(Ex.refl _).alloc.trans hb'⟩
theorem aY3 {w w' w0:World} {F F0:Nat→Prop} {xs:List Lif} {a:Option Addr} {cap:Nat} (h:Row 3 (RLif w0 F0) w F xs a cap) (hex:Same F w w') {i:Nat} (hi:i<xs.length) :
  ∃ x b off sa sc ma mc,Hid (xs[i]?=some x)∧a=some ⟨b,off,none⟩∧F b∧w'.cell? ⟨b,off+i*3,none⟩=some (.string x.name)∧w'.cell? ⟨b,off+i*3+1,none⟩=some (.slice sa x.states.length sc)∧w'.cell? ⟨b,off+i*3+2,none⟩=some (.slice ma x.moves.length mc)∧Hid ((RLif w0 F0) x [.string x.name,.slice sa x.states.length sc,.slice ma x.moves.length mc]):=by
 obtain ⟨b,off,ha,hb,vs,hl,hr,hc⟩:=h.at_ i xs[i] (List.getElem?_eq_getElem hi)
 have hr':=hr
 obtain ⟨sa,sc,ma,mc,rfl,_⟩:=hr
 exact ⟨xs[i],b,off,sa,sc,ma,mc,Lib.hid (List.getElem?_eq_getElem hi),ha,hb,hex.cell (hc 0 _ rfl) hb,hex.cell (hc 1 _ rfl) hb,hex.cell (hc 2 _ rfl) hb,hr'⟩
theorem bW1 {w w0:World} {F F0:Nat→Prop} {xs:List Lif} {a:Option Addr} {cap:Nat} (h:Row 3 (RLif w0 F0) w F xs a cap) (hl:xs.length≤140737488355328) {g:FuncId} {cb:Array Value} {p:Lif→Bool}
  (hg:Asks Tryz.prog g cb w ag2 (RLif w0 F0) xs p) :
  Calls Tryz.prog 197 #[.slice a xs.length cap,.func (.func g) #[] cb] w fun e w'=>e = .returned (.int .i64 (idx p xs))∧Ex w w':=by
 have eg:=hg.enters
 go_enter Tryz.func197,Tryz.ntmps197
 go_wp2
 go_loopw [8] (fun i wr=>∃ j:Nat,j≤xs.length∧i = .int .i64 j∧Hid (∀ i y,i<j→xs[i]?=some y→p y=false)∧Ex w wr) (fun i _=>xs.length - (intOf i).toNat)
 case atStart=>exact ⟨0,by omega,rfl,fun i y h=>by omega,Ex.refl _⟩
 case round=>
  obtain ⟨j,hj,rfl,hno,hex⟩:=hrel
  by_cases hlt:j<xs.length
  ·obtain ⟨x,b,off,sa,sc,ma,mc,hx,rfl,_,c0,c1,c2,hr⟩:=aY3 h hex.same hlt
   have hcall:=hg.says x _ wr (List.mem_of_getElem? hx.out) hr.out hex
   simp only [ag2,aq6,List.headD] at hcall
   cases hp:p x with
   | true=>
    have hi:=ae7 hx.out hp hno.out
    rw [hp] at hcall
    have Hi:=Lib.hid hi;clear hi hp
    go_wp2_with (go_at_fn g;refine hcall.mono ?_;rintro e w' ⟨rfl,hb'⟩)
    go_ret
    exact ⟨by rw [Hi.out];rfl,hex.trans hb'⟩
   | false=>
    have hi:=ay9 hno.out hx.out hp
    rw [hp] at hcall
    have Hi:=Lib.hid hi;clear hi hp hno
    go_wp2_with (go_at_fn g;refine hcall.mono ?_;rintro e w' ⟨rfl,hb'⟩)
    go_roundw
    case rel=>exact ⟨j+1,by omega,by go_num,Hi,hex.trans hb'⟩
    case measure=>simp [intOf];omega
  ·have hi:idx p xs = -1:=az0 hno.out (by omega)
   have Hi:=Lib.hid hi;clear hi hno
   go_wp2_with fail
   go_ret
   exact ⟨by rw [Hi.out];rfl,hex⟩
theorem ba5 {w w0:World} {F F0:Nat→Prop} {xs:List Lif} {a:Option Addr} {cap:Nat} (h:Row 3 (RLif w0 F0) w F xs a cap) (hl:xs.length≤140737488355328) {g:FuncId} {cb:Array Value} {p:Lif→Bool}
  (hg:Asks Tryz.prog g cb w ag2 (RLif w0 F0) xs p) :
  Calls Tryz.prog 145 #[.slice a xs.length cap,.func (.func g) #[] cb] w fun e w'=>e = .returned (.bool (xs.any p))∧Ex w w':=by
 have hc:=bW1 h hl hg
 have Ha:=Lib.hid (ap1 p xs)
 go_enter Tryz.func145,Tryz.ntmps145
 go_wp2_with (go_at_call 197;refine hc.mono ?_;rintro e w' ⟨rfl,hb'⟩)
 go_ret
 exact ⟨by rw [← Ha.out];rfl,hb'⟩
theorem bK6 {w w0:World} {F0:Nat→Prop} {xs:List Lif} {g:FuncId} {cb:Array Value} {p:Lif→Bool} {B:Nat} (hB:w.cell? ⟨B,0,none⟩=some (.func (.func g) #[] cb))
  (hg:Asks Tryz.prog g cb w ag2 (RLif w0 F0) xs p):Asks Tryz.prog 229 #[.pointer (some ⟨B,0,none⟩)] w ag2 (RLif w0 F0) xs (fun x=>!p x):=by
 refine ⟨enters_of Tryz.func229 (by kernel_rfl) rfl,fun x vs W hm hr hW=>?_⟩
 have eg:=hg.enters
 have c0:=hW.cell hB
 have lB:B<W.heap.size:=World.block_lt_of_cell? _ _ c0
 have hr':=hr
 obtain ⟨sa,sc,ma,mc,rfl,_⟩:=hr
 have hcall:=fun W' (hx:Ex W W')=>hg.says x _ W' hm hr' (hW.trans hx)
 simp only [ag2,aq6,List.headD,Array.append_empty] at hcall ⊢
 have Hc:=Lib.hid hcall;clear hcall
 show Calls _ _ #[_,_] _ _
 go_enter Tryz.func229,Tryz.ntmps229
 go_wp2_with (go_at_fn g;refine (Hc.out _ (by first|exact Ex.refl _|exact (Ex.refl _).alloc)).mono ?_;rintro e w' ⟨rfl,hb'⟩)
 go_ret
 exact ⟨rfl,by first|exact hb' | exact (Ex.refl _).alloc.trans hb'⟩
theorem ca2 {w w0:World} {F F0:Nat→Prop} {xs:List Lif} {a:Option Addr} {cap:Nat} (h:Row 3 (RLif w0 F0) w F xs a cap) (hl:xs.length≤140737488355328) {g:FuncId} {cb:Array Value} {p:Lif→Bool}
  (hg:Asks Tryz.prog g cb w ag2 (RLif w0 F0) xs p) :
  Calls Tryz.prog 192 #[.slice a xs.length cap,.func (.func g) #[] cb] w fun e w'=>e = .returned (.bool (xs.all p))∧Ex w w':=by
 have hcall:=fun B (hB:(w.alloc (.cells #[.func (.func g) #[] cb] 239)).cell? ⟨B,0,none⟩=some (.func (.func g) #[] cb))=>ba5 (h.keep (w':=w.alloc (.cells #[.func (.func g) #[] cb] 239)) (Ex.refl w).alloc.same (fun _ h=>h) (fun _ _ _ h=>h)) hl (bK6 hB (hg.mono (Ex.refl w).alloc))
 have Hc:=Lib.hid hcall;clear hcall
 have Ha:Hid ((!xs.any fun x=>!p x)=xs.all p):=Lib.hid (ak6 p xs)
 go_enter Tryz.func192,Tryz.ntmps192
 go_wp2_with (go_at_call 145;refine (Hc.out _ (by simp)).mono ?_;rintro e w' ⟨rfl,hb'⟩)
 go_ret
 exact ⟨by rw [← Ha.out];rfl,(Ex.refl _).alloc.trans hb'⟩
theorem aW3 {w w':World} {F:Nat→Prop} {xs:List Rul} {a:Option Addr} {cap:Nat} (h:Row 5 RRul w F xs a cap) (hex:Same F w w') {i:Nat} (hi:i<xs.length) :
  ∃ x b off,Hid (xs[i]?=some x)∧a=some ⟨b,off,none⟩∧F b∧w'.cell? ⟨b,off+i*5,none⟩=some (.string x.name)∧w'.cell? ⟨b,off+i*5+1,none⟩=some (.string x.kind)∧w'.cell? ⟨b,off+i*5+2,none⟩=some (.string x.a)∧w'.cell? ⟨b,off+i*5+3,none⟩=some (.string x.b)∧w'.cell? ⟨b,off+i*5+4,none⟩=some (.int .i64 x.n)∧Hid (RRul x [.string x.name,.string x.kind,.string x.a,.string x.b,.int .i64 x.n]):=by
 obtain ⟨b,off,ha,hb,vs,hl,hr,hc⟩:=h.at_ i xs[i] (List.getElem?_eq_getElem hi)
 have hr':=hr
 obtain ⟨rfl,_⟩:=hr
 exact ⟨xs[i],b,off,Lib.hid (List.getElem?_eq_getElem hi),ha,hb,hex.cell (hc 0 _ rfl) hb,hex.cell (hc 1 _ rfl) hb,hex.cell (hc 2 _ rfl) hb,hex.cell (hc 3 _ rfl) hb,hex.cell (hc 4 _ rfl) hb,hr'⟩
theorem bW0 {w:World} {F:Nat→Prop} {xs:List Rul} {a:Option Addr} {cap:Nat} (h:Row 5 RRul w F xs a cap) (hl:xs.length≤140737488355328) {g:FuncId} {cb:Array Value} {p:Rul→Bool}
  (hg:Asks Tryz.prog g cb w ag2 RRul xs p) :
  Calls Tryz.prog 237 #[.slice a xs.length cap,.func (.func g) #[] cb] w fun e w'=>e = .returned (.int .i64 (idx p xs))∧Ex w w':=by
 have eg:=hg.enters
 go_enter Tryz.func237,Tryz.ntmps237
 go_wp2
 go_loopw [8] (fun i wr=>∃ j:Nat,j≤xs.length∧i = .int .i64 j∧Hid (∀ i y,i<j→xs[i]?=some y→p y=false)∧Ex w wr) (fun i _=>xs.length - (intOf i).toNat)
 case atStart=>exact ⟨0,by omega,rfl,fun i y h=>by omega,Ex.refl _⟩
 case round=>
  obtain ⟨j,hj,rfl,hno,hex⟩:=hrel
  by_cases hlt:j<xs.length
  ·obtain ⟨x,b,off,hx,rfl,_,c0,c1,c2,c3,c4,hr⟩:=aW3 h hex.same hlt
   have hcall:=hg.says x _ wr (List.mem_of_getElem? hx.out) hr.out hex
   simp only [ag2,aq6,List.headD] at hcall
   cases hp:p x with
   | true=>
    have hi:=ae7 hx.out hp hno.out
    rw [hp] at hcall
    have Hi:=Lib.hid hi;clear hi hp
    go_wp2_with (go_at_fn g;refine hcall.mono ?_;rintro e w' ⟨rfl,hb'⟩)
    go_ret
    exact ⟨by rw [Hi.out];rfl,hex.trans hb'⟩
   | false=>
    have hi:=ay9 hno.out hx.out hp
    rw [hp] at hcall
    have Hi:=Lib.hid hi;clear hi hp hno
    go_wp2_with (go_at_fn g;refine hcall.mono ?_;rintro e w' ⟨rfl,hb'⟩)
    go_roundw
    case rel=>exact ⟨j+1,by omega,by go_num,Hi,hex.trans hb'⟩
    case measure=>simp [intOf];omega
  ·have hi:idx p xs = -1:=az0 hno.out (by omega)
   have Hi:=Lib.hid hi;clear hi hno
   go_wp2_with fail
   go_ret
   exact ⟨by rw [Hi.out];rfl,hex⟩
theorem ba4 {w:World} {F:Nat→Prop} {xs:List Rul} {a:Option Addr} {cap:Nat} (h:Row 5 RRul w F xs a cap) (hl:xs.length≤140737488355328) {g:FuncId} {cb:Array Value} {p:Rul→Bool}
  (hg:Asks Tryz.prog g cb w ag2 RRul xs p) :
  Calls Tryz.prog 198 #[.slice a xs.length cap,.func (.func g) #[] cb] w fun e w'=>e = .returned (.bool (xs.any p))∧Ex w w':=by
 have hc:=bW0 h hl hg
 have Ha:=Lib.hid (ap1 p xs)
 go_enter Tryz.func198,Tryz.ntmps198
 go_wp2_with (go_at_call 237;refine hc.mono ?_;rintro e w' ⟨rfl,hb'⟩)
 go_ret
 exact ⟨by rw [← Ha.out];rfl,hb'⟩
theorem bK5 {w:World} {xs:List Rul} {g:FuncId} {cb:Array Value} {p:Rul→Bool} {B:Nat} (hB:w.cell? ⟨B,0,none⟩=some (.func (.func g) #[] cb))
  (hg:Asks Tryz.prog g cb w ag2 RRul xs p):Asks Tryz.prog 233 #[.pointer (some ⟨B,0,none⟩)] w ag2 RRul xs (fun x=>!p x):=by
 refine ⟨enters_of Tryz.func233 (by kernel_rfl) rfl,fun x vs W hm hr hW=>?_⟩
 have eg:=hg.enters
 have c0:=hW.cell hB
 have lB:B<W.heap.size:=World.block_lt_of_cell? _ _ c0
 have hr':=hr
 obtain ⟨rfl,_⟩:=hr
 have hcall:=fun W' (hx:Ex W W')=>hg.says x _ W' hm hr' (hW.trans hx)
 simp only [ag2,aq6,List.headD,Array.append_empty] at hcall ⊢
 have Hc:=Lib.hid hcall;clear hcall
 show Calls _ _ #[_,_] _ _
 go_enter Tryz.func233,Tryz.ntmps233
 go_wp2_with (go_at_fn g;refine (Hc.out _ (by first|exact Ex.refl _|exact (Ex.refl _).alloc)).mono ?_;rintro e w' ⟨rfl,hb'⟩)
 go_ret
 exact ⟨rfl,by first|exact hb' | exact (Ex.refl _).alloc.trans hb'⟩
theorem ca0 {w:World} {F:Nat→Prop} {xs:List Rul} {a:Option Addr} {cap:Nat} (h:Row 5 RRul w F xs a cap) (hl:xs.length≤140737488355328) {g:FuncId} {cb:Array Value} {p:Rul→Bool}
  (hg:Asks Tryz.prog g cb w ag2 RRul xs p) :
  Calls Tryz.prog 194 #[.slice a xs.length cap,.func (.func g) #[] cb] w fun e w'=>e = .returned (.bool (xs.all p))∧Ex w w':=by
 have hcall:=fun B (hB:(w.alloc (.cells #[.func (.func g) #[] cb] 284)).cell? ⟨B,0,none⟩=some (.func (.func g) #[] cb))=>ba4 (h.keep (w':=w.alloc (.cells #[.func (.func g) #[] cb] 284)) (Ex.refl w).alloc.same (fun _ h=>h) (fun _ _ _ h=>h)) hl (bK5 hB (hg.mono (Ex.refl w).alloc))
 have Hc:=Lib.hid hcall;clear hcall
 have Ha:Hid ((!xs.any fun x=>!p x)=xs.all p):=Lib.hid (ak6 p xs)
 go_enter Tryz.func194,Tryz.ntmps194
 go_wp2_with (go_at_call 198;refine (Hc.out _ (by simp)).mono ?_;rintro e w' ⟨rfl,hb'⟩)
 go_ret
 exact ⟨by rw [← Ha.out];rfl,(Ex.refl _).alloc.trans hb'⟩
theorem aZ4 {w w' w0:World} {F F0:Nat→Prop} {xs:List Fld} {a:Option Addr} {cap:Nat} (h:Row 8 (RFld w0 F0) w F xs a cap) (hex:Same F w w') {i:Nat} (hi:i<xs.length) :
  ∃ x b off wa wc ga gc,Hid (xs[i]?=some x)∧a=some ⟨b,off,none⟩∧F b∧w'.cell? ⟨b,off+i*8,none⟩=some (.string x.name)∧w'.cell? ⟨b,off+i*8+1,none⟩=some (.string x.of)∧w'.cell? ⟨b,off+i*8+2,none⟩=some (.string x.up)∧w'.cell? ⟨b,off+i*8+3,none⟩=some (.int .i64 x.kind)∧w'.cell? ⟨b,off+i*8+4,none⟩=some (.int .i64 x.lo)∧w'.cell? ⟨b,off+i*8+5,none⟩=some (.int .i64 x.hi)∧w'.cell? ⟨b,off+i*8+6,none⟩=some (.slice wa x.words.length wc)∧w'.cell? ⟨b,off+i*8+7,none⟩=some (.slice ga x.weights.length gc)∧Hid ((RFld w0 F0) x [.string x.name,.string x.of,.string x.up,.int .i64 x.kind,.int .i64 x.lo,.int .i64 x.hi,.slice wa x.words.length wc,.slice ga x.weights.length gc]):=by
 obtain ⟨b,off,ha,hb,vs,hl,hr,hc⟩:=h.at_ i xs[i] (List.getElem?_eq_getElem hi)
 have hr':=hr
 obtain ⟨wa,wc,ga,gc,rfl,_⟩:=hr
 exact ⟨xs[i],b,off,wa,wc,ga,gc,Lib.hid (List.getElem?_eq_getElem hi),ha,hb,hex.cell (hc 0 _ rfl) hb,hex.cell (hc 1 _ rfl) hb,hex.cell (hc 2 _ rfl) hb,hex.cell (hc 3 _ rfl) hb,hex.cell (hc 4 _ rfl) hb,hex.cell (hc 5 _ rfl) hb,hex.cell (hc 6 _ rfl) hb,hex.cell (hc 7 _ rfl) hb,hr'⟩
theorem bW3 {w w0:World} {F F0:Nat→Prop} {xs:List Fld} {a:Option Addr} {cap:Nat} (h:Row 8 (RFld w0 F0) w F xs a cap) (hl:xs.length≤140737488355328) {g:FuncId} {cb:Array Value} {p:Fld→Bool}
  (hg:Asks Tryz.prog g cb w ag2 (RFld w0 F0) xs p) :
  Calls Tryz.prog 165 #[.slice a xs.length cap,.func (.func g) #[] cb] w fun e w'=>e = .returned (.int .i64 (idx p xs))∧Ex w w':=by
 have eg:=hg.enters
 go_enter Tryz.func165,Tryz.ntmps165
 go_wp2
 go_loopw [8] (fun i wr=>∃ j:Nat,j≤xs.length∧i = .int .i64 j∧Hid (∀ i y,i<j→xs[i]?=some y→p y=false)∧Ex w wr) (fun i _=>xs.length - (intOf i).toNat)
 case atStart=>exact ⟨0,by omega,rfl,fun i y h=>by omega,Ex.refl _⟩
 case round=>
  obtain ⟨j,hj,rfl,hno,hex⟩:=hrel
  by_cases hlt:j<xs.length
  ·obtain ⟨x,b,off,wa,wc,ga,gc,hx,rfl,_,c0,c1,c2,c3,c4,c5,c6,c7,hr⟩:=aZ4 h hex.same hlt
   have hcall:=hg.says x _ wr (List.mem_of_getElem? hx.out) hr.out hex
   simp only [ag2,aq6,List.headD] at hcall
   cases hp:p x with
   | true=>
    have hi:=ae7 hx.out hp hno.out
    rw [hp] at hcall
    have Hi:=Lib.hid hi;clear hi hp
    go_wp2_with (go_at_fn g;refine hcall.mono ?_;rintro e w' ⟨rfl,hb'⟩)
    go_ret
    exact ⟨by rw [Hi.out];rfl,hex.trans hb'⟩
   | false=>
    have hi:=ay9 hno.out hx.out hp
    rw [hp] at hcall
    have Hi:=Lib.hid hi;clear hi hp hno
    go_wp2_with (go_at_fn g;refine hcall.mono ?_;rintro e w' ⟨rfl,hb'⟩)
    go_roundw
    case rel=>exact ⟨j+1,by omega,by go_num,Hi,hex.trans hb'⟩
    case measure=>simp [intOf];omega
  ·have hi:idx p xs = -1:=az0 hno.out (by omega)
   have Hi:=Lib.hid hi;clear hi hno
   go_wp2_with fail
   go_ret
   exact ⟨by rw [Hi.out];rfl,hex⟩
theorem ba7 {w w0:World} {F F0:Nat→Prop} {xs:List Fld} {a:Option Addr} {cap:Nat} (h:Row 8 (RFld w0 F0) w F xs a cap) (hl:xs.length≤140737488355328) {g:FuncId} {cb:Array Value} {p:Fld→Bool}
  (hg:Asks Tryz.prog g cb w ag2 (RFld w0 F0) xs p) :
  Calls Tryz.prog 252 #[.slice a xs.length cap,.func (.func g) #[] cb] w fun e w'=>e = .returned (.bool (xs.any p))∧Ex w w':=by
 have hc:=bW3 h hl hg
 have Ha:=Lib.hid (ap1 p xs)
 go_enter Tryz.func252,Tryz.ntmps252
 go_wp2_with (go_at_call 165;refine hc.mono ?_;rintro e w' ⟨rfl,hb'⟩)
 go_ret
 exact ⟨by rw [← Ha.out];rfl,hb'⟩
theorem bK8 {w w0:World} {F0:Nat→Prop} {xs:List Fld} {g:FuncId} {cb:Array Value} {p:Fld→Bool} {B:Nat} (hB:w.cell? ⟨B,0,none⟩=some (.func (.func g) #[] cb))
  (hg:Asks Tryz.prog g cb w ag2 (RFld w0 F0) xs p):Asks Tryz.prog 253 #[.pointer (some ⟨B,0,none⟩)] w ag2 (RFld w0 F0) xs (fun x=>!p x):=by
 refine ⟨enters_of Tryz.func253 (by kernel_rfl) rfl,fun x vs W hm hr hW=>?_⟩
 have eg:=hg.enters
 have c0:=hW.cell hB
 have lB:B<W.heap.size:=World.block_lt_of_cell? _ _ c0
 have hr':=hr
 obtain ⟨wa,wc,ga,gc,rfl,_⟩:=hr
 have hcall:=fun W' (hx:Ex W W')=>hg.says x _ W' hm hr' (hW.trans hx)
 simp only [ag2,aq6,List.headD,Array.append_empty] at hcall ⊢
 have Hc:=Lib.hid hcall;clear hcall
 show Calls _ _ #[_,_] _ _
 go_enter Tryz.func253,Tryz.ntmps253
 go_wp2_with (go_at_fn g;refine (Hc.out _ (by first|exact Ex.refl _|exact (Ex.refl _).alloc)).mono ?_;rintro e w' ⟨rfl,hb'⟩)
 go_ret
 exact ⟨rfl,by first|exact hb' | exact (Ex.refl _).alloc.trans hb'⟩
theorem ca4 {w w0:World} {F F0:Nat→Prop} {xs:List Fld} {a:Option Addr} {cap:Nat} (h:Row 8 (RFld w0 F0) w F xs a cap) (hl:xs.length≤140737488355328) {g:FuncId} {cb:Array Value} {p:Fld→Bool}
  (hg:Asks Tryz.prog g cb w ag2 (RFld w0 F0) xs p) :
  Calls Tryz.prog 227 #[.slice a xs.length cap,.func (.func g) #[] cb] w fun e w'=>e = .returned (.bool (xs.all p))∧Ex w w':=by
 have hcall:=fun B (hB:(w.alloc (.cells #[.func (.func g) #[] cb] 274)).cell? ⟨B,0,none⟩=some (.func (.func g) #[] cb))=>ba7 (h.keep (w':=w.alloc (.cells #[.func (.func g) #[] cb] 274)) (Ex.refl w).alloc.same (fun _ h=>h) (fun _ _ _ h=>h)) hl (bK8 hB (hg.mono (Ex.refl w).alloc))
 have Hc:=Lib.hid hcall;clear hcall
 have Ha:Hid ((!xs.any fun x=>!p x)=xs.all p):=Lib.hid (ak6 p xs)
 go_enter Tryz.func227,Tryz.ntmps227
 go_wp2_with (go_at_call 252;refine (Hc.out _ (by simp)).mono ?_;rintro e w' ⟨rfl,hb'⟩)
 go_ret
 exact ⟨by rw [← Ha.out];rfl,(Ex.refl _).alloc.trans hb'⟩
theorem at3 {w w':World} {F:Nat→Prop} {xs:List ByteArray} {a:Option Addr} {cap:Nat} (h:Row 1 RStr w F xs a cap) (hex:Same F w w') {i:Nat} (hi:i<xs.length) :
  ∃ x b off,Hid (xs[i]?=some x)∧a=some ⟨b,off,none⟩∧F b∧w'.cell? ⟨b,off+i,none⟩=some (.string x)∧Hid (RStr x [.string x]):=by
 obtain ⟨b,off,ha,hb,vs,hl,hr,hc⟩:=h.at_ i xs[i] (List.getElem?_eq_getElem hi)
 have hr':=hr
 obtain rfl:=hr
 exact ⟨xs[i],b,off,Lib.hid (List.getElem?_eq_getElem hi),ha,hb,hex.cell (p:=⟨b,off+i,none⟩) (by have:=hc 0 _ rfl;simpa using this) hb,hr'⟩
theorem bV9 {w:World} {F:Nat→Prop} {xs:List ByteArray} {a:Option Addr} {cap:Nat} (h:Row 1 RStr w F xs a cap) (hl:xs.length≤140737488355328) {g:FuncId} {cb:Array Value} {p:ByteArray→Bool}
  (hg:Asks Tryz.prog g cb w aq6 RStr xs p) :
  Calls Tryz.prog 238 #[.slice a xs.length cap,.func (.func g) #[] cb] w fun e w'=>e = .returned (.int .i64 (idx p xs))∧Ex w w':=by
 have eg:=hg.enters
 go_enter Tryz.func238,Tryz.ntmps238
 go_wp2
 go_loopw [8] (fun i wr=>∃ j:Nat,j≤xs.length∧i = .int .i64 j∧Hid (∀ i y,i<j→xs[i]?=some y→p y=false)∧Ex w wr) (fun i _=>xs.length - (intOf i).toNat)
 case atStart=>exact ⟨0,by omega,rfl,fun i y h=>by omega,Ex.refl _⟩
 case round=>
  obtain ⟨j,hj,rfl,hno,hex⟩:=hrel
  by_cases hlt:j<xs.length
  ·obtain ⟨x,b,off,hx,rfl,_,c0,hr⟩:=at3 h hex.same hlt
   have hcall:=hg.says x _ wr (List.mem_of_getElem? hx.out) hr.out hex
   simp only [ag2,aq6,List.headD] at hcall
   cases hp:p x with
   | true=>
    have hi:=ae7 hx.out hp hno.out
    rw [hp] at hcall
    have Hi:=Lib.hid hi;clear hi hp
    go_wp2_with (go_at_fn g;refine hcall.mono ?_;rintro e w' ⟨rfl,hb'⟩)
    go_ret
    exact ⟨by rw [Hi.out];rfl,hex.trans hb'⟩
   | false=>
    have hi:=ay9 hno.out hx.out hp
    rw [hp] at hcall
    have Hi:=Lib.hid hi;clear hi hp hno
    go_wp2_with (go_at_fn g;refine hcall.mono ?_;rintro e w' ⟨rfl,hb'⟩)
    go_roundw
    case rel=>exact ⟨j+1,by omega,by go_num,Hi,hex.trans hb'⟩
    case measure=>simp [intOf];omega
  ·have hi:idx p xs = -1:=az0 hno.out (by omega)
   have Hi:=Lib.hid hi;clear hi hno
   go_wp2_with fail
   go_ret
   exact ⟨by rw [Hi.out];rfl,hex⟩
theorem ba3 {w:World} {F:Nat→Prop} {xs:List ByteArray} {a:Option Addr} {cap:Nat} (h:Row 1 RStr w F xs a cap) (hl:xs.length≤140737488355328) {g:FuncId} {cb:Array Value} {p:ByteArray→Bool}
  (hg:Asks Tryz.prog g cb w aq6 RStr xs p) :
  Calls Tryz.prog 200 #[.slice a xs.length cap,.func (.func g) #[] cb] w fun e w'=>e = .returned (.bool (xs.any p))∧Ex w w':=by
 have hc:=bV9 h hl hg
 have Ha:=Lib.hid (ap1 p xs)
 go_enter Tryz.func200,Tryz.ntmps200
 go_wp2_with (go_at_call 238;refine hc.mono ?_;rintro e w' ⟨rfl,hb'⟩)
 go_ret
 exact ⟨by rw [← Ha.out];rfl,hb'⟩
theorem bK4 {w:World} {xs:List ByteArray} {g:FuncId} {cb:Array Value} {p:ByteArray→Bool} {B:Nat} (hB:w.cell? ⟨B,0,none⟩=some (.func (.func g) #[] cb))
  (hg:Asks Tryz.prog g cb w aq6 RStr xs p):Asks Tryz.prog 257 #[.pointer (some ⟨B,0,none⟩)] w aq6 RStr xs (fun x=>!p x):=by
 refine ⟨enters_of Tryz.func257 (by kernel_rfl) rfl,fun x vs W hm hr hW=>?_⟩
 have eg:=hg.enters
 have c0:=hW.cell hB
 have lB:B<W.heap.size:=World.block_lt_of_cell? _ _ c0
 have hr':=hr
 obtain rfl:=hr
 have hcall:=fun W' (hx:Ex W W')=>hg.says x _ W' hm hr' (hW.trans hx)
 simp only [ag2,aq6,List.headD,Array.append_empty] at hcall ⊢
 have Hc:=Lib.hid hcall;clear hcall
 show Calls _ _ #[_,_] _ _
 go_enter Tryz.func257,Tryz.ntmps257
 go_wp2_with (go_at_fn g;refine (Hc.out _ (by first|exact Ex.refl _|exact (Ex.refl _).alloc)).mono ?_;rintro e w' ⟨rfl,hb'⟩)
 go_ret
 exact ⟨rfl,by first|exact hb' | exact (Ex.refl _).alloc.trans hb'⟩
theorem bC0 {w:World} {F:Nat→Prop} {xs:List ByteArray} {a:Option Addr} {cap:Nat} (h:Row 1 RStr w F xs a cap) (hl:xs.length≤140737488355328) {g:FuncId} {cb:Array Value} {p:ByteArray→Bool}
  (hg:Asks Tryz.prog g cb w aq6 RStr xs p) :
  Calls Tryz.prog 230 #[.slice a xs.length cap,.func (.func g) #[] cb] w fun e w'=>e = .returned (.bool (xs.all p))∧Ex w w':=by
 have hcall:=fun B (hB:(w.alloc (.cells #[.func (.func g) #[] cb] 256)).cell? ⟨B,0,none⟩=some (.func (.func g) #[] cb))=>ba3 (h.keep (w':=w.alloc (.cells #[.func (.func g) #[] cb] 256)) (Ex.refl w).alloc.same (fun _ h=>h) (fun _ _ _ h=>h)) hl (bK4 hB (hg.mono (Ex.refl w).alloc))
 have Hc:=Lib.hid hcall;clear hcall
 have Ha:Hid ((!xs.any fun x=>!p x)=xs.all p):=Lib.hid (ak6 p xs)
 go_enter Tryz.func230,Tryz.ntmps230
 go_wp2_with (go_at_call 200;refine (Hc.out _ (by simp)).mono ?_;rintro e w' ⟨rfl,hb'⟩)
 go_ret
 exact ⟨by rw [← Ha.out];rfl,(Ex.refl _).alloc.trans hb'⟩
theorem aV7 {w w':World} {F:Nat→Prop} {xs:List (Int × Int)} {a:Option Addr} {cap:Nat} (h:Row 2 RTwo w F xs a cap) (hex:Same F w w') {i:Nat} (hi:i<xs.length) :
  ∃ x b off,Hid (xs[i]?=some x)∧a=some ⟨b,off,none⟩∧F b∧w'.cell? ⟨b,off+i*2,none⟩=some (.int .i64 x.1)∧w'.cell? ⟨b,off+i*2+1,none⟩=some (.int .i64 x.2)∧Hid (RTwo x [.int .i64 x.1,.int .i64 x.2]):=by
 obtain ⟨b,off,ha,hb,vs,hl,hr,hc⟩:=h.at_ i xs[i] (List.getElem?_eq_getElem hi)
 have hr':=hr
 obtain ⟨rfl,_⟩:=hr
 exact ⟨xs[i],b,off,Lib.hid (List.getElem?_eq_getElem hi),ha,hb,hex.cell (hc 0 _ rfl) hb,hex.cell (hc 1 _ rfl) hb,hr'⟩
theorem bV8 {w:World} {F:Nat→Prop} {xs:List (Int × Int)} {a:Option Addr} {cap:Nat} (h:Row 2 RTwo w F xs a cap) (hl:xs.length≤140737488355328) {g:FuncId} {cb:Array Value} {p:(Int × Int)→Bool}
  (hg:Asks Tryz.prog g cb w ag2 RTwo xs p) :
  Calls Tryz.prog 241 #[.slice a xs.length cap,.func (.func g) #[] cb] w fun e w'=>e = .returned (.int .i64 (idx p xs))∧Ex w w':=by
 have eg:=hg.enters
 go_enter Tryz.func241,Tryz.ntmps241
 go_wp2
 go_loopw [8] (fun i wr=>∃ j:Nat,j≤xs.length∧i = .int .i64 j∧Hid (∀ i y,i<j→xs[i]?=some y→p y=false)∧Ex w wr) (fun i _=>xs.length - (intOf i).toNat)
 case atStart=>exact ⟨0,by omega,rfl,fun i y h=>by omega,Ex.refl _⟩
 case round=>
  obtain ⟨j,hj,rfl,hno,hex⟩:=hrel
  by_cases hlt:j<xs.length
  ·obtain ⟨x,b,off,hx,rfl,_,c0,c1,hr⟩:=aV7 h hex.same hlt
   have hcall:=hg.says x _ wr (List.mem_of_getElem? hx.out) hr.out hex
   simp only [ag2,aq6,List.headD] at hcall
   cases hp:p x with
   | true=>
    have hi:=ae7 hx.out hp hno.out
    rw [hp] at hcall
    have Hi:=Lib.hid hi;clear hi hp
    go_wp2_with (go_at_fn g;refine hcall.mono ?_;rintro e w' ⟨rfl,hb'⟩)
    go_ret
    exact ⟨by rw [Hi.out];rfl,hex.trans hb'⟩
   | false=>
    have hi:=ay9 hno.out hx.out hp
    rw [hp] at hcall
    have Hi:=Lib.hid hi;clear hi hp hno
    go_wp2_with (go_at_fn g;refine hcall.mono ?_;rintro e w' ⟨rfl,hb'⟩)
    go_roundw
    case rel=>exact ⟨j+1,by omega,by go_num,Hi,hex.trans hb'⟩
    case measure=>simp [intOf];omega
  ·have hi:idx p xs = -1:=az0 hno.out (by omega)
   have Hi:=Lib.hid hi;clear hi hno
   go_wp2_with fail
   go_ret
   exact ⟨by rw [Hi.out];rfl,hex⟩
theorem ba2 {w:World} {F:Nat→Prop} {xs:List (Int × Int)} {a:Option Addr} {cap:Nat} (h:Row 2 RTwo w F xs a cap) (hl:xs.length≤140737488355328) {g:FuncId} {cb:Array Value} {p:(Int × Int)→Bool}
  (hg:Asks Tryz.prog g cb w ag2 RTwo xs p) :
  Calls Tryz.prog 207 #[.slice a xs.length cap,.func (.func g) #[] cb] w fun e w'=>e = .returned (.bool (xs.any p))∧Ex w w':=by
 have hc:=bV8 h hl hg
 have Ha:=Lib.hid (ap1 p xs)
 go_enter Tryz.func207,Tryz.ntmps207
 go_wp2_with (go_at_call 241;refine hc.mono ?_;rintro e w' ⟨rfl,hb'⟩)
 go_ret
 exact ⟨by rw [← Ha.out];rfl,hb'⟩
theorem bK3 {w:World} {xs:List (Int × Int)} {g:FuncId} {cb:Array Value} {p:(Int × Int)→Bool} {B:Nat} (hB:w.cell? ⟨B,0,none⟩=some (.func (.func g) #[] cb))
  (hg:Asks Tryz.prog g cb w ag2 RTwo xs p):Asks Tryz.prog 258 #[.pointer (some ⟨B,0,none⟩)] w ag2 RTwo xs (fun x=>!p x):=by
 refine ⟨enters_of Tryz.func258 (by kernel_rfl) rfl,fun x vs W hm hr hW=>?_⟩
 have eg:=hg.enters
 have c0:=hW.cell hB
 have lB:B<W.heap.size:=World.block_lt_of_cell? _ _ c0
 have hr':=hr
 obtain ⟨rfl,_⟩:=hr
 have hcall:=fun W' (hx:Ex W W')=>hg.says x _ W' hm hr' (hW.trans hx)
 simp only [ag2,aq6,List.headD,Array.append_empty] at hcall ⊢
 have Hc:=Lib.hid hcall;clear hcall
 show Calls _ _ #[_,_] _ _
 go_enter Tryz.func258,Tryz.ntmps258
 go_wp2_with (go_at_fn g;refine (Hc.out _ (by first|exact Ex.refl _|exact (Ex.refl _).alloc)).mono ?_;rintro e w' ⟨rfl,hb'⟩)
 go_ret
 exact ⟨rfl,by first|exact hb' | exact (Ex.refl _).alloc.trans hb'⟩
theorem bZ9 {w:World} {F:Nat→Prop} {xs:List (Int × Int)} {a:Option Addr} {cap:Nat} (h:Row 2 RTwo w F xs a cap) (hl:xs.length≤140737488355328) {g:FuncId} {cb:Array Value} {p:(Int × Int)→Bool}
  (hg:Asks Tryz.prog g cb w ag2 RTwo xs p) :
  Calls Tryz.prog 231 #[.slice a xs.length cap,.func (.func g) #[] cb] w fun e w'=>e = .returned (.bool (xs.all p))∧Ex w w':=by
 have hcall:=fun B (hB:(w.alloc (.cells #[.func (.func g) #[] cb] 309)).cell? ⟨B,0,none⟩=some (.func (.func g) #[] cb))=>ba2 (h.keep (w':=w.alloc (.cells #[.func (.func g) #[] cb] 309)) (Ex.refl w).alloc.same (fun _ h=>h) (fun _ _ _ h=>h)) hl (bK3 hB (hg.mono (Ex.refl w).alloc))
 have Hc:=Lib.hid hcall;clear hcall
 have Ha:Hid ((!xs.any fun x=>!p x)=xs.all p):=Lib.hid (ak6 p xs)
 go_enter Tryz.func231,Tryz.ntmps231
 go_wp2_with (go_at_call 207;refine (Hc.out _ (by simp)).mono ?_;rintro e w' ⟨rfl,hb'⟩)
 go_ret
 exact ⟨by rw [← Ha.out];rfl,(Ex.refl _).alloc.trans hb'⟩
theorem bA1 {w w':World} {F:Nat→Prop} {xs:List UInt8} {a:Option Addr} {cap:Nat} (h:Row 1 bc0 w F xs a cap) (hex:Same F w w') {i:Nat} (hi:i<xs.length) :
  ∃ x b off,Hid (xs[i]?=some x)∧a=some ⟨b,off,none⟩∧F b∧w'.cell? ⟨b,off+i,none⟩=some (.int .u8 x.toNat)∧Hid (bc0 x [.int .u8 x.toNat]):=by
 obtain ⟨b,off,ha,hb,vs,hl,hr,hc⟩:=h.at_ i xs[i] (List.getElem?_eq_getElem hi)
 have hr':=hr
 obtain rfl:=hr
 exact ⟨xs[i],b,off,Lib.hid (List.getElem?_eq_getElem hi),ha,hb,hex.cell (p:=⟨b,off+i,none⟩) (by have:=hc 0 _ rfl;simpa using this) hb,hr'⟩
theorem bW4 {w:World} {F:Nat→Prop} {xs:List UInt8} {a:Option Addr} {cap:Nat} (h:Row 1 bc0 w F xs a cap) (hl:xs.length≤140737488355328) {g:FuncId} {cb:Array Value} {p:UInt8→Bool}
  (hg:Asks Tryz.prog g cb w aq6 bc0 xs p) :
  Calls Tryz.prog 262 #[.slice a xs.length cap,.func (.func g) #[] cb] w fun e w'=>e = .returned (.int .i64 (idx p xs))∧Ex w w':=by
 have eg:=hg.enters
 go_enter Tryz.func262,Tryz.ntmps262
 go_wp2
 go_loopw [8] (fun i wr=>∃ j:Nat,j≤xs.length∧i = .int .i64 j∧Hid (∀ i y,i<j→xs[i]?=some y→p y=false)∧Ex w wr) (fun i _=>xs.length - (intOf i).toNat)
 case atStart=>exact ⟨0,by omega,rfl,fun i y h=>by omega,Ex.refl _⟩
 case round=>
  obtain ⟨j,hj,rfl,hno,hex⟩:=hrel
  by_cases hlt:j<xs.length
  ·obtain ⟨x,b,off,hx,rfl,_,c0,hr⟩:=bA1 h hex.same hlt
   have hcall:=hg.says x _ wr (List.mem_of_getElem? hx.out) hr.out hex
   simp only [ag2,aq6,List.headD] at hcall
   cases hp:p x with
   | true=>
    have hi:=ae7 hx.out hp hno.out
    rw [hp] at hcall
    have Hi:=Lib.hid hi;clear hi hp
    go_wp2_with (go_at_fn g;refine hcall.mono ?_;rintro e w' ⟨rfl,hb'⟩)
    go_ret
    exact ⟨by rw [Hi.out];rfl,hex.trans hb'⟩
   | false=>
    have hi:=ay9 hno.out hx.out hp
    rw [hp] at hcall
    have Hi:=Lib.hid hi;clear hi hp hno
    go_wp2_with (go_at_fn g;refine hcall.mono ?_;rintro e w' ⟨rfl,hb'⟩)
    go_roundw
    case rel=>exact ⟨j+1,by omega,by go_num,Hi,hex.trans hb'⟩
    case measure=>simp [intOf];omega
  ·have hi:idx p xs = -1:=az0 hno.out (by omega)
   have Hi:=Lib.hid hi;clear hi hno
   go_wp2_with fail
   go_ret
   exact ⟨by rw [Hi.out];rfl,hex⟩
theorem ba8 {w:World} {F:Nat→Prop} {xs:List UInt8} {a:Option Addr} {cap:Nat} (h:Row 1 bc0 w F xs a cap) (hl:xs.length≤140737488355328) {g:FuncId} {cb:Array Value} {p:UInt8→Bool}
  (hg:Asks Tryz.prog g cb w aq6 bc0 xs p) :
  Calls Tryz.prog 249 #[.slice a xs.length cap,.func (.func g) #[] cb] w fun e w'=>e = .returned (.bool (xs.any p))∧Ex w w':=by
 have hc:=bW4 h hl hg
 have Ha:=Lib.hid (ap1 p xs)
 go_enter Tryz.func249,Tryz.ntmps249
 go_wp2_with (go_at_call 262;refine hc.mono ?_;rintro e w' ⟨rfl,hb'⟩)
 go_ret
 exact ⟨by rw [← Ha.out];rfl,hb'⟩
end
section
open Go.RowKit Go.Shelf
theorem cf5 (xs:List ByteArray) (w:World) {F:Nat→Prop} {a:Option Addr} {cap:Nat} (h:av6 w F xs a cap) (hl:xs.length≤1000000) :
  Calls Tryz.prog 261 #[.slice a xs.length cap] w fun e w'=>∃ s:ByteArray,e = .returned (.string s)∧(s=⟨#[]⟩∨s∈xs)∧w=w':=by
 go_enter Tryz.func261,Tryz.ntmps261
 go_wp2
 go_loop [8] (fun i=>∃ j:Nat,j≤xs.length∧i = .int .i64 j) (fun i=>xs.length - (intOf i).toNat)
 case atStart=>exact ⟨0,by omega,rfl⟩
 case round=>
  obtain ⟨j,hj,rfl⟩:=hrel
  by_cases hlt:j<xs.length
  ·obtain ⟨x,b,off,hx,rfl,_,c0,_⟩:=at3 h (Ex.refl w).same hlt
   cases he:x.toList.isEmpty
   ·go_wp2
    go_ret
    exact ⟨x,rfl,.inr (List.mem_of_getElem? hx.out),rfl⟩
   ·go_wp2
    go_round
    case rel=>exact ⟨j+1,by omega,by go_num⟩
    case measure=>simp [intOf];omega
  ·go_wp2
   go_ret
   exact ⟨_,rfl,.inl rfl,rfl⟩
theorem bD7 (w:World) (T:TypeId) (l:List ByteArray):av6 (w.alloc (.cells (l.map Value.string).toArray T)) (fun _=>True) l (some ⟨w.heap.size,0,none⟩) l.length:=
 ⟨Nat.le_refl _,fun i x hx=>⟨w.heap.size,0,rfl,trivial,[.string x],rfl,rfl,fun j v hj=>by
  cases j with
  | zero=>simp at hj;subst hj;simp [hx]
  | succ j=>simp at hj⟩⟩
theorem aB3 (s:ByteArray) (w:World) :
  Calls Tryz.prog 236 #[.string s] w fun e w'=>∃ t:ByteArray,e = .returned (.string t)∧t.size≤s.size+1∧Ex w w':=by
 have HO:=Lib.hid (cf5 [s,⟨#[45]⟩] _ (bD7 w 9 [s,⟨#[45]⟩]) (by simp))
 go_enter Tryz.func236,Tryz.ntmps236
 go_wp2_with (go_at_call 261;refine HO.out.mono ?_;rintro e w' ⟨t,rfl,ht,rfl⟩)
 go_ret
 refine ⟨t,rfl,?_,cl0⟩
 rcases ht with rfl|h
 ·exact Nat.zero_le _
 ·simp only [List.mem_cons,List.not_mem_nil,or_false] at h
  rcases h with rfl|rfl
  ·omega
  ·show 1≤_;omega
def anyV:Int ⊕ ByteArray→Value
 | .inl n=>.iface 3 (.int .i64 n)
 | .inr s=>.iface 9 (.string s)
theorem bZ8 (w:World) (T:TypeId) (items:List (Int ⊕ ByteArray)) (hi:∀ n,Sum.inl n∈items→I64 n):Row 1 RAny (w.alloc (.cells (items.map anyV).toArray T)) (fun _=>True) items (some ⟨w.heap.size,0,none⟩) items.length:=
 ⟨Nat.le_refl _,fun i x hx=>⟨w.heap.size,0,rfl,trivial,[anyV x],rfl,by
  cases x with
  | inl n=>exact ⟨rfl,hi n (List.mem_of_getElem? hx)⟩
  | inr s=>rfl,fun j v hj=>by
  cases j with
  | zero=>simp at hj;subst hj;simp [hx]
  | succ j=>simp at hj⟩⟩
theorem ak0 (word:ByteArray) (items:List (Int ⊕ ByteArray)) (w:World) (hi:∀ n,Sum.inl n∈items→I64 n) (hp:Pow10 w) (hl:items.length≤1000000) (hm:word.size+ac0 items≤1000000000) :
  Calls Tryz.prog 234 #[.string word,.slice (some ⟨w.heap.size,0,none⟩) items.length items.length] (w.alloc (.cells (items.map anyV).toArray 20)) fun e w'=>∃ s:ByteArray,e = .returned (.string s)∧s.size≤word.size+ac0 items+1∧Ex w w':=
 (aT6 word items _ (bZ8 w _ items hi) (hp.ex (Ex.refl w).alloc) hl hm).mono fun e w' ⟨s,h1,h2,h3⟩=>⟨s,h1,h2,(Ex.refl w).alloc.trans h3⟩
theorem WordsAt.ex {w w':World} (h:WordsAt w) (he:Ex w w'):WordsAt w':=fun i s hs=>he.cell (h i s hs)
theorem bX9 (n o u:ByteArray) (lo hi:Int) (nw ng:Nat) (w:World) (wa ga:Option Addr) (cw cg:Nat) (hr1:n.size≤1000000) (hr2:o.size≤1000000) (hr3:u.size≤1000000) (h1:I64 lo) (h2:I64 hi) (hp:Pow10 w) (hwd:WordsAt w) :
  Calls Tryz.prog 235 #[.agg #[.string n,.string o,.string u,.int .i64 0,.int .i64 lo,.int .i64 hi,.slice wa nw cw,.slice ga ng cg]] w fun e w'=>∃ s:ByteArray,e = .returned (.string s)∧s.size≤16+n.size+o.size+u.size+intB lo+intB hi∧Ex w w':=by
 have c0:=hwd 0 _ rfl
 have lB:3<w.heap.size:=World.block_lt_of_cell? _ _ c0
 have i1:=ae6 lo
 have i2:=ae6 hi
 have HB:Hid (ac0 [.inr n,.inl lo]+6≤16+n.size+o.size+u.size+intB lo+intB hi):=by unfold Hid;simp [ac0,aq7];omega
 have HL:Hid (∀ (W:World) (N:Nat),Ex w W→N=W.heap.size→Calls Tryz.prog 234 #[.string ⟨#[107,101,121]⟩,.slice (some ⟨N,0,none⟩) 2 2] (W.alloc (.cells #[.iface 9 (.string n),.iface 3 (.int .i64 lo)] 20)) fun e w'=>∃ s:ByteArray,e = .returned (.string s)∧s.size≤3+ac0 [.inr n,.inl lo]+1∧Ex W w'):=Lib.hid (by
  intro W N he hN
  subst hN
  exact ak0 ⟨#[107,101,121]⟩ [.inr n,.inl lo] W (by simp [h1,h2]) (hp.ex he) (by simp) (by have:=HB.out;show 3+_≤_;omega))
 go_enter Tryz.func235,Tryz.ntmps235
 go_wp2_with (go_at_call 234;refine (HL.out _ _ cl0 (by simp)).mono ?_;rintro e w1 ⟨s,rfl,hs,hb1⟩)
 go_ret
 refine ⟨s,rfl,?_,cl0⟩
 have:=HB.out
 omega
theorem bX7 (n o u:ByteArray) (lo hi:Int) (nw ng:Nat) (w:World) (wa ga:Option Addr) (cw cg:Nat) (hr1:n.size≤1000000) (hr2:o.size≤1000000) (hr3:u.size≤1000000) (h1:I64 lo) (h2:I64 hi) (hp:Pow10 w) (hwd:WordsAt w) :
  Calls Tryz.prog 235 #[.agg #[.string n,.string o,.string u,.int .i64 2,.int .i64 lo,.int .i64 hi,.slice wa nw cw,.slice ga ng cg]] w fun e w'=>∃ s:ByteArray,e = .returned (.string s)∧s.size≤16+n.size+o.size+u.size+intB lo+intB hi∧Ex w w':=by
 have c0:=hwd 2 _ rfl
 have lB:3<w.heap.size:=World.block_lt_of_cell? _ _ c0
 have i1:=ae6 lo
 have i2:=ae6 hi
 have HB:Hid (ac0 [.inr n,.inl lo,.inl hi]+6≤16+n.size+o.size+u.size+intB lo+intB hi):=by unfold Hid;simp [ac0,aq7];omega
 have HL:Hid (∀ (W:World) (N:Nat),Ex w W→N=W.heap.size→Calls Tryz.prog 234 #[.string ⟨#[110,117,109]⟩,.slice (some ⟨N,0,none⟩) 3 3] (W.alloc (.cells #[.iface 9 (.string n),.iface 3 (.int .i64 lo),.iface 3 (.int .i64 hi)] 20)) fun e w'=>∃ s:ByteArray,e = .returned (.string s)∧s.size≤3+ac0 [.inr n,.inl lo,.inl hi]+1∧Ex W w'):=Lib.hid (by
  intro W N he hN
  subst hN
  exact ak0 ⟨#[110,117,109]⟩ [.inr n,.inl lo,.inl hi] W (by simp [h1,h2]) (hp.ex he) (by simp) (by have:=HB.out;show 3+_≤_;omega))
 go_enter Tryz.func235,Tryz.ntmps235
 go_wp2_with (go_at_call 234;refine (HL.out _ _ cl0 (by simp)).mono ?_;rintro e w1 ⟨s,rfl,hs,hb1⟩)
 go_ret
 refine ⟨s,rfl,?_,cl0⟩
 have:=HB.out
 omega
theorem bX3 (n o u:ByteArray) (lo hi:Int) (nw ng:Nat) (w:World) (wa ga:Option Addr) (cw cg:Nat) (hr1:n.size≤1000000) (hr2:o.size≤1000000) (hr3:u.size≤1000000) (h1:I64 lo) (h2:I64 hi) (hp:Pow10 w) (hwd:WordsAt w) :
  Calls Tryz.prog 235 #[.agg #[.string n,.string o,.string u,.int .i64 6,.int .i64 lo,.int .i64 hi,.slice wa nw cw,.slice ga ng cg]] w fun e w'=>∃ s:ByteArray,e = .returned (.string s)∧s.size≤16+n.size+o.size+u.size+intB lo+intB hi∧Ex w w':=by
 have c0:=hwd 6 _ rfl
 have lB:3<w.heap.size:=World.block_lt_of_cell? _ _ c0
 have i1:=ae6 lo
 have i2:=ae6 hi
 have HB:Hid (ac0 [.inr n,.inr o]+6≤16+n.size+o.size+u.size+intB lo+intB hi):=by unfold Hid;simp [ac0,aq7];omega
 have HL:Hid (∀ (W:World) (N:Nat),Ex w W→N=W.heap.size→Calls Tryz.prog 234 #[.string ⟨#[115,117,109]⟩,.slice (some ⟨N,0,none⟩) 2 2] (W.alloc (.cells #[.iface 9 (.string n),.iface 9 (.string o)] 20)) fun e w'=>∃ s:ByteArray,e = .returned (.string s)∧s.size≤3+ac0 [.inr n,.inr o]+1∧Ex W w'):=Lib.hid (by
  intro W N he hN
  subst hN
  exact ak0 ⟨#[115,117,109]⟩ [.inr n,.inr o] W (by simp [h1,h2]) (hp.ex he) (by simp) (by have:=HB.out;show 3+_≤_;omega))
 go_enter Tryz.func235,Tryz.ntmps235
 go_wp2_with (go_at_call 234;refine (HL.out _ _ cl0 (by simp)).mono ?_;rintro e w1 ⟨s,rfl,hs,hb1⟩)
 go_ret
 refine ⟨s,rfl,?_,cl0⟩
 have:=HB.out
 omega
theorem bX2 (n o u:ByteArray) (lo hi:Int) (nw ng:Nat) (w:World) (wa ga:Option Addr) (cw cg:Nat) (hr1:n.size≤1000000) (hr2:o.size≤1000000) (hr3:u.size≤1000000) (h1:I64 lo) (h2:I64 hi) (hp:Pow10 w) (hwd:WordsAt w) :
  Calls Tryz.prog 235 #[.agg #[.string n,.string o,.string u,.int .i64 7,.int .i64 lo,.int .i64 hi,.slice wa nw cw,.slice ga ng cg]] w fun e w'=>∃ s:ByteArray,e = .returned (.string s)∧s.size≤16+n.size+o.size+u.size+intB lo+intB hi∧Ex w w':=by
 have c0:=hwd 7 _ rfl
 have lB:3<w.heap.size:=World.block_lt_of_cell? _ _ c0
 have i1:=ae6 lo
 have i2:=ae6 hi
 have HB:Hid (ac0 [.inr n,.inr u,.inr o,.inl lo,.inl hi]+6≤16+n.size+o.size+u.size+intB lo+intB hi):=by unfold Hid;simp [ac0,aq7];omega
 have HL:Hid (∀ (W:World) (N:Nat),Ex w W→N=W.heap.size→Calls Tryz.prog 234 #[.string ⟨#[115,104,97,114,101]⟩,.slice (some ⟨N,0,none⟩) 5 5] (W.alloc (.cells #[.iface 9 (.string n),.iface 9 (.string u),.iface 9 (.string o),.iface 3 (.int .i64 lo),.iface 3 (.int .i64 hi)] 20)) fun e w'=>∃ s:ByteArray,e = .returned (.string s)∧s.size≤5+ac0 [.inr n,.inr u,.inr o,.inl lo,.inl hi]+1∧Ex W w'):=Lib.hid (by
  intro W N he hN
  subst hN
  exact ak0 ⟨#[115,104,97,114,101]⟩ [.inr n,.inr u,.inr o,.inl lo,.inl hi] W (by simp [h1,h2]) (hp.ex he) (by simp) (by have:=HB.out;show 5+_≤_;omega))
 go_enter Tryz.func235,Tryz.ntmps235
 go_wp2_with (go_at_call 234;refine (HL.out _ _ cl0 (by simp)).mono ?_;rintro e w1 ⟨s,rfl,hs,hb1⟩)
 go_ret
 refine ⟨s,rfl,?_,cl0⟩
 have:=HB.out
 omega
theorem bX1 (n o u:ByteArray) (lo hi:Int) (nw ng:Nat) (w:World) (wa ga:Option Addr) (cw cg:Nat) (hr1:n.size≤1000000) (hr2:o.size≤1000000) (hr3:u.size≤1000000) (h1:I64 lo) (h2:I64 hi) (hp:Pow10 w) (hwd:WordsAt w) :
  Calls Tryz.prog 235 #[.agg #[.string n,.string o,.string u,.int .i64 8,.int .i64 lo,.int .i64 hi,.slice wa nw cw,.slice ga ng cg]] w fun e w'=>∃ s:ByteArray,e = .returned (.string s)∧s.size≤16+n.size+o.size+u.size+intB lo+intB hi∧Ex w w':=by
 have c0:=hwd 8 _ rfl
 have lB:3<w.heap.size:=World.block_lt_of_cell? _ _ c0
 have i1:=ae6 lo
 have i2:=ae6 hi
 have HB:Hid (ac0 [.inr n,.inr u,.inr o]+6≤16+n.size+o.size+u.size+intB lo+intB hi):=by unfold Hid;simp [ac0,aq7];omega
 have HL:Hid (∀ (W:World) (N:Nat),Ex w W→N=W.heap.size→Calls Tryz.prog 234 #[.string ⟨#[99,111,112,121]⟩,.slice (some ⟨N,0,none⟩) 3 3] (W.alloc (.cells #[.iface 9 (.string n),.iface 9 (.string u),.iface 9 (.string o)] 20)) fun e w'=>∃ s:ByteArray,e = .returned (.string s)∧s.size≤4+ac0 [.inr n,.inr u,.inr o]+1∧Ex W w'):=Lib.hid (by
  intro W N he hN
  subst hN
  exact ak0 ⟨#[99,111,112,121]⟩ [.inr n,.inr u,.inr o] W (by simp [h1,h2]) (hp.ex he) (by simp) (by have:=HB.out;show 4+_≤_;omega))
 go_enter Tryz.func235,Tryz.ntmps235
 go_wp2_with (go_at_call 234;refine (HL.out _ _ cl0 (by simp)).mono ?_;rintro e w1 ⟨s,rfl,hs,hb1⟩)
 go_ret
 refine ⟨s,rfl,?_,cl0⟩
 have:=HB.out
 omega
end
section
open Go.RowKit Go.Shelf
theorem bX8 (n o u:ByteArray) (lo hi:Int) (nw ng:Nat) (w:World) (wa ga:Option Addr) (cw cg:Nat) (hr1:n.size≤1000000) (hr2:o.size≤1000000) (hr3:u.size≤1000000) (h1:I64 lo) (h2:I64 hi) (hp:Pow10 w) (hwd:WordsAt w) :
  Calls Tryz.prog 235 #[.agg #[.string n,.string o,.string u,.int .i64 1,.int .i64 lo,.int .i64 hi,.slice wa nw cw,.slice ga ng cg]] w fun e w'=>∃ s:ByteArray,e = .returned (.string s)∧s.size≤16+n.size+o.size+u.size+intB lo+intB hi∧Ex w w':=by
 have c0:=hwd 1 _ rfl
 have lB:3<w.heap.size:=World.block_lt_of_cell? _ _ c0
 have i1:=ae6 lo
 have i2:=ae6 hi
 have HB:Hid (∀ t:ByteArray,t.size≤o.size+1→ac0 [.inr n,.inr t,.inl lo,.inl hi]+6≤16+n.size+o.size+u.size+intB lo+intB hi):=by unfold Hid;intro t ht;simp [ac0,aq7];omega
 have HL:Hid (∀ (W:World) (N:Nat) (t:ByteArray),t.size≤o.size+1→Ex w W→N=W.heap.size→Calls Tryz.prog 234 #[.string ⟨#[114,101,102]⟩,.slice (some ⟨N,0,none⟩) 4 4] (W.alloc (.cells #[.iface 9 (.string n),.iface 9 (.string t),.iface 3 (.int .i64 lo),.iface 3 (.int .i64 hi)] 20)) fun e w'=>∃ s:ByteArray,e = .returned (.string s)∧s.size≤3+ac0 [.inr n,.inr t,.inl lo,.inl hi]+1∧Ex W w'):=Lib.hid (by
  intro W N t ht he hN
  subst hN
  exact ak0 ⟨#[114,101,102]⟩ [.inr n,.inr t,.inl lo,.inl hi] W (by simp [h1,h2]) (hp.ex he) (by simp) (by have:=HB.out t ht;show 3+_≤_;omega))
 go_enter Tryz.func235,Tryz.ntmps235
 go_wp2
 go_region_held3 (fun W=>W.cell? ⟨w.heap.size,0,none⟩=some (.string n)∧W.cell? ⟨w.heap.size,1,none⟩=some (.string o)∧W.cell? ⟨w.heap.size,4,none⟩=some (.int .i64 lo)∧W.cell? ⟨w.heap.size,5,none⟩=some (.int .i64 hi)) (go_keep) (first|(go_at_call 236;refine (aB3 _ _).mono ?_;rintro e w1 ⟨t,rfl,ht,hb1⟩;(have hq7:=ru7;(try clear hc hf);obtain ⟨hb,hc,hf,hz⟩:=hq7;(try simp only [zsz7] at hz);(try have hz0:=z07 w w1);(try have hz1:=z17 w w1);(try have hz2:=z27 w w1)))|(go_at_call 234;refine (HL.out _ _ _ ht cl0 (by first|rfl|simp)).mono ?_;rintro e w1 ⟨s,rfl,hs,hb1⟩;(have hq7:=ru7;(try clear hc hf);obtain ⟨hb,hc,hf,hz⟩:=hq7;(try simp only [zsz7] at hz);(try have hz0:=z07 w w1);(try have hz1:=z17 w w1);(try have hz2:=z27 w w1))))
 all_goals go_wp2
 all_goals go_ret
 all_goals
  refine ⟨s,rfl,?_,cl0⟩
  have:=HB.out t ht
  omega
theorem bX5 (n o u:ByteArray) (lo hi:Int) (nw ng:Nat) (w:World) (wa ga:Option Addr) (cw cg:Nat) (hr1:n.size≤1000000) (hr2:o.size≤1000000) (hr3:u.size≤1000000) (h1:I64 lo) (h2:I64 hi) (hp:Pow10 w) (hwd:WordsAt w) :
  Calls Tryz.prog 235 #[.agg #[.string n,.string o,.string u,.int .i64 4,.int .i64 lo,.int .i64 hi,.slice wa nw cw,.slice ga ng cg]] w fun e w'=>∃ s:ByteArray,e = .returned (.string s)∧s.size≤16+n.size+o.size+u.size+intB lo+intB hi∧Ex w w':=by
 have c0:=hwd 4 _ rfl
 have lB:3<w.heap.size:=World.block_lt_of_cell? _ _ c0
 have i1:=ae6 lo
 have i2:=ae6 hi
 have HB:Hid (∀ t:ByteArray,t.size≤o.size+1→ac0 [.inr n,.inr t,.inl lo,.inl hi]+6≤16+n.size+o.size+u.size+intB lo+intB hi):=by unfold Hid;intro t ht;simp [ac0,aq7];omega
 have HL:Hid (∀ (W:World) (N:Nat) (t:ByteArray),t.size≤o.size+1→Ex w W→N=W.heap.size→Calls Tryz.prog 234 #[.string ⟨#[100,97,121]⟩,.slice (some ⟨N,0,none⟩) 4 4] (W.alloc (.cells #[.iface 9 (.string n),.iface 9 (.string t),.iface 3 (.int .i64 lo),.iface 3 (.int .i64 hi)] 20)) fun e w'=>∃ s:ByteArray,e = .returned (.string s)∧s.size≤3+ac0 [.inr n,.inr t,.inl lo,.inl hi]+1∧Ex W w'):=Lib.hid (by
  intro W N t ht he hN
  subst hN
  exact ak0 ⟨#[100,97,121]⟩ [.inr n,.inr t,.inl lo,.inl hi] W (by simp [h1,h2]) (hp.ex he) (by simp) (by have:=HB.out t ht;show 3+_≤_;omega))
 go_enter Tryz.func235,Tryz.ntmps235
 go_wp2
 go_region_held3 (fun W=>W.cell? ⟨w.heap.size,0,none⟩=some (.string n)∧W.cell? ⟨w.heap.size,1,none⟩=some (.string o)∧W.cell? ⟨w.heap.size,4,none⟩=some (.int .i64 lo)∧W.cell? ⟨w.heap.size,5,none⟩=some (.int .i64 hi)) (go_keep) (first|(go_at_call 236;refine (aB3 _ _).mono ?_;rintro e w1 ⟨t,rfl,ht,hb1⟩;(have hq7:=ru7;(try clear hc hf);obtain ⟨hb,hc,hf,hz⟩:=hq7;(try simp only [zsz7] at hz);(try have hz0:=z07 w w1);(try have hz1:=z17 w w1);(try have hz2:=z27 w w1)))|(go_at_call 234;refine (HL.out _ _ _ ht cl0 (by first|rfl|simp)).mono ?_;rintro e w1 ⟨s,rfl,hs,hb1⟩;(have hq7:=ru7;(try clear hc hf);obtain ⟨hb,hc,hf,hz⟩:=hq7;(try simp only [zsz7] at hz);(try have hz0:=z07 w w1);(try have hz1:=z17 w w1);(try have hz2:=z27 w w1))))
 all_goals go_wp2
 all_goals go_ret
 all_goals
  refine ⟨s,rfl,?_,cl0⟩
  have:=HB.out t ht
  omega
theorem bX4 (n o u:ByteArray) (lo hi:Int) (nw ng:Nat) (w:World) (wa ga:Option Addr) (cw cg:Nat) (hr1:n.size≤1000000) (hr2:o.size≤1000000) (hr3:u.size≤1000000) (h1:I64 lo) (h2:I64 hi) (hp:Pow10 w) (hwd:WordsAt w) :
  Calls Tryz.prog 235 #[.agg #[.string n,.string o,.string u,.int .i64 5,.int .i64 lo,.int .i64 hi,.slice wa nw cw,.slice ga ng cg]] w fun e w'=>∃ s:ByteArray,e = .returned (.string s)∧s.size≤16+n.size+o.size+u.size+intB lo+intB hi∧Ex w w':=by
 have c0:=hwd 5 _ rfl
 have lB:3<w.heap.size:=World.block_lt_of_cell? _ _ c0
 have i1:=ae6 lo
 have i2:=ae6 hi
 have HB:Hid (∀ t:ByteArray,t.size≤o.size+1→ac0 [.inr n,.inr t,.inl lo,.inl hi]+6≤16+n.size+o.size+u.size+intB lo+intB hi):=by unfold Hid;intro t ht;simp [ac0,aq7];omega
 have HL:Hid (∀ (W:World) (N:Nat) (t:ByteArray),t.size≤o.size+1→Ex w W→N=W.heap.size→Calls Tryz.prog 234 #[.string ⟨#[115,116,101,112]⟩,.slice (some ⟨N,0,none⟩) 4 4] (W.alloc (.cells #[.iface 9 (.string n),.iface 9 (.string t),.iface 3 (.int .i64 lo),.iface 3 (.int .i64 hi)] 20)) fun e w'=>∃ s:ByteArray,e = .returned (.string s)∧s.size≤4+ac0 [.inr n,.inr t,.inl lo,.inl hi]+1∧Ex W w'):=Lib.hid (by
  intro W N t ht he hN
  subst hN
  exact ak0 ⟨#[115,116,101,112]⟩ [.inr n,.inr t,.inl lo,.inl hi] W (by simp [h1,h2]) (hp.ex he) (by simp) (by have:=HB.out t ht;show 4+_≤_;omega))
 go_enter Tryz.func235,Tryz.ntmps235
 go_wp2
 go_region_held3 (fun W=>W.cell? ⟨w.heap.size,0,none⟩=some (.string n)∧W.cell? ⟨w.heap.size,1,none⟩=some (.string o)∧W.cell? ⟨w.heap.size,4,none⟩=some (.int .i64 lo)∧W.cell? ⟨w.heap.size,5,none⟩=some (.int .i64 hi)) (go_keep) (first|(go_at_call 236;refine (aB3 _ _).mono ?_;rintro e w1 ⟨t,rfl,ht,hb1⟩;(have hq7:=ru7;(try clear hc hf);obtain ⟨hb,hc,hf,hz⟩:=hq7;(try simp only [zsz7] at hz);(try have hz0:=z07 w w1);(try have hz1:=z17 w w1);(try have hz2:=z27 w w1)))|(go_at_call 234;refine (HL.out _ _ _ ht cl0 (by first|rfl|simp)).mono ?_;rintro e w1 ⟨s,rfl,hs,hb1⟩;(have hq7:=ru7;(try clear hc hf);obtain ⟨hb,hc,hf,hz⟩:=hq7;(try simp only [zsz7] at hz);(try have hz0:=z07 w w1);(try have hz1:=z17 w w1);(try have hz2:=z27 w w1))))
 all_goals go_wp2
 all_goals go_ret
 all_goals
  refine ⟨s,rfl,?_,cl0⟩
  have:=HB.out t ht
  omega
end
section
open Go.RowKit
def cellsOf {α:Type} (C:α→List Value) (xs:List α):List Value:=xs.flatMap C
theorem aL7 {α:Type} {C:α→List Value} {k:Nat}:∀ {xs:List α} {i:Nat} {x:α} {j:Nat} {v:Value},(∀ x,x∈xs→(C x).length=k)→xs[i]?=some x→(C x)[j]?=some v→(cellsOf C xs)[i*k+j]?=some v
 | [],i,x,j,v,_,h,_=>by simp at h
 | y :: xs,0,x,j,v,hk,h,hj=>by
  simp at h;subst h
  simp only [cellsOf,List.flatMap_cons,Nat.zero_mul,Nat.zero_add]
  rw [List.getElem?_append_left (List.getElem?_eq_some_iff.1 hj).1];exact hj
 | y :: xs,i+1,x,j,v,hk,h,hj=>by
  simp at h
  have:=aL7 (xs:=xs) (fun z hz=>hk z (List.mem_cons_of_mem _ hz)) h hj
  simp only [cellsOf,List.flatMap_cons] at *
  have hy:=hk y (List.mem_cons_self ..)
  rw [List.getElem?_append_right (by rw [hy,Nat.add_mul];omega),hy,Nat.add_mul]
  rw [show i*k+1*k+j - k=i*k+j from by omega];exact this
theorem aJ3 {α:Type} {w:World} {base k:Nat} {e:TypeId} {v:Value} {C:α→List Value} {R:α→List Value→Prop} {xs:List α} {n:Nat} (hn:n=xs.length)
  (h:w.ownsRow base e k v n (cellsOf C xs)) (hk:∀ x,x∈xs→(C x).length=k) (hR:∀ x,x∈xs→R x (C x)) :
  ∃ a cap,v = .slice a xs.length cap∧Row k R w (fun b=>some b=v.ownBlock) xs a cap:=by
 subst hn
 rcases h.2 with ⟨rfl,h0⟩|⟨g,cap,cur,rfl,hg,hh,hle,_,hs,ht⟩
 ·have:xs=[]:=List.eq_nil_of_length_eq_zero h0
  subst this
  exact ⟨none,0,rfl,Row.nil⟩
 ·refine ⟨_,cap,rfl,hle,fun i x hx=>⟨g,0,rfl,rfl,C x,hk x (List.mem_of_getElem? hx),hR x (List.mem_of_getElem? hx),fun j u hj=>?_⟩⟩
  have h1:=aL7 hk hx hj
  rw [← ht] at h1
  have h2:cur.toList[i*k+j]?=some u:=by
   have:=(List.getElem?_eq_some_iff.1 h1).1
   rw [List.getElem?_take] at h1
   split at h1
   ·exact h1
   ·simp at h1
  simp only [World.cell?,hh,Nat.zero_add]
  simpa using h2
theorem ax5 {w:World} {base k n:Nat} {e:TypeId} {v:Value} {xs:List Value} (h:w.ownsRow base e k v n xs):∃ a cap,v = .slice a n cap:=by
 rcases h.2 with ⟨rfl,h0⟩|⟨g,cap,cur,rfl,_⟩
 ·exact ⟨none,0,by rw [h0]⟩
 ·exact ⟨_,_,rfl⟩
theorem Ex.appended {w wr w':World} {base k n:Nat} {e:TypeId} {v:Value} {xs:List Value} (he:Ex w wr) (h:wr.ownsRow base e k v n xs) (hB:w.heap.size≤base) (hg:wr.grownBy w' v.ownBlock):Ex w w':=
 he.grown hg (fun j hj=>by have:=(h.lt j hj).1;omega)
end
section
open Go.RowKit Go.Shelf
theorem ab0 {a b:Bool} (h:a=b):Ending.returned (.bool a) = .returned (.bool b):=by rw [h]
theorem aw2 {k:IntKind} {a b:Int} (h:a=b):Ending.returned (.int k a) = .returned (.int k b):=by rw [h]
theorem ab3 (n a b:Int) (w:World):Calls Tryz.prog 189 #[.int .i64 n,.int .i64 a,.int .i64 b] w fun e w'=>e = .returned (.bool (ac1 n a b))∧w=w':=by
 by_cases h1:a≤n
 all_goals
  go_enter Tryz.func189,Tryz.ntmps189
  go_wp2
  go_ret
  exact ⟨ab0 (by simp [ac1];try omega),rfl⟩
theorem ah1 (lo hi a b:Int) (w:World):Calls Tryz.prog 226 #[.int .i64 lo,.int .i64 hi,.int .i64 a,.int .i64 b] w fun e w'=>e = .returned (.bool (aw1 lo hi a b))∧w=w':=by
 by_cases h1:a≤lo <;> by_cases h2:lo≤hi
 all_goals
  go_enter Tryz.func226,Tryz.ntmps226
  go_wp2
  go_ret
  exact ⟨ab0 (by simp only [aw1];rw [Bool.eq_iff_iff];simp;try omega),rfl⟩
theorem aF3 (c:UInt8) (w:World):Calls Tryz.prog 248 #[.int .u8 c.toNat] w fun e w'=>e = .returned (.bool (aw5 c))∧w=w':=by
 by_cases h1:97≤(c.toNat:Int)
 all_goals
  go_enter Tryz.func248,Tryz.ntmps248
  go_wp2
  go_ret
  exact ⟨ab0 (by simp [aw5];try omega),rfl⟩
theorem bf3 (c:UInt8) (w:World):Calls Tryz.prog 251 #[.int .u8 c.toNat] w fun e w'=>e = .returned (.bool (bo5 c))∧w=w':=by
 by_cases h1:48≤(c.toNat:Int)
 all_goals
  go_enter Tryz.func251,Tryz.ntmps251
  go_wp2
  go_ret
  exact ⟨ab0 (by simp [bo5];try omega),rfl⟩
theorem aY9 (w:World) (l:List UInt8):Asks Tryz.prog 250 #[] w aq6 bc0 l (fun c=>!alnum c):=by
 refine ⟨enters_of Tryz.func250 (by kernel_rfl) rfl,fun c vs W hm hr hW=>?_⟩
 cases hr
 show Calls _ _ #[.int .u8 c.toNat] _ _
 cases h:aw5 c
 all_goals
  go_enter Tryz.func250,Tryz.ntmps250
  go_wp2_with (first|(go_at_call 248;refine (aF3 _ _).mono ?_;rintro e w' ⟨rfl,rfl⟩)|(go_at_call 251;refine (bf3 _ _).mono ?_;rintro e w' ⟨rfl,rfl⟩))
  go_ret
  exact ⟨ab0 (by simp [alnum,h]),Ex.refl _⟩
theorem aU7 (w:World) (e:TypeId) (s:ByteArray):Ex w (Lib.bytesWorld w e s):=
 ⟨rfl,rfl,rfl,
  by rw [Lib.bytesWorld_size];omega,fun b hb _=>Lib.bytesWorld_at_old w e s b hb⟩
theorem aN2 (w:World) (e:TypeId) (s:ByteArray) (cap:Nat) (hc:s.size≤cap):Row 1 bc0 (Lib.bytesWorld w e s) (fun _=>True) (bytes s) (some ⟨w.heap.size,0,none⟩) cap:=
 ⟨by unfold bytes;simpa using hc,fun i x hx=>⟨w.heap.size,0,rfl,trivial,[.int .u8 x.toNat],rfl,rfl,fun j v hj=>by
  unfold bytes at hx
  obtain ⟨hi,rfl⟩:=List.getElem?_eq_some_iff.1 hx
  have hi':i<s.size:=by simpa using hi
  have:=Lib.bytesWorld_cell w e s i hi'
  cases j with
  | zero=>simp at hj;subst hj;simpa [List.getD,hi'] using this
  | succ j=>simp at hj⟩⟩
theorem aJ0 (s:ByteArray):s.size=(bytes s).length:=by unfold bytes;rw [Array.length_toList];rfl
theorem ab9 (s:ByteArray) (w:World) (hs:s.size≤9223372036854775807):Calls Tryz.prog 225 #[.string s] w fun e w'=>e = .returned (.bool (isNm s))∧Ex w w':=by
 have HW:=Lib.hid (fun n (w:World)=>ab3 n 1 12 w)
 have HL:=Lib.hid aF3
 cases hw:ac1 s.size 1 12 with
 | false=>
  have HN:Hid (isNm s=false):=Lib.hid (by simp [isNm,hw])
  go_enter Tryz.func225,Tryz.ntmps225
  go_wp2_with (go_at_call 189;refine (HW.out _ _).mono ?_;rintro e w' ⟨rfl,rfl⟩)
  go_ret
  exact ⟨ab0 HN.out.symm,Ex.refl _⟩
 | true=>
  have h1:1≤s.size:=by simp [ac1] at hw;omega
  have h12:s.size≤12:=by simp [ac1] at hw;omega
  obtain ⟨c,r,hcr⟩:∃ c r,bytes s=c :: r:=by
   cases h:bytes s with
   | nil=>rw [aJ0,h] at h1;simp at h1
   | cons c r=>exact ⟨c,r,rfl⟩
  have hs0:s[0]=c:=by
   have:(bytes s)[0]?=some c:=by rw [hcr];rfl
   unfold bytes at this
   simp only [Array.getElem?_toList] at this
   exact (Array.getElem?_eq_some_iff.1 this).2
  cases hl:aw5 c with
  | false=>
   have HN:Hid (isNm s=false):=Lib.hid (by simp [isNm,hw,hcr,hl])
   have HS:=Lib.hid hs0;clear hs0 hcr
   go_enter Tryz.func225,Tryz.ntmps225
   go_wp2_with (first|(go_at_call 189;refine (HW.out _ _).mono ?_;rintro e w' ⟨rfl,rfl⟩)|(go_at_call 248;rw [HS.out];refine (HL.out _ _).mono ?_;rintro e w' ⟨rfl,rfl⟩))
   go_ret
   exact ⟨ab0 HN.out.symm,Ex.refl _⟩
  | true=>
   have HN:Hid (isNm s=(bytes s).all alnum):=Lib.hid (by simp [isNm,hw,hcr,hl])
   have HA:=Lib.hid (ak6 alnum (bytes s))
   have HS:=Lib.hid hs0;clear hs0 hcr
   have hlen:(bytes s).length≤140737488355328:=by rw [← aJ0];omega
   have HC:Hid (∀ cap,s.size≤cap→Calls Tryz.prog 249 #[.slice (some ⟨w.heap.size,0,none⟩) s.size cap,.func (.func 250) #[] #[]] (Lib.bytesWorld w 5 s) fun e w'=>e = .returned (.bool ((bytes s).any fun c=>!alnum c))∧Ex (Lib.bytesWorld w 5 s) w'):=
    Lib.hid (fun cap hc=>by
     have:=ba8 (aN2 w 5 s cap hc) hlen (aY9 _ _)
     rw [← aJ0] at this;exact this)
   clear hlen
   have kc:=fun (w:World)=>Lib.run_convert_string_bytes (P:=Tryz.prog) w 9 23 5 s Tryz.underlying9 Tryz.underlying23 Tryz.underlying5
   have hcap:s.size≤grownCap w s.size 0 5:=grownCap_ge _ _ _ _
   go_enter Tryz.func225,Tryz.ntmps225
   go_wp2_with (first|(go_at_call 189;refine (HW.out _ _).mono ?_;rintro e w' ⟨rfl,rfl⟩)|(go_at_call 248;rw [HS.out];refine (HL.out _ _).mono ?_;rintro e w' ⟨rfl,rfl⟩)|(go_at_call 249;refine (HC.out _ hcap).mono ?_;rintro e w' ⟨rfl,hb⟩))
   go_ret
   exact ⟨ab0 (by rw [HN.out,← HA.out]),(aU7 _ _ _).trans hb⟩
end
section
open Go.RowKit Go.Shelf
theorem aC0 {w w':World} {F:Nat→Prop} {xs:List Int} {a:Option Addr} {cap:Nat} (h:RInts w F xs a cap) (hex:Same F w w') {i:Nat} (hi:i<xs.length) :
  ∃ x b off,Hid (xs[i]?=some x)∧a=some ⟨b,off,none⟩∧F b∧w'.cell? ⟨b,off+i,none⟩=some (.int .i64 x)∧I64 x:=by
 obtain ⟨b,off,ha,hb,vs,hl,⟨rfl,hx⟩,hc⟩:=h.at_ i xs[i] (List.getElem?_eq_getElem hi)
 exact ⟨xs[i],b,off,Lib.hid (List.getElem?_eq_getElem hi),ha,hb,hex.cell (p:=⟨b,off+i,none⟩) (by have:=hc 0 _ rfl;simpa using this) hb,hx⟩
theorem aL0 (w:World) (l:List ByteArray) (hl:∀ s,s∈l→s.size≤9223372036854775807):Asks Tryz.prog 225 #[] w aq6 RStr l isNm:=by
 refine ⟨enters_of Tryz.func225 (by kernel_rfl) rfl,fun s vs W hm hr hW=>?_⟩
 cases hr
 exact ab9 s W (hl s hm)
theorem aQ5 (gs:List Int) (j:Nat) (x:Int) (h:gs[j]?=some x):(gs.take (j+1)).sum=(gs.take j).sum+x:=by
 rw [List.take_add_one,h];simp [List.sum_append]
theorem bK1 {α:Type} {p:α→Bool} {xs:List α} {j:Nat} (h:∀ i y,i<j→xs[i]?=some y→p y=true) (hj:xs.length≤j):xs.all p=true:=by
 rw [List.all_eq_true];intro x hx
 obtain ⟨i,hi⟩:=List.getElem?_of_mem hx
 exact h i x (by have:=(List.getElem?_eq_some_iff.1 hi).1;omega) hi
theorem cm1 {α:Type} {p:α→Bool} {xs:List α} {j:Nat} {x:α} (hx:xs[j]?=some x) (hp:p x=false):xs.all p=false:=by
 rw [List.all_eq_false];exact ⟨x,List.mem_of_getElem? hx,by simp [hp]⟩
theorem bK2 {α:Type} {xs:List α} {p:α→Bool} {j:Nat} {x:α} (hno:∀ i y,i<j→xs[i]?=some y→p y=true) (hx:xs[j]?=some x) (hp:p x=true) :
  ∀ i y,i<j+1→xs[i]?=some y→p y=true:=fun i y hi hy=>by
 rcases Nat.lt_or_ge i j with h|h
 ·exact hno i y h hy
 ·obtain rfl:i=j:=by omega
  rw [hx] at hy;cases hy;exact hp
theorem bo1 (ws:List ByteArray) (gs:List Int) (w:World) {F:Nat→Prop} {wa ga:Option Addr} {wc gc:Nat} (hw:av6 w F ws wa wc) (hg:RInts w F gs ga gc)
  (hl:∀ s,s∈ws→s.size≤9223372036854775807) (hgl:gs.length≤1000000) (hwl:ws.length≤1000000) :
  Calls Tryz.prog 256 #[.slice wa ws.length wc,.slice ga gs.length gc] w fun e w'=>e = .returned (.bool (ag1 ws gs))∧Ex w w':=by
 have HA:=Lib.hid (fun (w':World) (hx:Ex w w')=>bC0 (hw.keep (w':=w') hx.same (fun _ h=>h) (fun _ _ _ h=>h)) (by omega) (aL0 w' ws hl))
 go_enter Tryz.func256,Tryz.ntmps256
 go_wp2
 go_loop [5,10] (fun s i=>∃ j:Nat,j≤gs.length∧i = .int .i64 j∧Hid (∀ i y,i<j→gs[i]?=some y→ac1 y 0 1048576=true)∧∃ t:Int,Hid (t=(gs.take j).sum)∧0≤t∧t≤j*1048576∧s = .int .i64 t) (fun _ i=>gs.length - (intOf i).toNat)
 case atStart=>exact ⟨0,by omega,rfl,fun i y h=>by omega,0,by simp [Hid],by omega,by omega,rfl⟩
 case round=>
  obtain ⟨j,hj,rfl,hno,t,ht,ht0,ht1,rfl⟩:=hrel
  by_cases hlt:j<gs.length
  ·obtain ⟨x,b,off,hx,rfl,_,c0,hx1,hx2⟩:=aC0 hg (Ex.refl w).same hlt
   cases hp:ac1 x 0 1048576 with
   | true=>
    have h0:0≤x:=by simp [ac1] at hp;omega
    have h1:x≤1048576:=by simp [ac1] at hp;omega
    have Hi:=Lib.hid (bK2 (p:=fun n=>ac1 n 0 1048576) hno.out hx.out hp);clear hno
    have Ht:=Lib.hid (aQ5 gs j x hx.out)
    go_wp2_with (go_at_call 189;refine (ab3 _ _ _ _).mono ?_;rintro e w' ⟨rfl,rfl⟩)
    go_round
    case rel=>exact ⟨j+1,by omega,by go_num,Hi,t+x,by unfold Hid;rw [Ht.out,ht.out],by omega,by push_cast;omega,rfl⟩
    case measure=>simp [intOf];omega
   | false=>
    have Hr:Hid (ag1 ws gs=false):=Lib.hid (by simp only [ag1,cm1 (p:=fun n=>ac1 n 0 1048576) hx.out hp,Bool.false_and])
    go_wp2_with (go_at_call 189;refine (ab3 _ _ _ _).mono ?_;rintro e w' ⟨rfl,rfl⟩)
    go_ret
    exact ⟨ab0 Hr.out.symm,Ex.refl _⟩
  ·have hall:(gs.all fun n=>ac1 n 0 1048576)=true:=bK1 (p:=fun n=>ac1 n 0 1048576) hno.out (by omega)
   have hsum:t=gs.sum:=by rw [ht.out,List.take_of_length_le (by omega)]
   cases h1:ac1 ws.length 1 12 with
   | false=>
    have Hr:Hid (ag1 ws gs=false):=Lib.hid (by simp only [ag1,h1,Bool.false_and,Bool.and_false])
    clear hall hsum
    go_wp2_with (go_at_call 189;refine (ab3 _ _ _ _).mono ?_;rintro e w' ⟨rfl,rfl⟩)
    go_ret
    exact ⟨ab0 Hr.out.symm,Ex.refl _⟩
   | true=>
    cases h2:decide (ws.length=gs.length) with
    | false=>
     have Hr:Hid (ag1 ws gs=false):=Lib.hid (by simp only [ag1,h2,Bool.false_and,Bool.and_false])
     have h2':((ws.length:Int) == (gs.length:Int))=false:=by simp at h2 ⊢;omega
     clear hall hsum h2
     go_wp2_with (go_at_call 189;refine (ab3 _ _ _ _).mono ?_;rintro e w' ⟨rfl,rfl⟩)
     go_ret
     exact ⟨ab0 Hr.out.symm,Ex.refl _⟩
    | true=>
     have h2':((ws.length:Int) == (gs.length:Int))=true:=by simp at h2 ⊢;omega
     by_cases h3:0<t
     ·have Hr:Hid (ag1 ws gs=ws.all isNm):=Lib.hid (by rw [hsum] at h3;simp only [ag1,hall,h1,h2,Bool.true_and,decide_eq_true h3])
      clear hall hsum h2
      go_wp2_with (first|(go_at_call 189;refine (ab3 _ _ _ _).mono ?_;rintro e w' ⟨rfl,rfl⟩)|(go_at_call 230;refine (HA.out _ (Ex.refl _)).mono ?_;rintro e w' ⟨rfl,hb⟩))
      go_ret
      exact ⟨ab0 Hr.out.symm,hb⟩
     ·have Hr:Hid (ag1 ws gs=false):=Lib.hid (by rw [hsum] at h3;simp only [ag1,decide_eq_false h3,Bool.false_and,Bool.and_false])
      clear hall hsum h2
      go_wp2_with (go_at_call 189;refine (ab3 _ _ _ _).mono ?_;rintro e w' ⟨rfl,rfl⟩)
      go_ret
      exact ⟨ab0 Hr.out.symm,Ex.refl _⟩
theorem cl19 {p:Prop} (h:p:=by first|exact hr1|exact hr2|exact hr3|exact hr4):p:=h
theorem bo0 (r:Rul) (w:World) (hs:SmR r) :
  Calls Tryz.prog 195 #[.agg #[.string r.name,.string r.kind,.string r.a,.string r.b,.int .i64 r.n]] w fun e w'=>e = .returned (.bool (aw7 r))∧Ex w w':=by
 have hr1:=hs.name.le
 have hr2:=hs.kind.le
 have hr3:=hs.a.le
 have hr4:=hs.b.le
 have hab:r.a.size+r.b.size≤9223372036854775807:=by have:=hs.a;have:=hs.b;unfold SmS at *;omega
 clear hs
 obtain ⟨rname,rkind,ra,rb,rn⟩:=r
 simp only at *
 cases h1:isNm rname
 ·go_enter Tryz.func195,Tryz.ntmps195
  go_wp2_with (first|(go_at_call 225;refine (ab9 _ _ cl19).mono ?_;rintro e w1 ⟨rfl,hb1⟩;(have hq7:=ru7;(try clear hc hf);obtain ⟨hb,hc,hf,hz⟩:=hq7;(try simp only [zsz7] at hz);(try have hz0:=z07 w w1);(try have hz1:=z17 w w1);(try have hz2:=z27 w w1)))|(go_at_call 189;refine (ab3 _ _ _ _).mono ?_;rintro e w' ⟨rfl,rfl⟩))
  go_ret
  exact ⟨ab0 (by simp [aw7,h1]),cl0⟩
 cases h2:isNm rkind
 ·go_enter Tryz.func195,Tryz.ntmps195
  go_wp2_with (first|(go_at_call 225;refine (ab9 _ _ cl19).mono ?_;rintro e w1 ⟨rfl,hb1⟩;(have hq7:=ru7;(try clear hc hf);obtain ⟨hb,hc,hf,hz⟩:=hq7;(try simp only [zsz7] at hz);(try have hz0:=z07 w w1);(try have hz1:=z17 w w1);(try have hz2:=z27 w w1)))|(go_at_call 189;refine (ab3 _ _ _ _).mono ?_;rintro e w' ⟨rfl,rfl⟩))
  go_ret
  exact ⟨ab0 (by simp [aw7,h2]),cl0⟩
 cases h3:ra.toList.isEmpty
 all_goals cases h3a:isNm ra
 all_goals cases h4:rb.toList.isEmpty
 all_goals cases h4a:isNm rb
 all_goals
  have h5:=bo4 ra rb
  simp only [isE,h3,h4,Bool.and_self,Bool.and_false,Bool.false_and] at h5
  go_enter Tryz.func195,Tryz.ntmps195
  go_wp2_with (first|(go_at_call 225;refine (ab9 _ _ cl19).mono ?_;rintro e w1 ⟨rfl,hb1⟩;(have hq7:=ru7;(try clear hc hf);obtain ⟨hb,hc,hf,hz⟩:=hq7;(try simp only [zsz7] at hz);(try have hz0:=z07 w w1);(try have hz1:=z17 w w1);(try have hz2:=z27 w w1)))|(go_at_call 189;refine (ab3 _ _ _ _).mono ?_;rintro e w' ⟨rfl,rfl⟩))
  go_ret
  exact ⟨ab0 (by simp [aw7,isE,h1,h2,h3,h4,h3a,h4a]),cl0⟩
end
section
open Go.RowKit Go.Shelf
def af8:List ByteArray→List Int→List (Int ⊕ ByteArray)
 | s :: ws,n :: gs=>.inr s :: .inl n :: af8 ws gs
 | _,_=>[]
theorem aF1:∀ (ws:List ByteArray) (gs:List Int) (j:Nat) (s:ByteArray) (n:Int),ws[j]?=some s→gs[j]?=some n→af8 (ws.take (j+1)) (gs.take (j+1))=af8 (ws.take j) (gs.take j) ++ [.inr s,.inl n]
 | [],_,j,s,n,h,_=>by simp at h
 | _ :: _,[],j,s,n,_,h=>by simp at h
 | a :: ws,b :: gs,0,s,n,h,h'=>by simp at h h';subst h h';simp [af8]
 | a :: ws,b :: gs,j+1,s,n,h,h'=>by
  have:=aF1 ws gs j s n (by simpa using h) (by simpa using h')
  simp [af8,this]
theorem ay4:∀ (ws:List ByteArray) (gs:List Int),ws.length=gs.length→(af8 ws gs).length=2*ws.length
 | [],_,_=>by simp [af8]
 | _ :: _,[],h=>by simp at h
 | a :: ws,b :: gs,h=>by simp [af8,ay4 ws gs (by simpa using h)];omega
theorem aX5:∀ (ws:List ByteArray) (gs:List Int),ws.length=gs.length→ac0 (af8 ws gs)=(ws.map fun s=>1+s.size).sum+(gs.map fun n=>1+intB n).sum
 | [],[],_=>by simp [af8,ac0]
 | [],_ :: _,h=>by simp at h
 | _ :: _,[],h=>by simp at h
 | a :: ws,b :: gs,h=>by
  have:=aX5 ws gs (by simpa using h)
  simp only [ac0,af8,List.map_cons,List.sum_cons,aq7] at *;omega
theorem aJ9:∀ (ws:List ByteArray) (gs:List Int),(∀ n,n∈gs→I64 n)→∀ n,Sum.inl n∈af8 ws gs→I64 n
 | [],_,_,n,h=>by simp [af8] at h
 | _ :: _,[],_,n,h=>by simp [af8] at h
 | a :: ws,b :: gs,hg,n,h=>by
  simp only [af8,List.mem_cons] at h
  rcases h with h|h|h
  ·cases h
  ·cases h;exact hg _ (List.mem_cons_self ..)
  ·exact aJ9 ws gs (fun m hm=>hg m (List.mem_cons_of_mem _ hm)) n h
theorem aP5 (l:List (Int ⊕ ByteArray)):cellsOf (fun x=>[anyV x]) l=l.map anyV:=by
 induction l with
 | nil=>rfl
 | cons x l ih=>simp only [cellsOf,List.flatMap_cons,List.map_cons] at *;rw [ih];rfl
theorem bx8:(Tryz.prog.info? 20).map (fun i=>(i.zero,i.size,i.bytes))=some (some .nilIface,1,16):=by kernel_rfl
theorem RInts.i64 {w:World} {F:Nat→Prop} {xs:List Int} {a:Option Addr} {c:Nat} (h:RInts w F xs a c):∀ n,n∈xs→I64 n:=fun n hn=>by
 obtain ⟨i,hi⟩:=List.getElem?_of_mem hn
 obtain ⟨b,off,_,_,vs,_,⟨_,hx⟩,_⟩:=h.at_ i n hi
 exact hx
theorem bQ9 (w:World) (x y:Value) (t:TypeId):∀ j u,[x,y][j]?=some u→(w.alloc (.cells #[x,y] t)).cell? ((⟨w.heap.size,0,none⟩:Addr).add j)=some u:=by
 intro j u hj
 match j,hj with
 | 0,hj=>simp at hj;subst hj;simp [Addr.add]
 | 1,hj=>simp at hj;subst hj;simp [Addr.add]
theorem bQ8 (a b:Int ⊕ ByteArray):∀ u∈[anyV a,anyV b],u.oneCell'=true:=by
 cases a <;> cases b <;> simp [anyV,Value.oneCell']
def ag0 (n:ByteArray) (ws:List ByteArray) (gs:List Int) (j:Nat):List (Int ⊕ ByteArray):=Sum.inr n :: Sum.inl (ws.length:Int) :: af8 (ws.take j) (gs.take j)
theorem aG1 (n:ByteArray) (ws:List ByteArray) (gs:List Int) (j:Nat) (h:ws.length=gs.length) (hj:j≤ws.length):(ag0 n ws gs j).length=2+2*j:=by
 simp only [ag0,List.length_cons];rw [ay4 _ _ (by simp [h])];simp;omega
theorem aM8 (n:ByteArray) (ws:List ByteArray) (gs:List Int) (j:Nat) (s:ByteArray) (g:Int) (h:ws[j]?=some s) (h':gs[j]?=some g):ag0 n ws gs (j+1)=ag0 n ws gs j ++ [.inr s,.inl g]:=by
 simp only [ag0,aF1 ws gs j s g h h',List.cons_append]
theorem bX6 (n o u:ByteArray) (lo hi:Int) (ws:List ByteArray) (gs:List Int) (w:World) {F:Nat→Prop} (wa ga:Option Addr) (cw cg:Nat) (hws:av6 w F ws wa cw) (hgs:RInts w F gs ga cg) (hlen:ws.length=gs.length) (hl:ws.length≤1000) (hr1:n.size≤1000000)
  (hb:ac0 (af8 ws gs)≤1000000) (hp:Pow10 w) (hwd:WordsAt w) :
  Calls Tryz.prog 235 #[.agg #[.string n,.string o,.string u,.int .i64 3,.int .i64 lo,.int .i64 hi,.slice wa ws.length cw,.slice ga gs.length cg]] w
   fun e w'=>∃ s:ByteArray,e = .returned (.string s)∧s.size≤7+n.size+intB ws.length+ac0 (af8 ws gs)∧Ex w w':=by
 have c0:=hwd 3 _ rfl
 have lB:3<w.heap.size:=World.block_lt_of_cell? _ _ c0
 obtain ⟨i0,hiA,hzA,hz1,hz2⟩:=info_parts bx8
 have HE:=Lib.hid hlen
 have HBB:=Lib.hid hb
 clear hlen hb
 go_enter Tryz.func235,Tryz.ntmps235
 go_wp2
 go_loopw [4,51] (fun s4 i wr=>∃ (j:Nat),j≤ws.length∧i = .int .i64 j∧Ex (w.alloc (.cells #[.string n,.string o,.string u,.int .i64 3,.int .i64 lo,.int .i64 hi,.slice wa ws.length cw,.slice ga gs.length cg] 97)) wr ∧
  Hid (wr.ownsRow (w.heap.size+1) 20 1 s4 (2+2*j) ((ag0 n ws gs j).map anyV))) (fun _ i _=>ws.length - (intOf i).toNat)
 case atStart=>
  refine ⟨0,by omega,rfl,cl0,?_⟩
  have:=World.ownsRow_lit (base:=w.heap.size+1) (e:=20) (size:=1) (w.alloc (.cells #[.string n,.string o,.string u,.int .i64 3,.int .i64 lo,.int .i64 hi,.slice wa ws.length cw,.slice ga gs.length cg] 97)) #[anyV (.inr n),anyV (.inl ws.length)] 2 (by simp) (by decide) rfl
  simpa [ag0,af8,Hid,anyV] using this
 case round=>
  obtain ⟨j,hj,rfl,hex,hown⟩:=hrel
  obtain ⟨hc,hf⟩:=hex.rules
  have hz:=hex.size
  simp only [World.size_alloc] at hz
  have hz0:w.heap.size<wr.heap.size:=by omega
  have hexw:=((Ex.refl w).alloc (o:=.cells #[.string n,.string o,.string u,.int .i64 3,.int .i64 lo,.int .i64 hi,.slice wa ws.length cw,.slice ga gs.length cg] 97)).trans hex
  obtain ⟨a4,cap4,rfl⟩:=ax5 hown.out
  by_cases hlt:j<ws.length
  ·obtain ⟨s,b,off,hs,rfl,_,c1,_⟩:=at3 hws hexw.same hlt
   have hlt2:j<gs.length:=by rw [← HE.out];exact hlt
   obtain ⟨g,b2,off2,hg,rfl,_,c2,hgi⟩:=aC0 hgs hexw.same hlt2
   have hs1:b<wr.heap.size:=World.block_lt_of_cell? _ _ c1
   have hs2:b2<wr.heap.size:=World.block_lt_of_cell? _ _ c2
   have i2:(j:Int)<gs.length:=by omega
   have Hs:=Lib.hid (aM8 n ws gs j s g hs.out hg.out)
   go_wp2_with (at_builtin;refine wpList_append_own_at _ rfl _ _ 320 rfl (w.heap.size+1) 20 i0 .nilIface 1 16 Tryz.underlying320 hiA hzA hz1 hz2 rfl (by decide) (.slice a4 (2+2*j) cap4) _ _ rfl (hown.out.alloc _) ⟨wr.heap.size,0,none⟩ 2 2 [anyV (.inr s),anyV (.inl g)] rfl rfl ?c1 ?c2 ?c3 ?c4 ?c5 ?_)
   case c1=>exact bQ9 _ _ _ _
   case c2=>exact bQ8 _ _
   case c3=>unfold maxLen;omega
   case c4=>omega
   case c5=>simp;omega
   intro v' w2 hown' hgrow _ hat
   have hex2:=Ex.appended (hex.alloc (o:=.cells #[anyV (.inr s),anyV (.inl g)] 20)) (hown.out.alloc _) (by simp) hgrow
   have HO:Hid (w2.ownsRow (w.heap.size+1) 20 1 v' (2+2*(j+1)) ((ag0 n ws gs (j+1)).map anyV)):=by
    unfold Hid
    rw [Hs.out,List.map_append]
    rw [show 2+2*(j+1)=2+2*j+2 from by omega]
    exact hown'
   clear hown' hgrow hat hown
   obtain ⟨a5,cap5,rfl⟩:=ax5 HO.out
   go_wp2
   go_roundw
   case rel=>exact ⟨j+1,by omega,by go_num,hex2,HO⟩
   case measure=>simp [intOf];omega
  ·obtain rfl:j=ws.length:=by omega
   have hpl:=aG1 n ws gs ws.length HE.out (Nat.le_refl _)
   have hpi:ag0 n ws gs ws.length=Sum.inr n :: Sum.inl (ws.length:Int) :: af8 ws gs:=by
    rw [ag0,List.take_of_length_le (Nat.le_refl _),List.take_of_length_le (by rw [HE.out];exact Nat.le_refl _)]
   have hi64:∀ m,Sum.inl m∈ag0 n ws gs ws.length→I64 m:=by
    rw [hpi];intro m hm
    simp only [List.mem_cons] at hm
    rcases hm with h|h|h
    ·cases h
    ·cases h;unfold I64;omega
    ·exact aJ9 ws gs (RInts.i64 hgs) m h
   obtain ⟨a6,cap6,hv6,hrow⟩:=aJ3 (C:=fun x=>[anyV x]) (R:=RAny) (xs:=ag0 n ws gs ws.length) hpl.symm (by rw [aP5];exact hown.out) (fun _ _=>rfl) (fun x hx=>by
    cases x with
    | inl m=>exact ⟨rfl,hi64 m hx⟩
    | inr t=>rfl)
   rw [hpl] at hv6
   cases hv6
   have hB:ac0 (ag0 n ws gs ws.length)=1+n.size+(1+intB ws.length)+ac0 (af8 ws gs):=by
    rw [hpi];simp only [ac0,List.map_cons,List.sum_cons,aq7];omega
   have hib:=ae6 (ws.length:Int)
   have HLn:=Lib.hid (aT6 ⟨#[112,105,99,107]⟩ (ag0 n ws gs ws.length) wr hrow (hp.ex hexw) (by rw [hpl];omega) (by rw [hB];have:=HBB.out;show 4+_≤_;omega))
   rw [hpl,hB] at HLn
   clear hpl hpi hi64 hrow hB hown
   go_wp2_with (go_at_call 234;refine HLn.out.mono ?_;rintro e w1 ⟨s,rfl,hs,hb1⟩)
   go_ret
   refine ⟨s,rfl,?_,hexw.trans hb1⟩
   have hs':s.size≤4+(1+n.size+(1+intB ↑ws.length)+ac0 (af8 ws gs))+1:=hs
   omega
end
section
open Go.RowKit Go.Shelf
theorem aZ0 (w:World) (l:List (Int × Int)) (B n:Nat) (hn:n≤1000000) (hB:w.cell? ⟨B,0,none⟩=some (.int .i64 n)) :
  Asks Tryz.prog 232 #[.pointer (some ⟨B,0,none⟩)] w ag2 RTwo l (bv5 n):=by
 refine ⟨enters_of Tryz.func232 (by kernel_rfl) rfl,fun m vs W hm hr hW=>?_⟩
 obtain ⟨rfl,h1,h2⟩:=hr
 have c0:=hW.cell hB
 have lB:B<W.heap.size:=World.block_lt_of_cell? _ _ c0
 obtain ⟨m1,m2⟩:=m
 simp only at h1 h2
 show Calls _ _ #[.agg #[.int .i64 m1,.int .i64 m2],.pointer (some ⟨B,0,none⟩)] _ _
 cases h:ac1 m1 0 (n - 1)
 all_goals
  go_enter Tryz.func232,Tryz.ntmps232
  go_wp2_with ((go_at_call 189;refine (ab3 _ _ _ _).mono ?_;rintro e w1 ⟨rfl,rfl⟩))
  go_ret
  exact ⟨ab0 (by simp [bv5,h]),cl0⟩
theorem bo2 (x:Lif) (w:World) {F:Nat→Prop} {sa ma:Option Addr} {sc mc:Nat} (hs:av6 w F x.states sa sc) (hm:cm2 w F x.moves ma mc) (hx:SmL x) :
  Calls Tryz.prog 193 #[.agg #[.string x.name,.slice sa x.states.length sc,.slice ma x.moves.length mc]] w fun e w'=>e = .returned (.bool (al7 x))∧Ex w w':=by
 have hn:=hx.name.le
 have hl1:=hx.nstates
 have hl2:=hx.nmoves
 have HS:=Lib.hid (fun (w':World) (he:Ex w w')=>bC0 (hs.keep (w':=w') he.same (fun _ h=>h) (fun _ _ _ h=>h)) (by omega) (aL0 w' x.states (fun s h=>(hx.states s h).le)))
 have HT:=Lib.hid (fun (w':World) B (he:Ex w w') hB=>bZ9 (hm.keep (w':=w') he.same (fun _ h=>h) (fun _ _ _ h=>h)) (by omega) (aZ0 w' x.moves B x.states.length hl1 hB))
 clear hx hs hm
 obtain ⟨name,states,moves⟩:=x
 simp only at *
 cases h1:isNm name
 ·go_enter Tryz.func193,Tryz.ntmps193;go_wp2_with (first|(go_at_call 225;refine (ab9 _ _ hn).mono ?_;rintro e w1 ⟨rfl,hb1⟩;(have hq7:=ru7;(try clear hc hf);obtain ⟨hb,hc,hf,hz⟩:=hq7;(try simp only [zsz7] at hz);(try have hz0:=z07 w w1);(try have hz1:=z17 w w1);(try have hz2:=z27 w w1)))|(go_at_call 189;refine (ab3 _ _ _ _).mono ?_;rintro e w1 ⟨rfl,rfl⟩)|(go_at_call 230;refine (HS.out _ cl0).mono ?_;rintro e w1 ⟨rfl,hb1⟩;(have hq7:=ru7;(try clear hc hf);obtain ⟨hb,hc,hf,hz⟩:=hq7;(try simp only [zsz7] at hz);(try have hz0:=z07 w w1);(try have hz1:=z17 w w1);(try have hz2:=z27 w w1)))|(go_at_call 231;refine (HT.out _ _ cl0 (by simp [*])).mono ?_;rintro e w1 ⟨rfl,hb1⟩;(have hq7:=ru7;(try clear hc hf);obtain ⟨hb,hc,hf,hz⟩:=hq7;(try simp only [zsz7] at hz);(try have hz0:=z07 w w1);(try have hz1:=z17 w w1);(try have hz2:=z27 w w1))));go_ret
  exact ⟨ab0 (by simp [al7,h1]),cl0⟩
 cases h2:ac1 states.length 1 12
 ·go_enter Tryz.func193,Tryz.ntmps193;go_wp2_with (first|(go_at_call 225;refine (ab9 _ _ hn).mono ?_;rintro e w1 ⟨rfl,hb1⟩;(have hq7:=ru7;(try clear hc hf);obtain ⟨hb,hc,hf,hz⟩:=hq7;(try simp only [zsz7] at hz);(try have hz0:=z07 w w1);(try have hz1:=z17 w w1);(try have hz2:=z27 w w1)))|(go_at_call 189;refine (ab3 _ _ _ _).mono ?_;rintro e w1 ⟨rfl,rfl⟩)|(go_at_call 230;refine (HS.out _ cl0).mono ?_;rintro e w1 ⟨rfl,hb1⟩;(have hq7:=ru7;(try clear hc hf);obtain ⟨hb,hc,hf,hz⟩:=hq7;(try simp only [zsz7] at hz);(try have hz0:=z07 w w1);(try have hz1:=z17 w w1);(try have hz2:=z27 w w1)))|(go_at_call 231;refine (HT.out _ _ cl0 (by simp [*])).mono ?_;rintro e w1 ⟨rfl,hb1⟩;(have hq7:=ru7;(try clear hc hf);obtain ⟨hb,hc,hf,hz⟩:=hq7;(try simp only [zsz7] at hz);(try have hz0:=z07 w w1);(try have hz1:=z17 w w1);(try have hz2:=z27 w w1))));go_ret
  exact ⟨ab0 (by simp [al7,h2]),cl0⟩
 cases h3:states.all isNm
 ·go_enter Tryz.func193,Tryz.ntmps193;go_wp2_with (first|(go_at_call 225;refine (ab9 _ _ hn).mono ?_;rintro e w1 ⟨rfl,hb1⟩;(have hq7:=ru7;(try clear hc hf);obtain ⟨hb,hc,hf,hz⟩:=hq7;(try simp only [zsz7] at hz);(try have hz0:=z07 w w1);(try have hz1:=z17 w w1);(try have hz2:=z27 w w1)))|(go_at_call 189;refine (ab3 _ _ _ _).mono ?_;rintro e w1 ⟨rfl,rfl⟩)|(go_at_call 230;refine (HS.out _ cl0).mono ?_;rintro e w1 ⟨rfl,hb1⟩;(have hq7:=ru7;(try clear hc hf);obtain ⟨hb,hc,hf,hz⟩:=hq7;(try simp only [zsz7] at hz);(try have hz0:=z07 w w1);(try have hz1:=z17 w w1);(try have hz2:=z27 w w1)))|(go_at_call 231;refine (HT.out _ _ cl0 (by simp [*])).mono ?_;rintro e w1 ⟨rfl,hb1⟩;(have hq7:=ru7;(try clear hc hf);obtain ⟨hb,hc,hf,hz⟩:=hq7;(try simp only [zsz7] at hz);(try have hz0:=z07 w w1);(try have hz1:=z17 w w1);(try have hz2:=z27 w w1))));go_ret
  exact ⟨ab0 (by simp [al7,h3]),cl0⟩
 by_cases h4:(moves.length:Int)≤32
 ·have HR:Hid (al7 ⟨name,states,moves⟩=moves.all (bv5 states.length)):=Lib.hid (by simp [al7,h1,h2,h3];intro;omega)
  go_enter Tryz.func193,Tryz.ntmps193;go_wp2_with (first|(go_at_call 225;refine (ab9 _ _ hn).mono ?_;rintro e w1 ⟨rfl,hb1⟩;(have hq7:=ru7;(try clear hc hf);obtain ⟨hb,hc,hf,hz⟩:=hq7;(try simp only [zsz7] at hz);(try have hz0:=z07 w w1);(try have hz1:=z17 w w1);(try have hz2:=z27 w w1)))|(go_at_call 189;refine (ab3 _ _ _ _).mono ?_;rintro e w1 ⟨rfl,rfl⟩)|(go_at_call 230;refine (HS.out _ cl0).mono ?_;rintro e w1 ⟨rfl,hb1⟩;(have hq7:=ru7;(try clear hc hf);obtain ⟨hb,hc,hf,hz⟩:=hq7;(try simp only [zsz7] at hz);(try have hz0:=z07 w w1);(try have hz1:=z17 w w1);(try have hz2:=z27 w w1)))|(go_at_call 231;refine (HT.out _ _ cl0 (by simp [*])).mono ?_;rintro e w1 ⟨rfl,hb1⟩;(have hq7:=ru7;(try clear hc hf);obtain ⟨hb,hc,hf,hz⟩:=hq7;(try simp only [zsz7] at hz);(try have hz0:=z07 w w1);(try have hz1:=z17 w w1);(try have hz2:=z27 w w1))));go_ret
  exact ⟨ab0 HR.out.symm,cl0⟩
 ·go_enter Tryz.func193,Tryz.ntmps193;go_wp2_with (first|(go_at_call 225;refine (ab9 _ _ hn).mono ?_;rintro e w1 ⟨rfl,hb1⟩;(have hq7:=ru7;(try clear hc hf);obtain ⟨hb,hc,hf,hz⟩:=hq7;(try simp only [zsz7] at hz);(try have hz0:=z07 w w1);(try have hz1:=z17 w w1);(try have hz2:=z27 w w1)))|(go_at_call 189;refine (ab3 _ _ _ _).mono ?_;rintro e w1 ⟨rfl,rfl⟩)|(go_at_call 230;refine (HS.out _ cl0).mono ?_;rintro e w1 ⟨rfl,hb1⟩;(have hq7:=ru7;(try clear hc hf);obtain ⟨hb,hc,hf,hz⟩:=hq7;(try simp only [zsz7] at hz);(try have hz0:=z07 w w1);(try have hz1:=z17 w w1);(try have hz2:=z27 w w1)))|(go_at_call 231;refine (HT.out _ _ cl0 (by simp [*])).mono ?_;rintro e w1 ⟨rfl,hb1⟩;(have hq7:=ru7;(try clear hc hf);obtain ⟨hb,hc,hf,hz⟩:=hq7;(try simp only [zsz7] at hz);(try have hz0:=z07 w w1);(try have hz1:=z17 w w1);(try have hz2:=z27 w w1))));go_ret
  exact ⟨ab0 (by simp [al7];intros;omega),cl0⟩
def at0 {α:Type} (eq:α→α→Bool):List α→List α→Bool
 | [],[]=>true
 | x :: xs,y :: ys=>eq x y && at0 eq xs ys
 | _,_=>false
theorem aL9 {α:Type} {eq:α→α→Bool}:∀ {xs ys:List α},xs.length≠ys.length→at0 eq xs ys=false
 | [],[],h=>absurd rfl h
 | [],_ :: _,_=>rfl
 | _ :: _,[],_=>rfl
 | x :: xs,y :: ys,h=>by simp only [at0,aL9 (eq:=eq) (xs:=xs) (ys:=ys) (by simpa using h),Bool.and_false]
theorem aL8 {α:Type} {eq:α→α→Bool}:∀ {xs ys:List α},xs.length=ys.length→(∀ (i:Nat) x y,xs[i]?=some x→ys[i]?=some y→eq x y=true)→at0 eq xs ys=true
 | [],[],_,_=>rfl
 | [],_ :: _,h,_=>by simp at h
 | _ :: _,[],h,_=>by simp at h
 | x :: xs,y :: ys,h,he=>by
  simp only [at0,he 0 x y rfl rfl,Bool.true_and]
  exact aL8 (by simpa using h) (fun i x' y' hx hy=>he (i+1) x' y' (by simpa using hx) (by simpa using hy))
theorem aU8 {α:Type} {eq:α→α→Bool}:∀ {xs ys:List α} {i:Nat} {x y:α},xs[i]?=some x→ys[i]?=some y→eq x y=false→at0 eq xs ys=false
 | [],_,i,x,y,hx,_,_=>by simp at hx
 | _ :: _,[],i,x,y,_,hy,_=>by simp at hy
 | a :: xs,b :: ys,0,x,y,hx,hy,he=>by simp at hx hy;subst hx hy;simp [at0,he]
 | a :: xs,b :: ys,i+1,x,y,hx,hy,he=>by
  have:=aU8 (xs:=xs) (ys:=ys) (i:=i) (by simpa using hx) (by simpa using hy) he
  simp [at0,this]
def ieq (x y:Int):Bool:=x == y
theorem bz1 {w:World} {F G:Nat→Prop} {xs ys:List Int} {a a':Option Addr} {c c':Nat} (hx:RInts w F xs a c) (hy:RInts w G ys a' c') (hl:xs.length≤140737488355328) (hl2:ys.length≤140737488355328) :
  Calls Tryz.prog 47 #[.slice a xs.length c,.slice a' ys.length c'] w fun e w'=>e = .returned (.bool (at0 ieq xs ys))∧Ex w w':=by
 by_cases hlen:(xs.length:Int)=ys.length
 ·have he:xs.length=ys.length:=by omega
  have hlen':((xs.length:Int) == (ys.length:Int))=true:=by simp;omega
  have hlen2:((xs.length:Int) != (ys.length:Int))=false:=by simp;omega
  clear hlen
  have HE:=Lib.hid he;clear he hlen'
  go_enter Tryz.func47,Tryz.ntmps47
  go_wp2
  clear hlen2
  go_loopw [13] (fun i wr=>∃ j:Nat,j≤xs.length∧i = .int .i64 j∧Hid (∀ i x y,i<j→xs[i]?=some x→ys[i]?=some y→ieq x y=true)∧Ex w wr) (fun i _=>xs.length - (intOf i).toNat)
  case atStart=>exact ⟨0,by omega,rfl,fun i x y h=>by omega,Ex.refl _⟩
  case round=>
   obtain ⟨j,hj,rfl,hno,hex⟩:=hrel
   by_cases hlt:j<xs.length
   ·obtain ⟨x,b,off,hxx,rfl,_,c0,_⟩:=aC0 hx hex.same hlt
    have hlt2:j<ys.length:=by rw [← HE.out];exact hlt
    obtain ⟨y,b2,off2,hyy,rfl,_,c1,_⟩:=aC0 hy hex.same hlt2
    have i1:(j:Int)<xs.length:=by omega
    have i2:(j:Int)<ys.length:=by omega
    cases he:ieq x y with
    | true=>
     have Hi:=Lib.hid (fun i x' y' (hi:i<j+1) (hx':xs[i]?=some x') (hy':ys[i]?=some y')=>show ieq x' y'=true from by
      rcases Nat.lt_or_ge i j with h|h
      ·exact hno.out i x' y' h hx' hy'
      ·obtain rfl:i=j:=by omega
       rw [hxx.out] at hx';rw [hyy.out] at hy';cases hx';cases hy';exact he)
     have e1:(x != y)=false:=by unfold ieq at he;simp at he;simp [he]
     clear hno he
     go_wp2
     go_quiet (fail)
     go_wp2
     go_roundw
     case rel=>exact ⟨j+1,by omega,by go_num,Hi,cl0⟩
     case measure=>simp [intOf];omega
    | false=>
     have HR:=Lib.hid (aU8 hxx.out hyy.out he)
     have e1:(x != y)=true:=by unfold ieq at he;simp at he;simp [he]
     clear hno he
     go_wp2
     go_quiet (fail)
     go_wp2
     go_ret
     exact ⟨ab0 HR.out.symm,cl0⟩
   ·have HR:=Lib.hid (aL8 HE.out (fun i x y h1 h2=>hno.out i x y (by have:=(List.getElem?_eq_some_iff.1 h1).1;omega) h1 h2))
    clear hno
    go_wp2
    go_ret
    exact ⟨ab0 HR.out.symm,cl0⟩
 ·have HR:=Lib.hid (aL9 (eq:=ieq) (xs:=xs) (ys:=ys) (by omega))
  have hlen2:((xs.length:Int) != (ys.length:Int))=true:=by simp;omega
  clear hlen
  go_enter Tryz.func47,Tryz.ntmps47
  go_wp2
  go_ret
  exact ⟨ab0 HR.out.symm,cl0⟩
theorem by9 {w:World} {F G:Nat→Prop} {xs ys:List ByteArray} {a a':Option Addr} {c c':Nat} (hx:av6 w F xs a c) (hy:av6 w G ys a' c') (hl:xs.length≤140737488355328) (hl2:ys.length≤140737488355328) :
  Calls Tryz.prog 263 #[.slice a xs.length c,.slice a' ys.length c'] w fun e w'=>e = .returned (.bool (at0 seq xs ys))∧Ex w w':=by
 by_cases hlen:(xs.length:Int)=ys.length
 ·have he:xs.length=ys.length:=by omega
  have hlen':((xs.length:Int) == (ys.length:Int))=true:=by simp;omega
  have hlen2:((xs.length:Int) != (ys.length:Int))=false:=by simp;omega
  clear hlen
  have HE:=Lib.hid he;clear he hlen'
  go_enter Tryz.func263,Tryz.ntmps263
  go_wp2
  clear hlen2
  go_loopw [13] (fun i wr=>∃ j:Nat,j≤xs.length∧i = .int .i64 j∧Hid (∀ i x y,i<j→xs[i]?=some x→ys[i]?=some y→seq x y=true)∧Ex w wr) (fun i _=>xs.length - (intOf i).toNat)
  case atStart=>exact ⟨0,by omega,rfl,fun i x y h=>by omega,Ex.refl _⟩
  case round=>
   obtain ⟨j,hj,rfl,hno,hex⟩:=hrel
   by_cases hlt:j<xs.length
   ·obtain ⟨x,b,off,hxx,rfl,_,c0,_⟩:=at3 hx hex.same hlt
    have hlt2:j<ys.length:=by rw [← HE.out];exact hlt
    obtain ⟨y,b2,off2,hyy,rfl,_,c1,_⟩:=at3 hy hex.same hlt2
    have i1:(j:Int)<xs.length:=by omega
    have i2:(j:Int)<ys.length:=by omega
    cases he:seq x y with
    | true=>
     have Hi:=Lib.hid (fun i x' y' (hi:i<j+1) (hx':xs[i]?=some x') (hy':ys[i]?=some y')=>show seq x' y'=true from by
      rcases Nat.lt_or_ge i j with h|h
      ·exact hno.out i x' y' h hx' hy'
      ·obtain rfl:i=j:=by omega
       rw [hxx.out] at hx';rw [hyy.out] at hy';cases hx';cases hy';exact he)
     have e1:(x.toList == y.toList)=true:=he
     clear hno he
     go_wp2
     go_quiet (fail)
     go_wp2
     go_roundw
     case rel=>exact ⟨j+1,by omega,by go_num,Hi,cl0⟩
     case measure=>simp [intOf];omega
    | false=>
     have HR:=Lib.hid (aU8 hxx.out hyy.out he)
     have e1:(x.toList == y.toList)=false:=he
     clear hno he
     go_wp2
     go_quiet (fail)
     go_wp2
     go_ret
     exact ⟨ab0 HR.out.symm,cl0⟩
   ·have HR:=Lib.hid (aL8 HE.out (fun i x y h1 h2=>hno.out i x y (by have:=(List.getElem?_eq_some_iff.1 h1).1;omega) h1 h2))
    clear hno
    go_wp2
    go_ret
    exact ⟨ab0 HR.out.symm,cl0⟩
 ·have HR:=Lib.hid (aL9 (eq:=seq) (xs:=xs) (ys:=ys) (by omega))
  have hlen2:((xs.length:Int) != (ys.length:Int))=true:=by simp;omega
  clear hlen
  go_enter Tryz.func263,Tryz.ntmps263
  go_wp2
  go_ret
  exact ⟨ab0 HR.out.symm,cl0⟩
end
end Go.Proofs.YtlcfiilejnnlnaaGreatDoor
