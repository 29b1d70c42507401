/- A part of the proof: Lists SrcB SrcC Own SchemaA SchemaB SrcD SchemaC. -/
import Derived.Test.YtlcfiilejnnlnaaGreatDoorK21
import Derived.Deep.RegionWith
import Derived.Deep.RegionHeld3
import Derived.Lib.ConvBytes
import Derived.Deep.QuietTactic
import Derived.BigQuiet
import Derived.RegionTactic
set_option maxRecDepth 100000
set_option maxHeartbeats 20000000
set_option linter.all false
namespace Go.Proofs.YtlcfiilejnnlnaaGreatDoor
open Tryz
section
open Go.RowKit Go.Shelf
set_option linter.unusedVariables false
structure Asks {α:Type} (P:Program) (g:FuncId) (cb:Array Value) (w:World) (arg:List Value->Value) (R:α->List Value->Prop) (xs:List α) (p:α->Bool):Prop where
 enters:∀ (args:Array Value) (w:World),(callFunc g args).run P w = .ok (.enter g args) w
 says:∀ x vs W,x∈xs->R x vs->Ex w W->Calls P g (#[arg vs]++cb) W fun e W'=>e = .returned (.bool (p x))/\Ex W W'
def ai4 (vs:List Value):Value:=.agg vs.toArray
def at9 (vs:List Value):Value:=vs.headD undef
theorem aC9 {α:Type} {xs:List α} {p:α->Bool} {j:Nat} {x:α} (hno:∀ i y,i<j->xs[i]?=some y->p y=false) (hx:xs[j]?=some x) (hp:p x=false) :
  ∀ i y,i<j+1->xs[i]?=some y->p y=false:=fun i y hi hy=>by
 rcases wU i j with h|h
 ·exact hno i y h hy
 ·obtain rfl:i=j:=by omega
  rw [hx] at hy;cases hy;exact hp
theorem an8 {α:Type} (p:α->Bool) (xs:List α):(!xs.any fun x=>!p x)=xs.all p:=by
 induction xs with
 | nil=>rfl
 | cons x xs ih=>simp only [List.any_cons,List.all_cons,← ih];cases p x<;>simp
theorem aD0 {α:Type} {xs:List α} {p:α->Bool} {j:Nat} (hno:∀ i y,i<j->xs[i]?=some y->p y=false) (hj:xs.length<=j):idx p xs = -1:=
 ai8 (fun i y hy=>hno i y (by have:=(zE.1 hy).1;omega) hy)
theorem Asks.mono {α:Type} {P:Program} {g:FuncId} {cb:Array Value} {w w':World} {arg:List Value->Value} {R:α->List Value->Prop} {xs:List α} {p:α->Bool} (h:Asks P g cb w arg R xs p) (hx:Ex w w'):Asks P g cb w' arg R xs p:=
 ⟨h.enters,fun x vs W hm hr hw=>h.says x vs W hm hr (hx.trans hw)⟩
theorem bf0 {w w' w0:World} {F F0:Nat->Prop} {xs:List Knd} {a:Option Addr} {cap:Nat} (h:Row 4 (RKnd w0 F0) w F xs a cap) (hex:Same F w w') {i:Nat} (hi:i<xs.length) :
  ∃ x b off fa fc,Hid (xs[i]?=some x)/\a=some ⟨b,off,none⟩/\F b/\w'.cell? ⟨b,off+i*4,none⟩=some (.string x.name)/\w'.cell? ⟨b,off+i*4+1,none⟩=some (.int .i64 x.lo)/\w'.cell? ⟨b,off+i*4+2,none⟩=some (.int .i64 x.hi)/\w'.cell? ⟨b,off+i*4+3,none⟩=some (.slice fa x.fields.length fc)/\Hid ((RKnd w0 F0) x [.string x.name,.int .i64 x.lo,.int .i64 x.hi,.slice fa x.fields.length fc]):=by
 obtain⟨b,off,ha,hb,vs,hl,hr,hc⟩:=h.at_ i xs[i] (zD hi);have hr':=hr;obtain⟨fa,fc,rfl,_⟩:=hr;exact⟨xs[i],b,off,fa,fc,Lib.hid (zD hi),ha,hb,hex.cell (hc 0 _ rfl) hb,hex.cell (hc 1 _ rfl) hb,hex.cell (hc 2 _ rfl) hb,hex.cell (hc 3 _ rfl) hb,hr'⟩
theorem ce8 {w w0:World} {F F0:Nat->Prop} {xs:List Knd} {a:Option Addr} {cap:Nat} (h:Row 4 (RKnd w0 F0) w F xs a cap) (hl:xs.length<=140737488355328) {g:FuncId} {cb:Array Value} {p:Knd->Bool}
  (hg:Asks prog g cb w ai4 (RKnd w0 F0) xs p) :
  Calls prog 108 #[.slice a xs.length cap,.func (.func g) #[] cb] w fun e w'=>e = .returned (.int .i64 (idx p xs))/\Ex w w':=by
 have eg:=hg.enters
 go_enter func108,ntmps108
 go_wp2
 go_loopw [8] (fun i wr=>∃ j:Nat,j<=xs.length/\i = .int .i64 j/\Hid (∀ i y,i<j->xs[i]?=some y->p y=false)/\Ex w wr) (fun i _=>xs.length-(intOf i).toNat)
 case atStart=>exact⟨0,by omega,rfl,fun i y h=>by omega,Ex.refl _⟩
 case round=>
  obtain⟨j,hj,rfl,hno,hex⟩:=hrel;by_cases hlt:j<xs.length
  ·obtain⟨x,b,off,fa,fc,hx,rfl,_,c0,c1,c2,c3,hr⟩:=bf0 h hex.same hlt;have hcall:=hg.says x _ wr (zG hx.out) hr.out hex;simp only [ai4,at9,List.headD] at hcall
   cases hp:p x with
   | true=>
    have hi:=ad3 hx.out hp hno.out;rw [hp] at hcall;have Hi:=Lib.hid hi;clear hi hp
    go_wp2_with (go_at_fn g;refine hcall.mono ?_;rintro e w' ⟨rfl,hb'⟩)
    go_ret
    exact⟨by rw [Hi.out];rfl,hex.trans hb'⟩
   | false=>
    have hi:=aC9 hno.out hx.out hp;rw [hp] at hcall;have Hi:=Lib.hid hi;clear hi hp hno
    go_wp2_with (go_at_fn g;refine hcall.mono ?_;rintro e w' ⟨rfl,hb'⟩)
    go_roundw
    case rel=>exact⟨j+1,by omega,by go_num,Hi,hex.trans hb'⟩
    case measure=>simp [intOf];omega
  ·have hi:idx p xs = -1:=aD0 hno.out (by omega);have Hi:=Lib.hid hi;clear hi hno
   go_wp2_with fail
   go_ret
   exact⟨by rw [Hi.out];rfl,hex⟩
theorem bg7 {w w0:World} {F F0:Nat->Prop} {xs:List Knd} {a:Option Addr} {cap:Nat} (h:Row 4 (RKnd w0 F0) w F xs a cap) (hl:xs.length<=140737488355328) {g:FuncId} {cb:Array Value} {p:Knd->Bool}
  (hg:Asks prog g cb w ai4 (RKnd w0 F0) xs p) :
  Calls prog 223 #[.slice a xs.length cap,.func (.func g) #[] cb] w fun e w'=>e = .returned (.bool (xs.any p))/\Ex w w':=by
 have hc:=ce8 h hl hg;have Ha:=Lib.hid (al6 p xs)
 go_enter func223,ntmps223
 go_wp2_with (go_at_call 108;refine hc.mono ?_;rintro e w' ⟨rfl,hb'⟩)
 go_ret
 exact⟨by rw [← Ha.out];rfl,hb'⟩
theorem bT1 {w w0:World} {F0:Nat->Prop} {xs:List Knd} {g:FuncId} {cb:Array Value} {p:Knd->Bool} {B:Nat} (hB:w.cell? ⟨B,0,none⟩=some (.func (.func g) #[] cb))
  (hg:Asks prog g cb w ai4 (RKnd w0 F0) xs p):Asks prog 224 #[.pointer (some ⟨B,0,none⟩)] w ai4 (RKnd w0 F0) xs (fun x=>!p x):=by
 refine⟨enters_of func224 (by kernel_rfl) rfl,fun x vs W hm hr hW=>?_⟩;have eg:=hg.enters;have c0:=hW.cell hB;have lB:B<W.heap.size:=World.block_lt_of_cell? _ _ c0;have hr':=hr;obtain⟨fa,fc,rfl,_⟩:=hr;have hcall:=fun W' (hx:Ex W W')=>hg.says x _ W' hm hr' (hW.trans hx);simp only [ai4,at9,List.headD,Array.append_empty] at hcall ⊢;have Hc:=Lib.hid hcall;clear hcall
 show Calls _ _ #[_,_] _ _
 go_enter func224,ntmps224
 go_wp2_with (go_at_fn g;refine (Hc.out _ (by first|exact Ex.refl _|exact (Ex.refl _).alloc)).mono ?_;rintro e w' ⟨rfl,hb'⟩)
 go_ret
 exact⟨rfl,by first|exact hb' | exact (Ex.refl _).alloc.trans hb'⟩
theorem ci3 {w w0:World} {F F0:Nat->Prop} {xs:List Knd} {a:Option Addr} {cap:Nat} (h:Row 4 (RKnd w0 F0) w F xs a cap) (hl:xs.length<=140737488355328) {g:FuncId} {cb:Array Value} {p:Knd->Bool}
  (hg:Asks prog g cb w ai4 (RKnd w0 F0) xs p) :
  Calls prog 190 #[.slice a xs.length cap,.func (.func g) #[] cb] w fun e w'=>e = .returned (.bool (xs.all p))/\Ex w w':=by
 have hcall:=fun B (hB:(w.alloc (.cells #[.func (.func g) #[] cb] 204)).cell? ⟨B,0,none⟩=some (.func (.func g) #[] cb))=>bg7 (h.keep (w':=w.alloc (.cells #[.func (.func g) #[] cb] 204)) (Ex.refl w).alloc.same (fun _ h=>h) (fun _ _ _ h=>h)) hl (bT1 hB (hg.mono (Ex.refl w).alloc));have Hc:=Lib.hid hcall;clear hcall;have Ha:Hid ((!xs.any fun x=>!p x)=xs.all p):=Lib.hid (an8 p xs)
 go_enter func190,ntmps190
 go_wp2_with (go_at_call 223;refine (Hc.out _ (by simp)).mono ?_;rintro e w' ⟨rfl,hb'⟩)
 go_ret
 exact⟨by rw [← Ha.out];rfl,(Ex.refl _).alloc.trans hb'⟩
theorem be7 {w w' w0:World} {F F0:Nat->Prop} {xs:List Lif} {a:Option Addr} {cap:Nat} (h:Row 3 (RLif w0 F0) w F xs a cap) (hex:Same F w w') {i:Nat} (hi:i<xs.length) :
  ∃ x b off sa sc ma mc,Hid (xs[i]?=some x)/\a=some ⟨b,off,none⟩/\F b/\w'.cell? ⟨b,off+i*3,none⟩=some (.string x.name)/\w'.cell? ⟨b,off+i*3+1,none⟩=some (.slice sa x.tz.length sc)/\w'.cell? ⟨b,off+i*3+2,none⟩=some (.slice ma x.mz.length mc)/\Hid ((RLif w0 F0) x [.string x.name,.slice sa x.tz.length sc,.slice ma x.mz.length mc]):=by
 obtain⟨b,off,ha,hb,vs,hl,hr,hc⟩:=h.at_ i xs[i] (zD hi);have hr':=hr;obtain⟨sa,sc,ma,mc,rfl,_⟩:=hr;exact⟨xs[i],b,off,sa,sc,ma,mc,Lib.hid (zD hi),ha,hb,hex.cell (hc 0 _ rfl) hb,hex.cell (hc 1 _ rfl) hb,hex.cell (hc 2 _ rfl) hb,hr'⟩
theorem ce7 {w w0:World} {F F0:Nat->Prop} {xs:List Lif} {a:Option Addr} {cap:Nat} (h:Row 3 (RLif w0 F0) w F xs a cap) (hl:xs.length<=140737488355328) {g:FuncId} {cb:Array Value} {p:Lif->Bool}
  (hg:Asks prog g cb w ai4 (RLif w0 F0) xs p) :
  Calls prog 197 #[.slice a xs.length cap,.func (.func g) #[] cb] w fun e w'=>e = .returned (.int .i64 (idx p xs))/\Ex w w':=by
 have eg:=hg.enters
 go_enter func197,ntmps197
 go_wp2
 go_loopw [8] (fun i wr=>∃ j:Nat,j<=xs.length/\i = .int .i64 j/\Hid (∀ i y,i<j->xs[i]?=some y->p y=false)/\Ex w wr) (fun i _=>xs.length-(intOf i).toNat)
 case atStart=>exact⟨0,by omega,rfl,fun i y h=>by omega,Ex.refl _⟩
 case round=>
  obtain⟨j,hj,rfl,hno,hex⟩:=hrel;by_cases hlt:j<xs.length
  ·obtain⟨x,b,off,sa,sc,ma,mc,hx,rfl,_,c0,c1,c2,hr⟩:=be7 h hex.same hlt;have hcall:=hg.says x _ wr (zG hx.out) hr.out hex;simp only [ai4,at9,List.headD] at hcall
   cases hp:p x with
   | true=>
    have hi:=ad3 hx.out hp hno.out;rw [hp] at hcall;have Hi:=Lib.hid hi;clear hi hp
    go_wp2_with (go_at_fn g;refine hcall.mono ?_;rintro e w' ⟨rfl,hb'⟩)
    go_ret
    exact⟨by rw [Hi.out];rfl,hex.trans hb'⟩
   | false=>
    have hi:=aC9 hno.out hx.out hp;rw [hp] at hcall;have Hi:=Lib.hid hi;clear hi hp hno
    go_wp2_with (go_at_fn g;refine hcall.mono ?_;rintro e w' ⟨rfl,hb'⟩)
    go_roundw
    case rel=>exact⟨j+1,by omega,by go_num,Hi,hex.trans hb'⟩
    case measure=>simp [intOf];omega
  ·have hi:idx p xs = -1:=aD0 hno.out (by omega);have Hi:=Lib.hid hi;clear hi hno
   go_wp2_with fail
   go_ret
   exact⟨by rw [Hi.out];rfl,hex⟩
theorem bg6 {w w0:World} {F F0:Nat->Prop} {xs:List Lif} {a:Option Addr} {cap:Nat} (h:Row 3 (RLif w0 F0) w F xs a cap) (hl:xs.length<=140737488355328) {g:FuncId} {cb:Array Value} {p:Lif->Bool}
  (hg:Asks prog g cb w ai4 (RLif w0 F0) xs p) :
  Calls prog 145 #[.slice a xs.length cap,.func (.func g) #[] cb] w fun e w'=>e = .returned (.bool (xs.any p))/\Ex w w':=by
 have hc:=ce7 h hl hg;have Ha:=Lib.hid (al6 p xs)
 go_enter func145,ntmps145
 go_wp2_with (go_at_call 197;refine hc.mono ?_;rintro e w' ⟨rfl,hb'⟩)
 go_ret
 exact⟨by rw [← Ha.out];rfl,hb'⟩
theorem bT0 {w w0:World} {F0:Nat->Prop} {xs:List Lif} {g:FuncId} {cb:Array Value} {p:Lif->Bool} {B:Nat} (hB:w.cell? ⟨B,0,none⟩=some (.func (.func g) #[] cb))
  (hg:Asks prog g cb w ai4 (RLif w0 F0) xs p):Asks prog 229 #[.pointer (some ⟨B,0,none⟩)] w ai4 (RLif w0 F0) xs (fun x=>!p x):=by
 refine⟨enters_of func229 (by kernel_rfl) rfl,fun x vs W hm hr hW=>?_⟩;have eg:=hg.enters;have c0:=hW.cell hB;have lB:B<W.heap.size:=World.block_lt_of_cell? _ _ c0;have hr':=hr;obtain⟨sa,sc,ma,mc,rfl,_⟩:=hr;have hcall:=fun W' (hx:Ex W W')=>hg.says x _ W' hm hr' (hW.trans hx);simp only [ai4,at9,List.headD,Array.append_empty] at hcall ⊢;have Hc:=Lib.hid hcall;clear hcall
 show Calls _ _ #[_,_] _ _
 go_enter func229,ntmps229
 go_wp2_with (go_at_fn g;refine (Hc.out _ (by first|exact Ex.refl _|exact (Ex.refl _).alloc)).mono ?_;rintro e w' ⟨rfl,hb'⟩)
 go_ret
 exact⟨rfl,by first|exact hb' | exact (Ex.refl _).alloc.trans hb'⟩
theorem ci2 {w w0:World} {F F0:Nat->Prop} {xs:List Lif} {a:Option Addr} {cap:Nat} (h:Row 3 (RLif w0 F0) w F xs a cap) (hl:xs.length<=140737488355328) {g:FuncId} {cb:Array Value} {p:Lif->Bool}
  (hg:Asks prog g cb w ai4 (RLif w0 F0) xs p) :
  Calls prog 192 #[.slice a xs.length cap,.func (.func g) #[] cb] w fun e w'=>e = .returned (.bool (xs.all p))/\Ex w w':=by
 have hcall:=fun B (hB:(w.alloc (.cells #[.func (.func g) #[] cb] 239)).cell? ⟨B,0,none⟩=some (.func (.func g) #[] cb))=>bg6 (h.keep (w':=w.alloc (.cells #[.func (.func g) #[] cb] 239)) (Ex.refl w).alloc.same (fun _ h=>h) (fun _ _ _ h=>h)) hl (bT0 hB (hg.mono (Ex.refl w).alloc));have Hc:=Lib.hid hcall;clear hcall;have Ha:Hid ((!xs.any fun x=>!p x)=xs.all p):=Lib.hid (an8 p xs)
 go_enter func192,ntmps192
 go_wp2_with (go_at_call 145;refine (Hc.out _ (by simp)).mono ?_;rintro e w' ⟨rfl,hb'⟩)
 go_ret
 exact⟨by rw [← Ha.out];rfl,(Ex.refl _).alloc.trans hb'⟩
theorem bc6 {w w':World} {F:Nat->Prop} {xs:List Rul} {a:Option Addr} {cap:Nat} (h:Row 5 RRul w F xs a cap) (hex:Same F w w') {i:Nat} (hi:i<xs.length) :
  ∃ x b off,Hid (xs[i]?=some x)/\a=some ⟨b,off,none⟩/\F b/\w'.cell? ⟨b,off+i*5,none⟩=some (.string x.name)/\w'.cell? ⟨b,off+i*5+1,none⟩=some (.string x.kind)/\w'.cell? ⟨b,off+i*5+2,none⟩=some (.string x.a)/\w'.cell? ⟨b,off+i*5+3,none⟩=some (.string x.b)/\w'.cell? ⟨b,off+i*5+4,none⟩=some (.int .i64 x.n)/\Hid (RRul x [.string x.name,.string x.kind,.string x.a,.string x.b,.int .i64 x.n]):=by
 obtain⟨b,off,ha,hb,vs,hl,hr,hc⟩:=h.at_ i xs[i] (zD hi);have hr':=hr;obtain⟨rfl,_⟩:=hr;exact⟨xs[i],b,off,Lib.hid (zD hi),ha,hb,hex.cell (hc 0 _ rfl) hb,hex.cell (hc 1 _ rfl) hb,hex.cell (hc 2 _ rfl) hb,hex.cell (hc 3 _ rfl) hb,hex.cell (hc 4 _ rfl) hb,hr'⟩
theorem ce6 {w:World} {F:Nat->Prop} {xs:List Rul} {a:Option Addr} {cap:Nat} (h:Row 5 RRul w F xs a cap) (hl:xs.length<=140737488355328) {g:FuncId} {cb:Array Value} {p:Rul->Bool}
  (hg:Asks prog g cb w ai4 RRul xs p) :
  Calls prog 237 #[.slice a xs.length cap,.func (.func g) #[] cb] w fun e w'=>e = .returned (.int .i64 (idx p xs))/\Ex w w':=by
 have eg:=hg.enters
 go_enter func237,ntmps237
 go_wp2
 go_loopw [8] (fun i wr=>∃ j:Nat,j<=xs.length/\i = .int .i64 j/\Hid (∀ i y,i<j->xs[i]?=some y->p y=false)/\Ex w wr) (fun i _=>xs.length-(intOf i).toNat)
 case atStart=>exact⟨0,by omega,rfl,fun i y h=>by omega,Ex.refl _⟩
 case round=>
  obtain⟨j,hj,rfl,hno,hex⟩:=hrel;by_cases hlt:j<xs.length
  ·obtain⟨x,b,off,hx,rfl,_,c0,c1,c2,c3,c4,hr⟩:=bc6 h hex.same hlt;have hcall:=hg.says x _ wr (zG hx.out) hr.out hex;simp only [ai4,at9,List.headD] at hcall
   cases hp:p x with
   | true=>
    have hi:=ad3 hx.out hp hno.out;rw [hp] at hcall;have Hi:=Lib.hid hi;clear hi hp
    go_wp2_with (go_at_fn g;refine hcall.mono ?_;rintro e w' ⟨rfl,hb'⟩)
    go_ret
    exact⟨by rw [Hi.out];rfl,hex.trans hb'⟩
   | false=>
    have hi:=aC9 hno.out hx.out hp;rw [hp] at hcall;have Hi:=Lib.hid hi;clear hi hp hno
    go_wp2_with (go_at_fn g;refine hcall.mono ?_;rintro e w' ⟨rfl,hb'⟩)
    go_roundw
    case rel=>exact⟨j+1,by omega,by go_num,Hi,hex.trans hb'⟩
    case measure=>simp [intOf];omega
  ·have hi:idx p xs = -1:=aD0 hno.out (by omega);have Hi:=Lib.hid hi;clear hi hno
   go_wp2_with fail
   go_ret
   exact⟨by rw [Hi.out];rfl,hex⟩
theorem bg5 {w:World} {F:Nat->Prop} {xs:List Rul} {a:Option Addr} {cap:Nat} (h:Row 5 RRul w F xs a cap) (hl:xs.length<=140737488355328) {g:FuncId} {cb:Array Value} {p:Rul->Bool}
  (hg:Asks prog g cb w ai4 RRul xs p) :
  Calls prog 198 #[.slice a xs.length cap,.func (.func g) #[] cb] w fun e w'=>e = .returned (.bool (xs.any p))/\Ex w w':=by
 have hc:=ce6 h hl hg;have Ha:=Lib.hid (al6 p xs)
 go_enter func198,ntmps198
 go_wp2_with (go_at_call 237;refine hc.mono ?_;rintro e w' ⟨rfl,hb'⟩)
 go_ret
 exact⟨by rw [← Ha.out];rfl,hb'⟩
theorem bS9 {w:World} {xs:List Rul} {g:FuncId} {cb:Array Value} {p:Rul->Bool} {B:Nat} (hB:w.cell? ⟨B,0,none⟩=some (.func (.func g) #[] cb))
  (hg:Asks prog g cb w ai4 RRul xs p):Asks prog 233 #[.pointer (some ⟨B,0,none⟩)] w ai4 RRul xs (fun x=>!p x):=by
 refine⟨enters_of func233 (by kernel_rfl) rfl,fun x vs W hm hr hW=>?_⟩;have eg:=hg.enters;have c0:=hW.cell hB;have lB:B<W.heap.size:=World.block_lt_of_cell? _ _ c0;have hr':=hr;obtain⟨rfl,_⟩:=hr;have hcall:=fun W' (hx:Ex W W')=>hg.says x _ W' hm hr' (hW.trans hx);simp only [ai4,at9,List.headD,Array.append_empty] at hcall ⊢;have Hc:=Lib.hid hcall;clear hcall
 show Calls _ _ #[_,_] _ _
 go_enter func233,ntmps233
 go_wp2_with (go_at_fn g;refine (Hc.out _ (by first|exact Ex.refl _|exact (Ex.refl _).alloc)).mono ?_;rintro e w' ⟨rfl,hb'⟩)
 go_ret
 exact⟨rfl,by first|exact hb' | exact (Ex.refl _).alloc.trans hb'⟩
theorem ci1 {w:World} {F:Nat->Prop} {xs:List Rul} {a:Option Addr} {cap:Nat} (h:Row 5 RRul w F xs a cap) (hl:xs.length<=140737488355328) {g:FuncId} {cb:Array Value} {p:Rul->Bool}
  (hg:Asks prog g cb w ai4 RRul xs p) :
  Calls prog 194 #[.slice a xs.length cap,.func (.func g) #[] cb] w fun e w'=>e = .returned (.bool (xs.all p))/\Ex w w':=by
 have hcall:=fun B (hB:(w.alloc (.cells #[.func (.func g) #[] cb] 284)).cell? ⟨B,0,none⟩=some (.func (.func g) #[] cb))=>bg5 (h.keep (w':=w.alloc (.cells #[.func (.func g) #[] cb] 284)) (Ex.refl w).alloc.same (fun _ h=>h) (fun _ _ _ h=>h)) hl (bS9 hB (hg.mono (Ex.refl w).alloc));have Hc:=Lib.hid hcall;clear hcall;have Ha:Hid ((!xs.any fun x=>!p x)=xs.all p):=Lib.hid (an8 p xs)
 go_enter func194,ntmps194
 go_wp2_with (go_at_call 198;refine (Hc.out _ (by simp)).mono ?_;rintro e w' ⟨rfl,hb'⟩)
 go_ret
 exact⟨by rw [← Ha.out];rfl,(Ex.refl _).alloc.trans hb'⟩
theorem bf8 {w w' w0:World} {F F0:Nat->Prop} {xs:List Fld} {a:Option Addr} {cap:Nat} (h:Row 8 (RFld w0 F0) w F xs a cap) (hex:Same F w w') {i:Nat} (hi:i<xs.length) :
  ∃ x b off wa wc ga gc,Hid (xs[i]?=some x)/\a=some ⟨b,off,none⟩/\F b/\w'.cell? ⟨b,off+i*8,none⟩=some (.string x.name)/\w'.cell? ⟨b,off+i*8+1,none⟩=some (.string x.of)/\w'.cell? ⟨b,off+i*8+2,none⟩=some (.string x.up)/\w'.cell? ⟨b,off+i*8+3,none⟩=some (.int .i64 x.kind)/\w'.cell? ⟨b,off+i*8+4,none⟩=some (.int .i64 x.lo)/\w'.cell? ⟨b,off+i*8+5,none⟩=some (.int .i64 x.hi)/\w'.cell? ⟨b,off+i*8+6,none⟩=some (.slice wa x.words.length wc)/\w'.cell? ⟨b,off+i*8+7,none⟩=some (.slice ga x.wz.length gc)/\Hid ((RFld w0 F0) x [.string x.name,.string x.of,.string x.up,.int .i64 x.kind,.int .i64 x.lo,.int .i64 x.hi,.slice wa x.words.length wc,.slice ga x.wz.length gc]):=by
 obtain⟨b,off,ha,hb,vs,hl,hr,hc⟩:=h.at_ i xs[i] (zD hi);have hr':=hr;obtain⟨wa,wc,ga,gc,rfl,_⟩:=hr;exact⟨xs[i],b,off,wa,wc,ga,gc,Lib.hid (zD hi),ha,hb,hex.cell (hc 0 _ rfl) hb,hex.cell (hc 1 _ rfl) hb,hex.cell (hc 2 _ rfl) hb,hex.cell (hc 3 _ rfl) hb,hex.cell (hc 4 _ rfl) hb,hex.cell (hc 5 _ rfl) hb,hex.cell (hc 6 _ rfl) hb,hex.cell (hc 7 _ rfl) hb,hr'⟩
theorem ce9 {w w0:World} {F F0:Nat->Prop} {xs:List Fld} {a:Option Addr} {cap:Nat} (h:Row 8 (RFld w0 F0) w F xs a cap) (hl:xs.length<=140737488355328) {g:FuncId} {cb:Array Value} {p:Fld->Bool}
  (hg:Asks prog g cb w ai4 (RFld w0 F0) xs p) :
  Calls prog 165 #[.slice a xs.length cap,.func (.func g) #[] cb] w fun e w'=>e = .returned (.int .i64 (idx p xs))/\Ex w w':=by
 have eg:=hg.enters
 go_enter func165,ntmps165
 go_wp2
 go_loopw [8] (fun i wr=>∃ j:Nat,j<=xs.length/\i = .int .i64 j/\Hid (∀ i y,i<j->xs[i]?=some y->p y=false)/\Ex w wr) (fun i _=>xs.length-(intOf i).toNat)
 case atStart=>exact⟨0,by omega,rfl,fun i y h=>by omega,Ex.refl _⟩
 case round=>
  obtain⟨j,hj,rfl,hno,hex⟩:=hrel;by_cases hlt:j<xs.length
  ·obtain⟨x,b,off,wa,wc,ga,gc,hx,rfl,_,c0,c1,c2,c3,c4,c5,c6,c7,hr⟩:=bf8 h hex.same hlt;have hcall:=hg.says x _ wr (zG hx.out) hr.out hex;simp only [ai4,at9,List.headD] at hcall
   cases hp:p x with
   | true=>
    have hi:=ad3 hx.out hp hno.out;rw [hp] at hcall;have Hi:=Lib.hid hi;clear hi hp
    go_wp2_with (go_at_fn g;refine hcall.mono ?_;rintro e w' ⟨rfl,hb'⟩)
    go_ret
    exact⟨by rw [Hi.out];rfl,hex.trans hb'⟩
   | false=>
    have hi:=aC9 hno.out hx.out hp;rw [hp] at hcall;have Hi:=Lib.hid hi;clear hi hp hno
    go_wp2_with (go_at_fn g;refine hcall.mono ?_;rintro e w' ⟨rfl,hb'⟩)
    go_roundw
    case rel=>exact⟨j+1,by omega,by go_num,Hi,hex.trans hb'⟩
    case measure=>simp [intOf];omega
  ·have hi:idx p xs = -1:=aD0 hno.out (by omega);have Hi:=Lib.hid hi;clear hi hno
   go_wp2_with fail
   go_ret
   exact⟨by rw [Hi.out];rfl,hex⟩
theorem bg8 {w w0:World} {F F0:Nat->Prop} {xs:List Fld} {a:Option Addr} {cap:Nat} (h:Row 8 (RFld w0 F0) w F xs a cap) (hl:xs.length<=140737488355328) {g:FuncId} {cb:Array Value} {p:Fld->Bool}
  (hg:Asks prog g cb w ai4 (RFld w0 F0) xs p) :
  Calls prog 252 #[.slice a xs.length cap,.func (.func g) #[] cb] w fun e w'=>e = .returned (.bool (xs.any p))/\Ex w w':=by
 have hc:=ce9 h hl hg;have Ha:=Lib.hid (al6 p xs)
 go_enter func252,ntmps252
 go_wp2_with (go_at_call 165;refine hc.mono ?_;rintro e w' ⟨rfl,hb'⟩)
 go_ret
 exact⟨by rw [← Ha.out];rfl,hb'⟩
theorem bT2 {w w0:World} {F0:Nat->Prop} {xs:List Fld} {g:FuncId} {cb:Array Value} {p:Fld->Bool} {B:Nat} (hB:w.cell? ⟨B,0,none⟩=some (.func (.func g) #[] cb))
  (hg:Asks prog g cb w ai4 (RFld w0 F0) xs p):Asks prog 253 #[.pointer (some ⟨B,0,none⟩)] w ai4 (RFld w0 F0) xs (fun x=>!p x):=by
 refine⟨enters_of func253 (by kernel_rfl) rfl,fun x vs W hm hr hW=>?_⟩;have eg:=hg.enters;have c0:=hW.cell hB;have lB:B<W.heap.size:=World.block_lt_of_cell? _ _ c0;have hr':=hr;obtain⟨wa,wc,ga,gc,rfl,_⟩:=hr;have hcall:=fun W' (hx:Ex W W')=>hg.says x _ W' hm hr' (hW.trans hx);simp only [ai4,at9,List.headD,Array.append_empty] at hcall ⊢;have Hc:=Lib.hid hcall;clear hcall
 show Calls _ _ #[_,_] _ _
 go_enter func253,ntmps253
 go_wp2_with (go_at_fn g;refine (Hc.out _ (by first|exact Ex.refl _|exact (Ex.refl _).alloc)).mono ?_;rintro e w' ⟨rfl,hb'⟩)
 go_ret
 exact⟨rfl,by first|exact hb' | exact (Ex.refl _).alloc.trans hb'⟩
theorem ci4 {w w0:World} {F F0:Nat->Prop} {xs:List Fld} {a:Option Addr} {cap:Nat} (h:Row 8 (RFld w0 F0) w F xs a cap) (hl:xs.length<=140737488355328) {g:FuncId} {cb:Array Value} {p:Fld->Bool}
  (hg:Asks prog g cb w ai4 (RFld w0 F0) xs p) :
  Calls prog 227 #[.slice a xs.length cap,.func (.func g) #[] cb] w fun e w'=>e = .returned (.bool (xs.all p))/\Ex w w':=by
 have hcall:=fun B (hB:(w.alloc (.cells #[.func (.func g) #[] cb] 274)).cell? ⟨B,0,none⟩=some (.func (.func g) #[] cb))=>bg8 (h.keep (w':=w.alloc (.cells #[.func (.func g) #[] cb] 274)) (Ex.refl w).alloc.same (fun _ h=>h) (fun _ _ _ h=>h)) hl (bT2 hB (hg.mono (Ex.refl w).alloc));have Hc:=Lib.hid hcall;clear hcall;have Ha:Hid ((!xs.any fun x=>!p x)=xs.all p):=Lib.hid (an8 p xs)
 go_enter func227,ntmps227
 go_wp2_with (go_at_call 252;refine (Hc.out _ (by simp)).mono ?_;rintro e w' ⟨rfl,hb'⟩)
 go_ret
 exact⟨by rw [← Ha.out];rfl,(Ex.refl _).alloc.trans hb'⟩
theorem av6 {w w':World} {F:Nat->Prop} {xs:List ByteArray} {a:Option Addr} {cap:Nat} (h:Row 1 RStr w F xs a cap) (hex:Same F w w') {i:Nat} (hi:i<xs.length) :
  ∃ x b off,Hid (xs[i]?=some x)/\a=some ⟨b,off,none⟩/\F b/\w'.cell? ⟨b,off+i,none⟩=some (.string x)/\Hid (RStr x [.string x]):=by
 obtain⟨b,off,ha,hb,vs,hl,hr,hc⟩:=h.at_ i xs[i] (zD hi);have hr':=hr;obtain rfl:=hr;exact⟨xs[i],b,off,Lib.hid (zD hi),ha,hb,hex.cell (p:=⟨b,off+i,none⟩) (by have:=hc 0 _ rfl;simpa using this) hb,hr'⟩
theorem ce5 {w:World} {F:Nat->Prop} {xs:List ByteArray} {a:Option Addr} {cap:Nat} (h:Row 1 RStr w F xs a cap) (hl:xs.length<=140737488355328) {g:FuncId} {cb:Array Value} {p:ByteArray->Bool}
  (hg:Asks prog g cb w at9 RStr xs p) :
  Calls prog 238 #[.slice a xs.length cap,.func (.func g) #[] cb] w fun e w'=>e = .returned (.int .i64 (idx p xs))/\Ex w w':=by
 have eg:=hg.enters
 go_enter func238,ntmps238
 go_wp2
 go_loopw [8] (fun i wr=>∃ j:Nat,j<=xs.length/\i = .int .i64 j/\Hid (∀ i y,i<j->xs[i]?=some y->p y=false)/\Ex w wr) (fun i _=>xs.length-(intOf i).toNat)
 case atStart=>exact⟨0,by omega,rfl,fun i y h=>by omega,Ex.refl _⟩
 case round=>
  obtain⟨j,hj,rfl,hno,hex⟩:=hrel;by_cases hlt:j<xs.length
  ·obtain⟨x,b,off,hx,rfl,_,c0,hr⟩:=av6 h hex.same hlt;have hcall:=hg.says x _ wr (zG hx.out) hr.out hex;simp only [ai4,at9,List.headD] at hcall
   cases hp:p x with
   | true=>
    have hi:=ad3 hx.out hp hno.out;rw [hp] at hcall;have Hi:=Lib.hid hi;clear hi hp
    go_wp2_with (go_at_fn g;refine hcall.mono ?_;rintro e w' ⟨rfl,hb'⟩)
    go_ret
    exact⟨by rw [Hi.out];rfl,hex.trans hb'⟩
   | false=>
    have hi:=aC9 hno.out hx.out hp;rw [hp] at hcall;have Hi:=Lib.hid hi;clear hi hp hno
    go_wp2_with (go_at_fn g;refine hcall.mono ?_;rintro e w' ⟨rfl,hb'⟩)
    go_roundw
    case rel=>exact⟨j+1,by omega,by go_num,Hi,hex.trans hb'⟩
    case measure=>simp [intOf];omega
  ·have hi:idx p xs = -1:=aD0 hno.out (by omega);have Hi:=Lib.hid hi;clear hi hno
   go_wp2_with fail
   go_ret
   exact⟨by rw [Hi.out];rfl,hex⟩
theorem bg4 {w:World} {F:Nat->Prop} {xs:List ByteArray} {a:Option Addr} {cap:Nat} (h:Row 1 RStr w F xs a cap) (hl:xs.length<=140737488355328) {g:FuncId} {cb:Array Value} {p:ByteArray->Bool}
  (hg:Asks prog g cb w at9 RStr xs p) :
  Calls prog 200 #[.slice a xs.length cap,.func (.func g) #[] cb] w fun e w'=>e = .returned (.bool (xs.any p))/\Ex w w':=by
 have hc:=ce5 h hl hg;have Ha:=Lib.hid (al6 p xs)
 go_enter func200,ntmps200
 go_wp2_with (go_at_call 238;refine hc.mono ?_;rintro e w' ⟨rfl,hb'⟩)
 go_ret
 exact⟨by rw [← Ha.out];rfl,hb'⟩
theorem bS8 {w:World} {xs:List ByteArray} {g:FuncId} {cb:Array Value} {p:ByteArray->Bool} {B:Nat} (hB:w.cell? ⟨B,0,none⟩=some (.func (.func g) #[] cb))
  (hg:Asks prog g cb w at9 RStr xs p):Asks prog 257 #[.pointer (some ⟨B,0,none⟩)] w at9 RStr xs (fun x=>!p x):=by
 refine⟨enters_of func257 (by kernel_rfl) rfl,fun x vs W hm hr hW=>?_⟩;have eg:=hg.enters;have c0:=hW.cell hB;have lB:B<W.heap.size:=World.block_lt_of_cell? _ _ c0;have hr':=hr;obtain rfl:=hr;have hcall:=fun W' (hx:Ex W W')=>hg.says x _ W' hm hr' (hW.trans hx);simp only [ai4,at9,List.headD,Array.append_empty] at hcall ⊢;have Hc:=Lib.hid hcall;clear hcall
 show Calls _ _ #[_,_] _ _
 go_enter func257,ntmps257
 go_wp2_with (go_at_fn g;refine (Hc.out _ (by first|exact Ex.refl _|exact (Ex.refl _).alloc)).mono ?_;rintro e w' ⟨rfl,hb'⟩)
 go_ret
 exact⟨rfl,by first|exact hb' | exact (Ex.refl _).alloc.trans hb'⟩
theorem bK1 {w:World} {F:Nat->Prop} {xs:List ByteArray} {a:Option Addr} {cap:Nat} (h:Row 1 RStr w F xs a cap) (hl:xs.length<=140737488355328) {g:FuncId} {cb:Array Value} {p:ByteArray->Bool}
  (hg:Asks prog g cb w at9 RStr xs p) :
  Calls prog 230 #[.slice a xs.length cap,.func (.func g) #[] cb] w fun e w'=>e = .returned (.bool (xs.all p))/\Ex w w':=by
 have hcall:=fun B (hB:(w.alloc (.cells #[.func (.func g) #[] cb] 256)).cell? ⟨B,0,none⟩=some (.func (.func g) #[] cb))=>bg4 (h.keep (w':=w.alloc (.cells #[.func (.func g) #[] cb] 256)) (Ex.refl w).alloc.same (fun _ h=>h) (fun _ _ _ h=>h)) hl (bS8 hB (hg.mono (Ex.refl w).alloc));have Hc:=Lib.hid hcall;clear hcall;have Ha:Hid ((!xs.any fun x=>!p x)=xs.all p):=Lib.hid (an8 p xs)
 go_enter func230,ntmps230
 go_wp2_with (go_at_call 200;refine (Hc.out _ (by simp)).mono ?_;rintro e w' ⟨rfl,hb'⟩)
 go_ret
 exact⟨by rw [← Ha.out];rfl,(Ex.refl _).alloc.trans hb'⟩
theorem bc2 {w w':World} {F:Nat->Prop} {xs:List (Int × Int)} {a:Option Addr} {cap:Nat} (h:Row 2 RTwo w F xs a cap) (hex:Same F w w') {i:Nat} (hi:i<xs.length) :
  ∃ x b off,Hid (xs[i]?=some x)/\a=some ⟨b,off,none⟩/\F b/\w'.cell? ⟨b,off+i*2,none⟩=some (.int .i64 x.1)/\w'.cell? ⟨b,off+i*2+1,none⟩=some (.int .i64 x.2)/\Hid (RTwo x [.int .i64 x.1,.int .i64 x.2]):=by
 obtain⟨b,off,ha,hb,vs,hl,hr,hc⟩:=h.at_ i xs[i] (zD hi);have hr':=hr;obtain⟨rfl,_⟩:=hr;exact⟨xs[i],b,off,Lib.hid (zD hi),ha,hb,hex.cell (hc 0 _ rfl) hb,hex.cell (hc 1 _ rfl) hb,hr'⟩
theorem ce4 {w:World} {F:Nat->Prop} {xs:List (Int × Int)} {a:Option Addr} {cap:Nat} (h:Row 2 RTwo w F xs a cap) (hl:xs.length<=140737488355328) {g:FuncId} {cb:Array Value} {p:(Int × Int)->Bool}
  (hg:Asks prog g cb w ai4 RTwo xs p) :
  Calls prog 241 #[.slice a xs.length cap,.func (.func g) #[] cb] w fun e w'=>e = .returned (.int .i64 (idx p xs))/\Ex w w':=by
 have eg:=hg.enters
 go_enter func241,ntmps241
 go_wp2
 go_loopw [8] (fun i wr=>∃ j:Nat,j<=xs.length/\i = .int .i64 j/\Hid (∀ i y,i<j->xs[i]?=some y->p y=false)/\Ex w wr) (fun i _=>xs.length-(intOf i).toNat)
 case atStart=>exact⟨0,by omega,rfl,fun i y h=>by omega,Ex.refl _⟩
 case round=>
  obtain⟨j,hj,rfl,hno,hex⟩:=hrel;by_cases hlt:j<xs.length
  ·obtain⟨x,b,off,hx,rfl,_,c0,c1,hr⟩:=bc2 h hex.same hlt;have hcall:=hg.says x _ wr (zG hx.out) hr.out hex;simp only [ai4,at9,List.headD] at hcall
   cases hp:p x with
   | true=>
    have hi:=ad3 hx.out hp hno.out;rw [hp] at hcall;have Hi:=Lib.hid hi;clear hi hp
    go_wp2_with (go_at_fn g;refine hcall.mono ?_;rintro e w' ⟨rfl,hb'⟩)
    go_ret
    exact⟨by rw [Hi.out];rfl,hex.trans hb'⟩
   | false=>
    have hi:=aC9 hno.out hx.out hp;rw [hp] at hcall;have Hi:=Lib.hid hi;clear hi hp hno
    go_wp2_with (go_at_fn g;refine hcall.mono ?_;rintro e w' ⟨rfl,hb'⟩)
    go_roundw
    case rel=>exact⟨j+1,by omega,by go_num,Hi,hex.trans hb'⟩
    case measure=>simp [intOf];omega
  ·have hi:idx p xs = -1:=aD0 hno.out (by omega);have Hi:=Lib.hid hi;clear hi hno
   go_wp2_with fail
   go_ret
   exact⟨by rw [Hi.out];rfl,hex⟩
theorem bg3 {w:World} {F:Nat->Prop} {xs:List (Int × Int)} {a:Option Addr} {cap:Nat} (h:Row 2 RTwo w F xs a cap) (hl:xs.length<=140737488355328) {g:FuncId} {cb:Array Value} {p:(Int × Int)->Bool}
  (hg:Asks prog g cb w ai4 RTwo xs p) :
  Calls prog 207 #[.slice a xs.length cap,.func (.func g) #[] cb] w fun e w'=>e = .returned (.bool (xs.any p))/\Ex w w':=by
 have hc:=ce4 h hl hg;have Ha:=Lib.hid (al6 p xs)
 go_enter func207,ntmps207
 go_wp2_with (go_at_call 241;refine hc.mono ?_;rintro e w' ⟨rfl,hb'⟩)
 go_ret
 exact⟨by rw [← Ha.out];rfl,hb'⟩
theorem bS7 {w:World} {xs:List (Int × Int)} {g:FuncId} {cb:Array Value} {p:(Int × Int)->Bool} {B:Nat} (hB:w.cell? ⟨B,0,none⟩=some (.func (.func g) #[] cb))
  (hg:Asks prog g cb w ai4 RTwo xs p):Asks prog 258 #[.pointer (some ⟨B,0,none⟩)] w ai4 RTwo xs (fun x=>!p x):=by
 refine⟨enters_of func258 (by kernel_rfl) rfl,fun x vs W hm hr hW=>?_⟩;have eg:=hg.enters;have c0:=hW.cell hB;have lB:B<W.heap.size:=World.block_lt_of_cell? _ _ c0;have hr':=hr;obtain⟨rfl,_⟩:=hr;have hcall:=fun W' (hx:Ex W W')=>hg.says x _ W' hm hr' (hW.trans hx);simp only [ai4,at9,List.headD,Array.append_empty] at hcall ⊢;have Hc:=Lib.hid hcall;clear hcall
 show Calls _ _ #[_,_] _ _
 go_enter func258,ntmps258
 go_wp2_with (go_at_fn g;refine (Hc.out _ (by first|exact Ex.refl _|exact (Ex.refl _).alloc)).mono ?_;rintro e w' ⟨rfl,hb'⟩)
 go_ret
 exact⟨rfl,by first|exact hb' | exact (Ex.refl _).alloc.trans hb'⟩
theorem ci0 {w:World} {F:Nat->Prop} {xs:List (Int × Int)} {a:Option Addr} {cap:Nat} (h:Row 2 RTwo w F xs a cap) (hl:xs.length<=140737488355328) {g:FuncId} {cb:Array Value} {p:(Int × Int)->Bool}
  (hg:Asks prog g cb w ai4 RTwo xs p) :
  Calls prog 231 #[.slice a xs.length cap,.func (.func g) #[] cb] w fun e w'=>e = .returned (.bool (xs.all p))/\Ex w w':=by
 have hcall:=fun B (hB:(w.alloc (.cells #[.func (.func g) #[] cb] 309)).cell? ⟨B,0,none⟩=some (.func (.func g) #[] cb))=>bg3 (h.keep (w':=w.alloc (.cells #[.func (.func g) #[] cb] 309)) (Ex.refl w).alloc.same (fun _ h=>h) (fun _ _ _ h=>h)) hl (bS7 hB (hg.mono (Ex.refl w).alloc));have Hc:=Lib.hid hcall;clear hcall;have Ha:Hid ((!xs.any fun x=>!p x)=xs.all p):=Lib.hid (an8 p xs)
 go_enter func231,ntmps231
 go_wp2_with (go_at_call 207;refine (Hc.out _ (by simp)).mono ?_;rintro e w' ⟨rfl,hb'⟩)
 go_ret
 exact⟨by rw [← Ha.out];rfl,(Ex.refl _).alloc.trans hb'⟩
theorem bI2 {w w':World} {F:Nat->Prop} {xs:List UInt8} {a:Option Addr} {cap:Nat} (h:Row 1 bh9 w F xs a cap) (hex:Same F w w') {i:Nat} (hi:i<xs.length) :
  ∃ x b off,Hid (xs[i]?=some x)/\a=some ⟨b,off,none⟩/\F b/\w'.cell? ⟨b,off+i,none⟩=some (.int .u8 x.toNat)/\Hid (bh9 x [.int .u8 x.toNat]):=by
 obtain⟨b,off,ha,hb,vs,hl,hr,hc⟩:=h.at_ i xs[i] (zD hi);have hr':=hr;obtain rfl:=hr;exact⟨xs[i],b,off,Lib.hid (zD hi),ha,hb,hex.cell (p:=⟨b,off+i,none⟩) (by have:=hc 0 _ rfl;simpa using this) hb,hr'⟩
theorem cf0 {w:World} {F:Nat->Prop} {xs:List UInt8} {a:Option Addr} {cap:Nat} (h:Row 1 bh9 w F xs a cap) (hl:xs.length<=140737488355328) {g:FuncId} {cb:Array Value} {p:UInt8->Bool}
  (hg:Asks prog g cb w at9 bh9 xs p) :
  Calls prog 262 #[.slice a xs.length cap,.func (.func g) #[] cb] w fun e w'=>e = .returned (.int .i64 (idx p xs))/\Ex w w':=by
 have eg:=hg.enters
 go_enter func262,ntmps262
 go_wp2
 go_loopw [8] (fun i wr=>∃ j:Nat,j<=xs.length/\i = .int .i64 j/\Hid (∀ i y,i<j->xs[i]?=some y->p y=false)/\Ex w wr) (fun i _=>xs.length-(intOf i).toNat)
 case atStart=>exact⟨0,by omega,rfl,fun i y h=>by omega,Ex.refl _⟩
 case round=>
  obtain⟨j,hj,rfl,hno,hex⟩:=hrel;by_cases hlt:j<xs.length
  ·obtain⟨x,b,off,hx,rfl,_,c0,hr⟩:=bI2 h hex.same hlt;have hcall:=hg.says x _ wr (zG hx.out) hr.out hex;simp only [ai4,at9,List.headD] at hcall
   cases hp:p x with
   | true=>
    have hi:=ad3 hx.out hp hno.out;rw [hp] at hcall;have Hi:=Lib.hid hi;clear hi hp
    go_wp2_with (go_at_fn g;refine hcall.mono ?_;rintro e w' ⟨rfl,hb'⟩)
    go_ret
    exact⟨by rw [Hi.out];rfl,hex.trans hb'⟩
   | false=>
    have hi:=aC9 hno.out hx.out hp;rw [hp] at hcall;have Hi:=Lib.hid hi;clear hi hp hno
    go_wp2_with (go_at_fn g;refine hcall.mono ?_;rintro e w' ⟨rfl,hb'⟩)
    go_roundw
    case rel=>exact⟨j+1,by omega,by go_num,Hi,hex.trans hb'⟩
    case measure=>simp [intOf];omega
  ·have hi:idx p xs = -1:=aD0 hno.out (by omega);have Hi:=Lib.hid hi;clear hi hno
   go_wp2_with fail
   go_ret
   exact⟨by rw [Hi.out];rfl,hex⟩
theorem bg9 {w:World} {F:Nat->Prop} {xs:List UInt8} {a:Option Addr} {cap:Nat} (h:Row 1 bh9 w F xs a cap) (hl:xs.length<=140737488355328) {g:FuncId} {cb:Array Value} {p:UInt8->Bool}
  (hg:Asks prog g cb w at9 bh9 xs p) :
  Calls prog 249 #[.slice a xs.length cap,.func (.func g) #[] cb] w fun e w'=>e = .returned (.bool (xs.any p))/\Ex w w':=by
 have hc:=cf0 h hl hg;have Ha:=Lib.hid (al6 p xs)
 go_enter func249,ntmps249
 go_wp2_with (go_at_call 262;refine hc.mono ?_;rintro e w' ⟨rfl,hb'⟩)
 go_ret
 exact⟨by rw [← Ha.out];rfl,hb'⟩
end
section
open Go.RowKit Go.Shelf
theorem cn6 (xs:List ByteArray) (w:World) {F:Nat->Prop} {a:Option Addr} {cap:Nat} (h:ay5 w F xs a cap) (hl:xs.length<=1000000) :
  Calls prog 261 #[.slice a xs.length cap] w fun e w'=>∃ s:ByteArray,e = .returned (.string s)/\(s=⟨#[]⟩\/s∈xs)/\w=w':=by
 go_enter func261,ntmps261
 go_wp2
 go_loop [8] (fun i=>∃ j:Nat,j<=xs.length/\i = .int .i64 j) (fun i=>xs.length-(intOf i).toNat)
 case atStart=>exact⟨0,by omega,rfl⟩
 case round=>
  obtain⟨j,hj,rfl⟩:=hrel;by_cases hlt:j<xs.length
  ·obtain⟨x,b,off,hx,rfl,_,c0,_⟩:=av6 h (Ex.refl w).same hlt
   cases he:x.toList.isEmpty
   ·go_wp2
    go_ret
    exact⟨x,rfl,.inr (zG hx.out),rfl⟩
   ·go_wp2
    go_round
    case rel=>exact⟨j+1,by omega,by go_num⟩
    case measure=>simp [intOf];omega
  ·go_wp2
   go_ret
   exact⟨_,rfl,.inl rfl,rfl⟩
theorem bK9 (w:World) (T:TypeId) (l:List ByteArray):ay5 (w.alloc (.cells (l.map Value.string).toArray T)) (fun _=>True) l (some ⟨w.heap.size,0,none⟩) l.length:=
 ⟨zT _,fun i x hx=>⟨w.heap.size,0,rfl,trivial,[.string x],rfl,rfl,fun j v hj=>by
  cases j with
  | zero=>simp at hj;subst hj;simp [hx]
  | succ j=>simp at hj⟩⟩
theorem aE5 (s:ByteArray) (w:World) :
  Calls prog 236 #[.string s] w fun e w'=>∃ t:ByteArray,e = .returned (.string t)/\t.size<=s.size+1/\Ex w w':=by
 have HO:=Lib.hid (cn6 [s,⟨#[45]⟩] _ (bK9 w 9 [s,⟨#[45]⟩]) (by simp))
 go_enter func236,ntmps236
 go_wp2_with (go_at_call 261;refine HO.out.mono ?_;rintro e w' ⟨t,rfl,ht,rfl⟩)
 go_ret
 refine⟨t,rfl,?_,cl0⟩;rcases ht with rfl|h
 ·exact zW _
 ·simp only [zU,yF,xE] at h;rcases h with rfl|rfl
  ·omega
  ·show 1<=_;omega
def anyV:Int ⊕ ByteArray->Value
 | .inl n=>.iface 3 (.int .i64 n)
 | .inr s=>.iface 9 (.string s)
theorem ch7 (w:World) (T:TypeId) (items:List (Int ⊕ ByteArray)) (hi:∀ n,Sum.inl n∈items->I64 n):Row 1 RAny (w.alloc (.cells (items.map anyV).toArray T)) (fun _=>True) items (some ⟨w.heap.size,0,none⟩) items.length:=
 ⟨zT _,fun i x hx=>⟨w.heap.size,0,rfl,trivial,[anyV x],rfl,by
  cases x with
  | inl n=>exact⟨rfl,hi n (zG hx)⟩
  | inr s=>rfl,fun j v hj=>by
  cases j with
  | zero=>simp at hj;subst hj;simp [hx]
  | succ j=>simp at hj⟩⟩
theorem am8 (word:ByteArray) (items:List (Int ⊕ ByteArray)) (w:World) (hi:∀ n,Sum.inl n∈items->I64 n) (hp:Pow10 w) (hl:items.length<=1000000) (hm:word.size+ac0 items<=1000000000) :
  Calls prog 234 #[.string word,.slice (some ⟨w.heap.size,0,none⟩) items.length items.length] (w.alloc (.cells (items.map anyV).toArray 20)) fun e w'=>∃ s:ByteArray,e = .returned (.string s)/\s.size<=word.size+ac0 items+1/\Ex w w':=
 (ba3 word items _ (ch7 w _ items hi) (hp.ex (Ex.refl w).alloc) hl hm).mono fun e w' ⟨s,h1,h2,h3⟩=>⟨s,h1,h2,(Ex.refl w).alloc.trans h3⟩
theorem WordsAt.ex {w w':World} (h:WordsAt w) (he:Ex w w'):WordsAt w':=fun i s hs=>he.cell (h i s hs)
theorem cg5 (n o u:ByteArray) (lo hi:Int) (nw ng:Nat) (w:World) (wa ga:Option Addr) (cw cg:Nat) (hr1:n.size<=1000000) (hr2:o.size<=1000000) (hr3:u.size<=1000000) (h1:I64 lo) (h2:I64 hi) (hp:Pow10 w) (hwd:WordsAt w) :
  Calls prog 235 #[.agg #[.string n,.string o,.string u,.int .i64 0,.int .i64 lo,.int .i64 hi,.slice wa nw cw,.slice ga ng cg]] w fun e w'=>∃ s:ByteArray,e = .returned (.string s)/\s.size<=16+n.size+o.size+u.size+intB lo+intB hi/\Ex w w':=by
 have c0:=hwd 0 _ rfl;have lB:3<w.heap.size:=World.block_lt_of_cell? _ _ c0;have i1:=af5 lo;have i2:=af5 hi;have HB:Hid (ac0 [.inr n,.inl lo]+6<=16+n.size+o.size+u.size+intB lo+intB hi):=by unfold Hid;simp [ac0,au0];omega
 have HL:Hid (∀ (W:World) (N:Nat),Ex w W->N=W.heap.size->Calls prog 234 #[.string ⟨#[107,101,121]⟩,.slice (some ⟨N,0,none⟩) 2 2] (W.alloc (.cells #[.iface 9 (.string n),.iface 3 (.int .i64 lo)] 20)) fun e w'=>∃ s:ByteArray,e = .returned (.string s)/\s.size<=3+ac0 [.inr n,.inl lo]+1/\Ex W w'):=Lib.hid (by
  intro W N he hN;subst hN;exact am8 ⟨#[107,101,121]⟩ [.inr n,.inl lo] W (by simp [h1,h2]) (hp.ex he) (by simp) (by have:=HB.out;show 3+_<=_;omega))
 go_enter func235,ntmps235
 go_wp2_with (go_at_call 234;refine (HL.out _ _ cl0 (by simp)).mono ?_;rintro e w1 ⟨s,rfl,hs,hb1⟩)
 go_ret
 refine⟨s,rfl,?_,cl0⟩;have:=HB.out;omega
theorem cg3 (n o u:ByteArray) (lo hi:Int) (nw ng:Nat) (w:World) (wa ga:Option Addr) (cw cg:Nat) (hr1:n.size<=1000000) (hr2:o.size<=1000000) (hr3:u.size<=1000000) (h1:I64 lo) (h2:I64 hi) (hp:Pow10 w) (hwd:WordsAt w) :
  Calls prog 235 #[.agg #[.string n,.string o,.string u,.int .i64 2,.int .i64 lo,.int .i64 hi,.slice wa nw cw,.slice ga ng cg]] w fun e w'=>∃ s:ByteArray,e = .returned (.string s)/\s.size<=16+n.size+o.size+u.size+intB lo+intB hi/\Ex w w':=by
 have c0:=hwd 2 _ rfl;have lB:3<w.heap.size:=World.block_lt_of_cell? _ _ c0;have i1:=af5 lo;have i2:=af5 hi;have HB:Hid (ac0 [.inr n,.inl lo,.inl hi]+6<=16+n.size+o.size+u.size+intB lo+intB hi):=by unfold Hid;simp [ac0,au0];omega
 have HL:Hid (∀ (W:World) (N:Nat),Ex w W->N=W.heap.size->Calls prog 234 #[.string ⟨#[110,117,109]⟩,.slice (some ⟨N,0,none⟩) 3 3] (W.alloc (.cells #[.iface 9 (.string n),.iface 3 (.int .i64 lo),.iface 3 (.int .i64 hi)] 20)) fun e w'=>∃ s:ByteArray,e = .returned (.string s)/\s.size<=3+ac0 [.inr n,.inl lo,.inl hi]+1/\Ex W w'):=Lib.hid (by
  intro W N he hN;subst hN;exact am8 ⟨#[110,117,109]⟩ [.inr n,.inl lo,.inl hi] W (by simp [h1,h2]) (hp.ex he) (by simp) (by have:=HB.out;show 3+_<=_;omega))
 go_enter func235,ntmps235
 go_wp2_with (go_at_call 234;refine (HL.out _ _ cl0 (by simp)).mono ?_;rintro e w1 ⟨s,rfl,hs,hb1⟩)
 go_ret
 refine⟨s,rfl,?_,cl0⟩;have:=HB.out;omega
theorem cf9 (n o u:ByteArray) (lo hi:Int) (nw ng:Nat) (w:World) (wa ga:Option Addr) (cw cg:Nat) (hr1:n.size<=1000000) (hr2:o.size<=1000000) (hr3:u.size<=1000000) (h1:I64 lo) (h2:I64 hi) (hp:Pow10 w) (hwd:WordsAt w) :
  Calls prog 235 #[.agg #[.string n,.string o,.string u,.int .i64 6,.int .i64 lo,.int .i64 hi,.slice wa nw cw,.slice ga ng cg]] w fun e w'=>∃ s:ByteArray,e = .returned (.string s)/\s.size<=16+n.size+o.size+u.size+intB lo+intB hi/\Ex w w':=by
 have c0:=hwd 6 _ rfl;have lB:3<w.heap.size:=World.block_lt_of_cell? _ _ c0;have i1:=af5 lo;have i2:=af5 hi;have HB:Hid (ac0 [.inr n,.inr o]+6<=16+n.size+o.size+u.size+intB lo+intB hi):=by unfold Hid;simp [ac0,au0];omega
 have HL:Hid (∀ (W:World) (N:Nat),Ex w W->N=W.heap.size->Calls prog 234 #[.string ⟨#[115,117,109]⟩,.slice (some ⟨N,0,none⟩) 2 2] (W.alloc (.cells #[.iface 9 (.string n),.iface 9 (.string o)] 20)) fun e w'=>∃ s:ByteArray,e = .returned (.string s)/\s.size<=3+ac0 [.inr n,.inr o]+1/\Ex W w'):=Lib.hid (by
  intro W N he hN;subst hN;exact am8 ⟨#[115,117,109]⟩ [.inr n,.inr o] W (by simp [h1,h2]) (hp.ex he) (by simp) (by have:=HB.out;show 3+_<=_;omega))
 go_enter func235,ntmps235
 go_wp2_with (go_at_call 234;refine (HL.out _ _ cl0 (by simp)).mono ?_;rintro e w1 ⟨s,rfl,hs,hb1⟩)
 go_ret
 refine⟨s,rfl,?_,cl0⟩;have:=HB.out;omega
theorem cf8 (n o u:ByteArray) (lo hi:Int) (nw ng:Nat) (w:World) (wa ga:Option Addr) (cw cg:Nat) (hr1:n.size<=1000000) (hr2:o.size<=1000000) (hr3:u.size<=1000000) (h1:I64 lo) (h2:I64 hi) (hp:Pow10 w) (hwd:WordsAt w) :
  Calls prog 235 #[.agg #[.string n,.string o,.string u,.int .i64 7,.int .i64 lo,.int .i64 hi,.slice wa nw cw,.slice ga ng cg]] w fun e w'=>∃ s:ByteArray,e = .returned (.string s)/\s.size<=16+n.size+o.size+u.size+intB lo+intB hi/\Ex w w':=by
 have c0:=hwd 7 _ rfl;have lB:3<w.heap.size:=World.block_lt_of_cell? _ _ c0;have i1:=af5 lo;have i2:=af5 hi;have HB:Hid (ac0 [.inr n,.inr u,.inr o,.inl lo,.inl hi]+6<=16+n.size+o.size+u.size+intB lo+intB hi):=by unfold Hid;simp [ac0,au0];omega
 have HL:Hid (∀ (W:World) (N:Nat),Ex w W->N=W.heap.size->Calls prog 234 #[.string ⟨#[115,104,97,114,101]⟩,.slice (some ⟨N,0,none⟩) 5 5] (W.alloc (.cells #[.iface 9 (.string n),.iface 9 (.string u),.iface 9 (.string o),.iface 3 (.int .i64 lo),.iface 3 (.int .i64 hi)] 20)) fun e w'=>∃ s:ByteArray,e = .returned (.string s)/\s.size<=5+ac0 [.inr n,.inr u,.inr o,.inl lo,.inl hi]+1/\Ex W w'):=Lib.hid (by
  intro W N he hN;subst hN;exact am8 ⟨#[115,104,97,114,101]⟩ [.inr n,.inr u,.inr o,.inl lo,.inl hi] W (by simp [h1,h2]) (hp.ex he) (by simp) (by have:=HB.out;show 5+_<=_;omega))
 go_enter func235,ntmps235
 go_wp2_with (go_at_call 234;refine (HL.out _ _ cl0 (by simp)).mono ?_;rintro e w1 ⟨s,rfl,hs,hb1⟩)
 go_ret
 refine⟨s,rfl,?_,cl0⟩;have:=HB.out;omega
theorem cf7 (n o u:ByteArray) (lo hi:Int) (nw ng:Nat) (w:World) (wa ga:Option Addr) (cw cg:Nat) (hr1:n.size<=1000000) (hr2:o.size<=1000000) (hr3:u.size<=1000000) (h1:I64 lo) (h2:I64 hi) (hp:Pow10 w) (hwd:WordsAt w) :
  Calls prog 235 #[.agg #[.string n,.string o,.string u,.int .i64 8,.int .i64 lo,.int .i64 hi,.slice wa nw cw,.slice ga ng cg]] w fun e w'=>∃ s:ByteArray,e = .returned (.string s)/\s.size<=16+n.size+o.size+u.size+intB lo+intB hi/\Ex w w':=by
 have c0:=hwd 8 _ rfl;have lB:3<w.heap.size:=World.block_lt_of_cell? _ _ c0;have i1:=af5 lo;have i2:=af5 hi;have HB:Hid (ac0 [.inr n,.inr u,.inr o]+6<=16+n.size+o.size+u.size+intB lo+intB hi):=by unfold Hid;simp [ac0,au0];omega
 have HL:Hid (∀ (W:World) (N:Nat),Ex w W->N=W.heap.size->Calls prog 234 #[.string ⟨#[99,111,112,121]⟩,.slice (some ⟨N,0,none⟩) 3 3] (W.alloc (.cells #[.iface 9 (.string n),.iface 9 (.string u),.iface 9 (.string o)] 20)) fun e w'=>∃ s:ByteArray,e = .returned (.string s)/\s.size<=4+ac0 [.inr n,.inr u,.inr o]+1/\Ex W w'):=Lib.hid (by
  intro W N he hN;subst hN;exact am8 ⟨#[99,111,112,121]⟩ [.inr n,.inr u,.inr o] W (by simp [h1,h2]) (hp.ex he) (by simp) (by have:=HB.out;show 4+_<=_;omega))
 go_enter func235,ntmps235
 go_wp2_with (go_at_call 234;refine (HL.out _ _ cl0 (by simp)).mono ?_;rintro e w1 ⟨s,rfl,hs,hb1⟩)
 go_ret
 refine⟨s,rfl,?_,cl0⟩;have:=HB.out;omega
end
section
open Go.RowKit Go.Shelf
theorem cg4 (n o u:ByteArray) (lo hi:Int) (nw ng:Nat) (w:World) (wa ga:Option Addr) (cw cg:Nat) (hr1:n.size<=1000000) (hr2:o.size<=1000000) (hr3:u.size<=1000000) (h1:I64 lo) (h2:I64 hi) (hp:Pow10 w) (hwd:WordsAt w) :
  Calls prog 235 #[.agg #[.string n,.string o,.string u,.int .i64 1,.int .i64 lo,.int .i64 hi,.slice wa nw cw,.slice ga ng cg]] w fun e w'=>∃ s:ByteArray,e = .returned (.string s)/\s.size<=16+n.size+o.size+u.size+intB lo+intB hi/\Ex w w':=by
 have c0:=hwd 1 _ rfl;have lB:3<w.heap.size:=World.block_lt_of_cell? _ _ c0;have i1:=af5 lo;have i2:=af5 hi;have HB:Hid (∀ t:ByteArray,t.size<=o.size+1->ac0 [.inr n,.inr t,.inl lo,.inl hi]+6<=16+n.size+o.size+u.size+intB lo+intB hi):=by unfold Hid;intro t ht;simp [ac0,au0];omega
 have HL:Hid (∀ (W:World) (N:Nat) (t:ByteArray),t.size<=o.size+1->Ex w W->N=W.heap.size->Calls prog 234 #[.string ⟨#[114,101,102]⟩,.slice (some ⟨N,0,none⟩) 4 4] (W.alloc (.cells #[.iface 9 (.string n),.iface 9 (.string t),.iface 3 (.int .i64 lo),.iface 3 (.int .i64 hi)] 20)) fun e w'=>∃ s:ByteArray,e = .returned (.string s)/\s.size<=3+ac0 [.inr n,.inr t,.inl lo,.inl hi]+1/\Ex W w'):=Lib.hid (by
  intro W N t ht he hN;subst hN;exact am8 ⟨#[114,101,102]⟩ [.inr n,.inr t,.inl lo,.inl hi] W (by simp [h1,h2]) (hp.ex he) (by simp) (by have:=HB.out t ht;show 3+_<=_;omega))
 go_enter func235,ntmps235
 go_wp2
 go_region_held3 (fun W=>W.cell? ⟨w.heap.size,0,none⟩=some (.string n)/\W.cell? ⟨w.heap.size,1,none⟩=some (.string o)/\W.cell? ⟨w.heap.size,4,none⟩=some (.int .i64 lo)/\W.cell? ⟨w.heap.size,5,none⟩=some (.int .i64 hi)) (go_keep) (first|(go_at_call 236;refine (aE5 _ _).mono ?_;rintro e w1 ⟨t,rfl,ht,hb1⟩;(have hq7:=ru7;(try clear hc hf);obtain⟨hb,hc,hf,hz⟩:=hq7;(try simp only [zsz7] at hz);(try have hz0:=z07 w w1);(try have hz1:=z17 w w1);(try have hz2:=z27 w w1)))|(go_at_call 234;refine (HL.out _ _ _ ht cl0 (by first|rfl|simp)).mono ?_;rintro e w1 ⟨s,rfl,hs,hb1⟩;(have hq7:=ru7;(try clear hc hf);obtain⟨hb,hc,hf,hz⟩:=hq7;(try simp only [zsz7] at hz);(try have hz0:=z07 w w1);(try have hz1:=z17 w w1);(try have hz2:=z27 w w1))))
 all_goals go_wp2
 all_goals go_ret
 all_goals
  refine⟨s,rfl,?_,cl0⟩;have:=HB.out t ht;omega
theorem cg1 (n o u:ByteArray) (lo hi:Int) (nw ng:Nat) (w:World) (wa ga:Option Addr) (cw cg:Nat) (hr1:n.size<=1000000) (hr2:o.size<=1000000) (hr3:u.size<=1000000) (h1:I64 lo) (h2:I64 hi) (hp:Pow10 w) (hwd:WordsAt w) :
  Calls prog 235 #[.agg #[.string n,.string o,.string u,.int .i64 4,.int .i64 lo,.int .i64 hi,.slice wa nw cw,.slice ga ng cg]] w fun e w'=>∃ s:ByteArray,e = .returned (.string s)/\s.size<=16+n.size+o.size+u.size+intB lo+intB hi/\Ex w w':=by
 have c0:=hwd 4 _ rfl;have lB:3<w.heap.size:=World.block_lt_of_cell? _ _ c0;have i1:=af5 lo;have i2:=af5 hi;have HB:Hid (∀ t:ByteArray,t.size<=o.size+1->ac0 [.inr n,.inr t,.inl lo,.inl hi]+6<=16+n.size+o.size+u.size+intB lo+intB hi):=by unfold Hid;intro t ht;simp [ac0,au0];omega
 have HL:Hid (∀ (W:World) (N:Nat) (t:ByteArray),t.size<=o.size+1->Ex w W->N=W.heap.size->Calls prog 234 #[.string ⟨#[100,97,121]⟩,.slice (some ⟨N,0,none⟩) 4 4] (W.alloc (.cells #[.iface 9 (.string n),.iface 9 (.string t),.iface 3 (.int .i64 lo),.iface 3 (.int .i64 hi)] 20)) fun e w'=>∃ s:ByteArray,e = .returned (.string s)/\s.size<=3+ac0 [.inr n,.inr t,.inl lo,.inl hi]+1/\Ex W w'):=Lib.hid (by
  intro W N t ht he hN;subst hN;exact am8 ⟨#[100,97,121]⟩ [.inr n,.inr t,.inl lo,.inl hi] W (by simp [h1,h2]) (hp.ex he) (by simp) (by have:=HB.out t ht;show 3+_<=_;omega))
 go_enter func235,ntmps235
 go_wp2
 go_region_held3 (fun W=>W.cell? ⟨w.heap.size,0,none⟩=some (.string n)/\W.cell? ⟨w.heap.size,1,none⟩=some (.string o)/\W.cell? ⟨w.heap.size,4,none⟩=some (.int .i64 lo)/\W.cell? ⟨w.heap.size,5,none⟩=some (.int .i64 hi)) (go_keep) (first|(go_at_call 236;refine (aE5 _ _).mono ?_;rintro e w1 ⟨t,rfl,ht,hb1⟩;(have hq7:=ru7;(try clear hc hf);obtain⟨hb,hc,hf,hz⟩:=hq7;(try simp only [zsz7] at hz);(try have hz0:=z07 w w1);(try have hz1:=z17 w w1);(try have hz2:=z27 w w1)))|(go_at_call 234;refine (HL.out _ _ _ ht cl0 (by first|rfl|simp)).mono ?_;rintro e w1 ⟨s,rfl,hs,hb1⟩;(have hq7:=ru7;(try clear hc hf);obtain⟨hb,hc,hf,hz⟩:=hq7;(try simp only [zsz7] at hz);(try have hz0:=z07 w w1);(try have hz1:=z17 w w1);(try have hz2:=z27 w w1))))
 all_goals go_wp2
 all_goals go_ret
 all_goals
  refine⟨s,rfl,?_,cl0⟩;have:=HB.out t ht;omega
theorem cg0 (n o u:ByteArray) (lo hi:Int) (nw ng:Nat) (w:World) (wa ga:Option Addr) (cw cg:Nat) (hr1:n.size<=1000000) (hr2:o.size<=1000000) (hr3:u.size<=1000000) (h1:I64 lo) (h2:I64 hi) (hp:Pow10 w) (hwd:WordsAt w) :
  Calls prog 235 #[.agg #[.string n,.string o,.string u,.int .i64 5,.int .i64 lo,.int .i64 hi,.slice wa nw cw,.slice ga ng cg]] w fun e w'=>∃ s:ByteArray,e = .returned (.string s)/\s.size<=16+n.size+o.size+u.size+intB lo+intB hi/\Ex w w':=by
 have c0:=hwd 5 _ rfl;have lB:3<w.heap.size:=World.block_lt_of_cell? _ _ c0;have i1:=af5 lo;have i2:=af5 hi;have HB:Hid (∀ t:ByteArray,t.size<=o.size+1->ac0 [.inr n,.inr t,.inl lo,.inl hi]+6<=16+n.size+o.size+u.size+intB lo+intB hi):=by unfold Hid;intro t ht;simp [ac0,au0];omega
 have HL:Hid (∀ (W:World) (N:Nat) (t:ByteArray),t.size<=o.size+1->Ex w W->N=W.heap.size->Calls prog 234 #[.string ⟨#[115,116,101,112]⟩,.slice (some ⟨N,0,none⟩) 4 4] (W.alloc (.cells #[.iface 9 (.string n),.iface 9 (.string t),.iface 3 (.int .i64 lo),.iface 3 (.int .i64 hi)] 20)) fun e w'=>∃ s:ByteArray,e = .returned (.string s)/\s.size<=4+ac0 [.inr n,.inr t,.inl lo,.inl hi]+1/\Ex W w'):=Lib.hid (by
  intro W N t ht he hN;subst hN;exact am8 ⟨#[115,116,101,112]⟩ [.inr n,.inr t,.inl lo,.inl hi] W (by simp [h1,h2]) (hp.ex he) (by simp) (by have:=HB.out t ht;show 4+_<=_;omega))
 go_enter func235,ntmps235
 go_wp2
 go_region_held3 (fun W=>W.cell? ⟨w.heap.size,0,none⟩=some (.string n)/\W.cell? ⟨w.heap.size,1,none⟩=some (.string o)/\W.cell? ⟨w.heap.size,4,none⟩=some (.int .i64 lo)/\W.cell? ⟨w.heap.size,5,none⟩=some (.int .i64 hi)) (go_keep) (first|(go_at_call 236;refine (aE5 _ _).mono ?_;rintro e w1 ⟨t,rfl,ht,hb1⟩;(have hq7:=ru7;(try clear hc hf);obtain⟨hb,hc,hf,hz⟩:=hq7;(try simp only [zsz7] at hz);(try have hz0:=z07 w w1);(try have hz1:=z17 w w1);(try have hz2:=z27 w w1)))|(go_at_call 234;refine (HL.out _ _ _ ht cl0 (by first|rfl|simp)).mono ?_;rintro e w1 ⟨s,rfl,hs,hb1⟩;(have hq7:=ru7;(try clear hc hf);obtain⟨hb,hc,hf,hz⟩:=hq7;(try simp only [zsz7] at hz);(try have hz0:=z07 w w1);(try have hz1:=z17 w w1);(try have hz2:=z27 w w1))))
 all_goals go_wp2
 all_goals go_ret
 all_goals
  refine⟨s,rfl,?_,cl0⟩;have:=HB.out t ht;omega
end
section
open Go.RowKit
def cellsOf {α:Type} (C:α->List Value) (xs:List α):List Value:=xs.flatMap C
theorem aR0 {α:Type} {C:α->List Value} {k:Nat}:∀ {xs:List α} {i:Nat} {x:α} {j:Nat} {v:Value},(∀ x,x∈xs->(C x).length=k)->xs[i]?=some x->(C x)[j]?=some v->(cellsOf C xs)[i*k+j]?=some v
 | [],i,x,j,v,_,h,_=>by simp at h
 | y::xs,0,x,j,v,hk,h,hj=>by
  simp at h;subst h;simp only [cellsOf,List.flatMap_cons,Nat.zero_mul,xD];rw [yP (zE.1 hj).1];exact hj
 | y::xs,i+1,x,j,v,hk,h,hj=>by
  simp at h;have:=aR0 (xs:=xs) (fun z hz=>hk z (yQ _ hz)) h hj;simp only [cellsOf,List.flatMap_cons] at *;have hy:=hk y (yN ..);rw [yK (by rw [hy,vC];omega),hy,vC];rw [show i*k+1*k+j-k=i*k+j from by omega];exact this
theorem aO0 {α:Type} {w:World} {base k:Nat} {e:TypeId} {v:Value} {C:α->List Value} {R:α->List Value->Prop} {xs:List α} {n:Nat} (hn:n=xs.length)
  (h:w.ownsRow base e k v n (cellsOf C xs)) (hk:∀ x,x∈xs->(C x).length=k) (hR:∀ x,x∈xs->R x (C x)) :
  ∃ a cap,v = .slice a xs.length cap/\Row k R w (fun b=>some b=v.ownBlock) xs a cap:=by
 subst hn;rcases h.2 with ⟨rfl,h0⟩|⟨g,cap,cur,rfl,hg,hh,hle,_,hs,ht⟩
 ·have:xs=[]:=List.eq_nil_of_length_eq_zero h0;subst this;exact⟨none,0,rfl,Row.nil⟩
 ·refine⟨_,cap,rfl,hle,fun i x hx=>⟨g,0,rfl,rfl,C x,hk x (zG hx),hR x (zG hx),fun j u hj=>?_⟩⟩;have h1:=aR0 hk hx hj;rw [← ht] at h1;have h2:cur.toList[i*k+j]?=some u:=by
   have:=(zE.1 h1).1;rw [yX] at h1;split at h1
   ·exact h1
   ·simp at h1
  simp only [World.cell?,hh,xD]
  simpa using h2
theorem aA8 {w:World} {base k n:Nat} {e:TypeId} {v:Value} {xs:List Value} (h:w.ownsRow base e k v n xs):∃ a cap,v = .slice a n cap:=by
 rcases h.2 with ⟨rfl,h0⟩|⟨g,cap,cur,rfl,_⟩
 ·exact⟨none,0,by rw [h0]⟩
 ·exact⟨_,_,rfl⟩
theorem Ex.appended {w wr w':World} {base k n:Nat} {e:TypeId} {v:Value} {xs:List Value} (he:Ex w wr) (h:wr.ownsRow base e k v n xs) (hB:w.heap.size<=base) (hg:wr.grownBy w' v.ownBlock):Ex w w':=
 he.grown hg (fun j hj=>by have:=(h.lt j hj).1;omega)
end
section
open Go.RowKit Go.Shelf
theorem ab3 {a b:Bool} (h:a=b):Ending.returned (.bool a) = .returned (.bool b):=by rw [h]
theorem az2 {k:IntKind} {a b:Int} (h:a=b):Ending.returned (.int k a) = .returned (.int k b):=by rw [h]
theorem ab6 (n a b:Int) (w:World):Calls prog 189 #[.int .i64 n,.int .i64 a,.int .i64 b] w fun e w'=>e = .returned (.bool (aa3 n a b))/\w=w':=by
 by_cases h1:a<=n
 all_goals
  go_enter func189,ntmps189
  go_wp2
  go_ret
  exact⟨ab3 (by simp [aa3];try omega),rfl⟩
theorem aj8 (lo hi a b:Int) (w:World):Calls prog 226 #[.int .i64 lo,.int .i64 hi,.int .i64 a,.int .i64 b] w fun e w'=>e = .returned (.bool (ap2 lo hi a b))/\w=w':=by
 by_cases h1:a<=lo<;>by_cases h2:lo<=hi
 all_goals
  go_enter func226,ntmps226
  go_wp2
  go_ret
  exact⟨ab3 (by simp only [ap2];rw [Bool.eq_iff_iff];simp;try omega),rfl⟩
theorem aJ5 (c:UInt8) (w:World):Calls prog 248 #[.int .u8 c.toNat] w fun e w'=>e = .returned (.bool (ap9 c))/\w=w':=by
 by_cases h1:97<=(c.toNat:Int)
 all_goals
  go_enter func248,ntmps248
  go_wp2
  go_ret
  exact⟨ab3 (by simp [ap9];try omega),rfl⟩
theorem bl1 (c:UInt8) (w:World):Calls prog 251 #[.int .u8 c.toNat] w fun e w'=>e = .returned (.bool (bb2 c))/\w=w':=by
 by_cases h1:48<=(c.toNat:Int)
 all_goals
  go_enter func251,ntmps251
  go_wp2
  go_ret
  exact⟨ab3 (by simp [bb2];try omega),rfl⟩
theorem bf3 (w:World) (l:List UInt8):Asks prog 250 #[] w at9 bh9 l (fun c=>!alnum c):=by
 refine⟨enters_of func250 (by kernel_rfl) rfl,fun c vs W hm hr hW=>?_⟩
 cases hr
 show Calls _ _ #[.int .u8 c.toNat] _ _
 cases h:ap9 c
 all_goals
  go_enter func250,ntmps250
  go_wp2_with (first|(go_at_call 248;refine (aJ5 _ _).mono ?_;rintro e w' ⟨rfl,rfl⟩)|(go_at_call 251;refine (bl1 _ _).mono ?_;rintro e w' ⟨rfl,rfl⟩))
  go_ret
  exact⟨ab3 (by simp [alnum,h]),Ex.refl _⟩
theorem bb3 (w:World) (e:TypeId) (s:ByteArray):Ex w (Lib.bytesWorld w e s):=
 ⟨rfl,rfl,rfl,
  by rw [Lib.bytesWorld_size];omega,fun b hb _=>Lib.bytesWorld_at_old w e s b hb⟩
theorem aS6 (w:World) (e:TypeId) (s:ByteArray) (cap:Nat) (hc:s.size<=cap):Row 1 bh9 (Lib.bytesWorld w e s) (fun _=>True) (bytes s) (some ⟨w.heap.size,0,none⟩) cap:=
 ⟨by unfold bytes;simpa using hc,fun i x hx=>⟨w.heap.size,0,rfl,trivial,[.int .u8 x.toNat],rfl,rfl,fun j v hj=>by
  unfold bytes at hx;obtain⟨hi,rfl⟩:=zE.1 hx;have hi':i<s.size:=by simpa using hi
  have:=Lib.bytesWorld_cell w e s i hi'
  cases j with
  | zero=>simp at hj;subst hj;simpa [List.getD,hi'] using this
  | succ j=>simp at hj⟩⟩
theorem aN3 (s:ByteArray):s.size=(bytes s).length:=by unfold bytes;rw [Array.length_toList];rfl
theorem ab9 (s:ByteArray) (w:World) (hs:s.size<=9223372036854775807):Calls prog 225 #[.string s] w fun e w'=>e = .returned (.bool (isNm s))/\Ex w w':=by
 have HW:=Lib.hid (fun n (w:World)=>ab6 n 1 12 w);have HL:=Lib.hid aJ5
 cases hw:aa3 s.size 1 12 with
 | false=>
  have HN:Hid (isNm s=false):=Lib.hid (by simp [isNm,hw])
  go_enter func225,ntmps225
  go_wp2_with (go_at_call 189;refine (HW.out _ _).mono ?_;rintro e w' ⟨rfl,rfl⟩)
  go_ret
  exact⟨ab3 HN.out.symm,Ex.refl _⟩
 | true=>
  have h1:1<=s.size:=by simp [aa3] at hw;omega
  have h12:s.size<=12:=by simp [aa3] at hw;omega
  obtain⟨c,r,hcr⟩:∃ c r,bytes s=c::r:=by
   cases h:bytes s with
   | nil=>rw [aN3,h] at h1;simp at h1
   | cons c r=>exact⟨c,r,rfl⟩
  have hs0:s[0]=c:=by
   have:(bytes s)[0]?=some c:=by rw [hcr];rfl
   unfold bytes at this;simp only [Array.getElem?_toList] at this;exact (zX.1 this).2
  cases hl:ap9 c with
  | false=>
   have HN:Hid (isNm s=false):=Lib.hid (by simp [isNm,hw,hcr,hl]);have HS:=Lib.hid hs0;clear hs0 hcr
   go_enter func225,ntmps225
   go_wp2_with (first|(go_at_call 189;refine (HW.out _ _).mono ?_;rintro e w' ⟨rfl,rfl⟩)|(go_at_call 248;rw [HS.out];refine (HL.out _ _).mono ?_;rintro e w' ⟨rfl,rfl⟩))
   go_ret
   exact⟨ab3 HN.out.symm,Ex.refl _⟩
  | true=>
   have HN:Hid (isNm s=(bytes s).all alnum):=Lib.hid (by simp [isNm,hw,hcr,hl]);have HA:=Lib.hid (an8 alnum (bytes s));have HS:=Lib.hid hs0;clear hs0 hcr;have hlen:(bytes s).length<=140737488355328:=by rw [← aN3];omega
   have HC:Hid (∀ cap,s.size<=cap->Calls prog 249 #[.slice (some ⟨w.heap.size,0,none⟩) s.size cap,.func (.func 250) #[] #[]] (Lib.bytesWorld w 5 s) fun e w'=>e = .returned (.bool ((bytes s).any fun c=>!alnum c))/\Ex (Lib.bytesWorld w 5 s) w'):=
    Lib.hid (fun cap hc=>by
     have:=bg9 (aS6 w 5 s cap hc) hlen (bf3 _ _);rw [← aN3] at this;exact this)
   clear hlen;have kc:=fun (w:World)=>Lib.run_convert_string_bytes (P:=prog) w 9 23 5 s underlying9 underlying23 underlying5;have hcap:s.size<=grownCap w s.size 0 5:=grownCap_ge _ _ _ _
   go_enter func225,ntmps225
   go_wp2_with (first|(go_at_call 189;refine (HW.out _ _).mono ?_;rintro e w' ⟨rfl,rfl⟩)|(go_at_call 248;rw [HS.out];refine (HL.out _ _).mono ?_;rintro e w' ⟨rfl,rfl⟩)|(go_at_call 249;refine (HC.out _ hcap).mono ?_;rintro e w' ⟨rfl,hb⟩))
   go_ret
   exact⟨ab3 (by rw [HN.out,← HA.out]),(bb3 _ _ _).trans hb⟩
end
section
open Go.RowKit Go.Shelf
theorem aF4 {w w':World} {F:Nat->Prop} {xs:List Int} {a:Option Addr} {cap:Nat} (h:RInts w F xs a cap) (hex:Same F w w') {i:Nat} (hi:i<xs.length) :
  ∃ x b off,Hid (xs[i]?=some x)/\a=some ⟨b,off,none⟩/\F b/\w'.cell? ⟨b,off+i,none⟩=some (.int .i64 x)/\I64 x:=by
 obtain⟨b,off,ha,hb,vs,hl,⟨rfl,hx⟩,hc⟩:=h.at_ i xs[i] (zD hi);exact⟨xs[i],b,off,Lib.hid (zD hi),ha,hb,hex.cell (p:=⟨b,off+i,none⟩) (by have:=hc 0 _ rfl;simpa using this) hb,hx⟩
theorem aQ1 (w:World) (l:List ByteArray) (hl:∀ s,s∈l->s.size<=9223372036854775807):Asks prog 225 #[] w at9 RStr l isNm:=by
 refine⟨enters_of func225 (by kernel_rfl) rfl,fun s vs W hm hr hW=>?_⟩
 cases hr
 exact ab9 s W (hl s hm)
theorem aW9 (gs:List Int) (j:Nat) (x:Int) (h:gs[j]?=some x):(gs.take (j+1)).sum=(gs.take j).sum+x:=by
 rw [xC,h];simp [vO]
theorem bS5 {α:Type} {p:α->Bool} {xs:List α} {j:Nat} (h:∀ i y,i<j->xs[i]?=some y->p y=true) (hj:xs.length<=j):xs.all p=true:=by
 rw [yA];intro x hx;obtain⟨i,hi⟩:=yO hx;exact h i x (by have:=(zE.1 hi).1;omega) hi
theorem cu7 {α:Type} {p:α->Bool} {xs:List α} {j:Nat} {x:α} (hx:xs[j]?=some x) (hp:p x=false):xs.all p=false:=by
 rw [vT];exact⟨x,zG hx,by simp [hp]⟩
theorem bS6 {α:Type} {xs:List α} {p:α->Bool} {j:Nat} {x:α} (hno:∀ i y,i<j->xs[i]?=some y->p y=true) (hx:xs[j]?=some x) (hp:p x=true) :
  ∀ i y,i<j+1->xs[i]?=some y->p y=true:=fun i y hi hy=>by
 rcases wU i j with h|h
 ·exact hno i y h hy
 ·obtain rfl:i=j:=by omega
  rw [hx] at hy;cases hy;exact hp
theorem bx4 (ws:List ByteArray) (gs:List Int) (w:World) {F:Nat->Prop} {wa ga:Option Addr} {wc gc:Nat} (hw:ay5 w F ws wa wc) (hg:RInts w F gs ga gc)
  (hl:∀ s,s∈ws->s.size<=9223372036854775807) (hgl:gs.length<=1000000) (hwl:ws.length<=1000000) :
  Calls prog 256 #[.slice wa ws.length wc,.slice ga gs.length gc] w fun e w'=>e = .returned (.bool (ag1 ws gs))/\Ex w w':=by
 have HA:=Lib.hid (fun (w':World) (hx:Ex w w')=>bK1 (hw.keep (w':=w') hx.same (fun _ h=>h) (fun _ _ _ h=>h)) (by omega) (aQ1 w' ws hl))
 go_enter func256,ntmps256
 go_wp2
 go_loop [5,10] (fun s i=>∃ j:Nat,j<=gs.length/\i = .int .i64 j/\Hid (∀ i y,i<j->gs[i]?=some y->aa3 y 0 1048576=true)/\∃ t:Int,Hid (t=(gs.take j).sum)/\0<=t/\t<=j*1048576/\s = .int .i64 t) (fun _ i=>gs.length-(intOf i).toNat)
 case atStart=>exact⟨0,by omega,rfl,fun i y h=>by omega,0,by simp [Hid],by omega,by omega,rfl⟩
 case round=>
  obtain⟨j,hj,rfl,hno,t,ht,ht0,ht1,rfl⟩:=hrel;by_cases hlt:j<gs.length
  ·obtain⟨x,b,off,hx,rfl,_,c0,hx1,hx2⟩:=aF4 hg (Ex.refl w).same hlt
   cases hp:aa3 x 0 1048576 with
   | true=>
    have h0:0<=x:=by simp [aa3] at hp;omega
    have h1:x<=1048576:=by simp [aa3] at hp;omega
    have Hi:=Lib.hid (bS6 (p:=fun n=>aa3 n 0 1048576) hno.out hx.out hp);clear hno;have Ht:=Lib.hid (aW9 gs j x hx.out)
    go_wp2_with (go_at_call 189;refine (ab6 _ _ _ _).mono ?_;rintro e w' ⟨rfl,rfl⟩)
    go_round
    case rel=>exact⟨j+1,by omega,by go_num,Hi,t+x,by unfold Hid;rw [Ht.out,ht.out],by omega,by push_cast;omega,rfl⟩
    case measure=>simp [intOf];omega
   | false=>
    have Hr:Hid (ag1 ws gs=false):=Lib.hid (by simp only [ag1,cu7 (p:=fun n=>aa3 n 0 1048576) hx.out hp,Bool.false_and])
    go_wp2_with (go_at_call 189;refine (ab6 _ _ _ _).mono ?_;rintro e w' ⟨rfl,rfl⟩)
    go_ret
    exact⟨ab3 Hr.out.symm,Ex.refl _⟩
  ·have hall:(gs.all fun n=>aa3 n 0 1048576)=true:=bS5 (p:=fun n=>aa3 n 0 1048576) hno.out (by omega);have hsum:t=gs.sum:=by rw [ht.out,yL (by omega)]
   cases h1:aa3 ws.length 1 12 with
   | false=>
    have Hr:Hid (ag1 ws gs=false):=Lib.hid (by simp only [ag1,h1,Bool.false_and,wW]);clear hall hsum
    go_wp2_with (go_at_call 189;refine (ab6 _ _ _ _).mono ?_;rintro e w' ⟨rfl,rfl⟩)
    go_ret
    exact⟨ab3 Hr.out.symm,Ex.refl _⟩
   | true=>
    cases h2:decide (ws.length=gs.length) with
    | false=>
     have Hr:Hid (ag1 ws gs=false):=Lib.hid (by simp only [ag1,h2,Bool.false_and,wW]);have h2':((ws.length:Int)==(gs.length:Int))=false:=by simp at h2 ⊢;omega
     clear hall hsum h2
     go_wp2_with (go_at_call 189;refine (ab6 _ _ _ _).mono ?_;rintro e w' ⟨rfl,rfl⟩)
     go_ret
     exact⟨ab3 Hr.out.symm,Ex.refl _⟩
    | true=>
     have h2':((ws.length:Int)==(gs.length:Int))=true:=by simp at h2 ⊢;omega
     by_cases h3:0<t
     ·have Hr:Hid (ag1 ws gs=ws.all isNm):=Lib.hid (by rw [hsum] at h3;simp only [ag1,hall,h1,h2,Bool.true_and,yJ h3]);clear hall hsum h2
      go_wp2_with (first|(go_at_call 189;refine (ab6 _ _ _ _).mono ?_;rintro e w' ⟨rfl,rfl⟩)|(go_at_call 230;refine (HA.out _ (Ex.refl _)).mono ?_;rintro e w' ⟨rfl,hb⟩))
      go_ret
      exact⟨ab3 Hr.out.symm,hb⟩
     ·have Hr:Hid (ag1 ws gs=false):=Lib.hid (by rw [hsum] at h3;simp only [ag1,yE h3,Bool.false_and,wW]);clear hall hsum h2
      go_wp2_with (go_at_call 189;refine (ab6 _ _ _ _).mono ?_;rintro e w' ⟨rfl,rfl⟩)
      go_ret
      exact⟨ab3 Hr.out.symm,Ex.refl _⟩
theorem cl27 {p:Prop} (h:p:=by first|exact hr1|exact hr2|exact hr3|exact hr4):p:=h
theorem bx3 (r:Rul) (w:World) (hs:SmR r) :
  Calls prog 195 #[.agg #[.string r.name,.string r.kind,.string r.a,.string r.b,.int .i64 r.n]] w fun e w'=>e = .returned (.bool (an5 r))/\Ex w w':=by
 have hr1:=hs.name.le;have hr2:=hs.kind.le;have hr3:=hs.a.le;have hr4:=hs.b.le;have hab:r.a.size+r.b.size<=9223372036854775807:=by have:=hs.a;have:=hs.b;unfold SmS at *;omega
 clear hs;obtain⟨rname,rkind,ra,rb,rn⟩:=r;simp only at *
 cases h1:isNm rname
 ·go_enter func195,ntmps195
  go_wp2_with (first|(go_at_call 225;refine (ab9 _ _ cl27).mono ?_;rintro e w1 ⟨rfl,hb1⟩;(have hq7:=ru7;(try clear hc hf);obtain⟨hb,hc,hf,hz⟩:=hq7;(try simp only [zsz7] at hz);(try have hz0:=z07 w w1);(try have hz1:=z17 w w1);(try have hz2:=z27 w w1)))|(go_at_call 189;refine (ab6 _ _ _ _).mono ?_;rintro e w' ⟨rfl,rfl⟩))
  go_ret
  exact⟨ab3 (by simp [an5,h1]),cl0⟩
 cases h2:isNm rkind
 ·go_enter func195,ntmps195
  go_wp2_with (first|(go_at_call 225;refine (ab9 _ _ cl27).mono ?_;rintro e w1 ⟨rfl,hb1⟩;(have hq7:=ru7;(try clear hc hf);obtain⟨hb,hc,hf,hz⟩:=hq7;(try simp only [zsz7] at hz);(try have hz0:=z07 w w1);(try have hz1:=z17 w w1);(try have hz2:=z27 w w1)))|(go_at_call 189;refine (ab6 _ _ _ _).mono ?_;rintro e w' ⟨rfl,rfl⟩))
  go_ret
  exact⟨ab3 (by simp [an5,h2]),cl0⟩
 cases h3:ra.toList.isEmpty
 all_goals cases h3a:isNm ra
 all_goals cases h4:rb.toList.isEmpty
 all_goals cases h4a:isNm rb
 all_goals
  have h5:=bx7 ra rb;simp only [isE,h3,h4,Bool.and_self,wW,Bool.false_and] at h5
  go_enter func195,ntmps195
  go_wp2_with (first|(go_at_call 225;refine (ab9 _ _ cl27).mono ?_;rintro e w1 ⟨rfl,hb1⟩;(have hq7:=ru7;(try clear hc hf);obtain⟨hb,hc,hf,hz⟩:=hq7;(try simp only [zsz7] at hz);(try have hz0:=z07 w w1);(try have hz1:=z17 w w1);(try have hz2:=z27 w w1)))|(go_at_call 189;refine (ab6 _ _ _ _).mono ?_;rintro e w' ⟨rfl,rfl⟩))
  go_ret
  exact⟨ab3 (by simp [an5,isE,h1,h2,h3,h4,h3a,h4a]),cl0⟩
end
section
open Go.RowKit Go.Shelf
def ah7:List ByteArray->List Int->List (Int ⊕ ByteArray)
 | s::ws,n::gs=>.inr s::.inl n::ah7 ws gs
 | _,_=>[]
theorem aJ2:∀ (ws:List ByteArray) (gs:List Int) (j:Nat) (s:ByteArray) (n:Int),ws[j]?=some s->gs[j]?=some n->ah7 (ws.take (j+1)) (gs.take (j+1))=ah7 (ws.take j) (gs.take j)++[.inr s,.inl n]
 | [],_,j,s,n,h,_=>by simp at h
 | _::_,[],j,s,n,_,h=>by simp at h
 | a::ws,b::gs,0,s,n,h,h'=>by simp at h h';subst h h';simp [ah7]
 | a::ws,b::gs,j+1,s,n,h,h'=>by
  have:=aJ2 ws gs j s n (by simpa using h) (by simpa using h');simp [ah7,this]
theorem aB7:∀ (ws:List ByteArray) (gs:List Int),ws.length=gs.length->(ah7 ws gs).length=2*ws.length
 | [],_,_=>by simp [ah7]
 | _::_,[],h=>by simp at h
 | a::ws,b::gs,h=>by simp [ah7,aB7 ws gs (by simpa using h)];omega
theorem be0:∀ (ws:List ByteArray) (gs:List Int),ws.length=gs.length->ac0 (ah7 ws gs)=(ws.map fun s=>1+s.size).sum+(gs.map fun n=>1+intB n).sum
 | [],[],_=>by simp [ah7,ac0]
 | [],_::_,h=>by simp at h
 | _::_,[],h=>by simp at h
 | a::ws,b::gs,h=>by
  have:=be0 ws gs (by simpa using h);simp only [ac0,ah7,List.map_cons,List.sum_cons,au0] at *;omega
theorem aP0:∀ (ws:List ByteArray) (gs:List Int),(∀ n,n∈gs->I64 n)->∀ n,Sum.inl n∈ah7 ws gs->I64 n
 | [],_,_,n,h=>by simp [ah7] at h
 | _::_,[],_,n,h=>by simp [ah7] at h
 | a::ws,b::gs,hg,n,h=>by
  simp only [ah7,zU] at h;rcases h with h|h|h
  ·cases h
  ·cases h;exact hg _ (yN ..)
  ·exact aP0 ws gs (fun m hm=>hg m (yQ _ hm)) n h
theorem aV4 (l:List (Int ⊕ ByteArray)):cellsOf (fun x=>[anyV x]) l=l.map anyV:=by
 induction l with
 | nil=>rfl
 | cons x l ih=>simp only [cellsOf,List.flatMap_cons,List.map_cons] at *;rw [ih];rfl
theorem bG6:(prog.info? 20).map (fun i=>(i.zero,i.size,i.bytes))=some (some .nilIface,1,16):=by kernel_rfl
theorem RInts.i64 {w:World} {F:Nat->Prop} {xs:List Int} {a:Option Addr} {c:Nat} (h:RInts w F xs a c):∀ n,n∈xs->I64 n:=fun n hn=>by
 obtain⟨i,hi⟩:=yO hn;obtain⟨b,off,_,_,vs,_,⟨_,hx⟩,_⟩:=h.at_ i n hi;exact hx
theorem ca4 (w:World) (x y:Value) (t:TypeId):∀ j u,[x,y][j]?=some u->(w.alloc (.cells #[x,y] t)).cell? ((⟨w.heap.size,0,none⟩:Addr).add j)=some u:=by
 intro j u hj
 match j,hj with
 | 0,hj=>simp at hj;subst hj;simp [Addr.add]
 | 1,hj=>simp at hj;subst hj;simp [Addr.add]
theorem ca3 (a b:Int ⊕ ByteArray):∀ u∈[anyV a,anyV b],u.oneCell'=true:=by
 cases a<;>cases b<;>simp [anyV,Value.oneCell']
def ai2 (n:ByteArray) (ws:List ByteArray) (gs:List Int) (j:Nat):List (Int ⊕ ByteArray):=Sum.inr n::Sum.inl (ws.length:Int)::ah7 (ws.take j) (gs.take j)
theorem aK1 (n:ByteArray) (ws:List ByteArray) (gs:List Int) (j:Nat) (h:ws.length=gs.length) (hj:j<=ws.length):(ai2 n ws gs j).length=2+2*j:=by
 simp only [ai2,List.length_cons];rw [aB7 _ _ (by simp [h])];simp;omega
theorem aS2 (n:ByteArray) (ws:List ByteArray) (gs:List Int) (j:Nat) (s:ByteArray) (g:Int) (h:ws[j]?=some s) (h':gs[j]?=some g):ai2 n ws gs (j+1)=ai2 n ws gs j++[.inr s,.inl g]:=by
 simp only [ai2,aJ2 ws gs j s g h h',List.cons_append]
theorem cg2 (n o u:ByteArray) (lo hi:Int) (ws:List ByteArray) (gs:List Int) (w:World) {F:Nat->Prop} (wa ga:Option Addr) (cw cg:Nat) (hws:ay5 w F ws wa cw) (hgs:RInts w F gs ga cg) (hlen:ws.length=gs.length) (hl:ws.length<=1000) (hr1:n.size<=1000000)
  (hb:ac0 (ah7 ws gs)<=1000000) (hp:Pow10 w) (hwd:WordsAt w) :
  Calls prog 235 #[.agg #[.string n,.string o,.string u,.int .i64 3,.int .i64 lo,.int .i64 hi,.slice wa ws.length cw,.slice ga gs.length cg]] w
   fun e w'=>∃ s:ByteArray,e = .returned (.string s)/\s.size<=7+n.size+intB ws.length+ac0 (ah7 ws gs)/\Ex w w':=by
 have c0:=hwd 3 _ rfl;have lB:3<w.heap.size:=World.block_lt_of_cell? _ _ c0;obtain⟨i0,hiA,hzA,hz1,hz2⟩:=info_parts bG6;have HE:=Lib.hid hlen;have HBB:=Lib.hid hb;clear hlen hb
 go_enter func235,ntmps235
 go_wp2
 go_loopw [4,51] (fun s4 i wr=>∃ (j:Nat),j<=ws.length/\i = .int .i64 j/\Ex (w.alloc (.cells #[.string n,.string o,.string u,.int .i64 3,.int .i64 lo,.int .i64 hi,.slice wa ws.length cw,.slice ga gs.length cg] 97)) wr /\
  Hid (wr.ownsRow (w.heap.size+1) 20 1 s4 (2+2*j) ((ai2 n ws gs j).map anyV))) (fun _ i _=>ws.length-(intOf i).toNat)
 case atStart=>
  refine⟨0,by omega,rfl,cl0,?_⟩;have:=World.ownsRow_lit (base:=w.heap.size+1) (e:=20) (size:=1) (w.alloc (.cells #[.string n,.string o,.string u,.int .i64 3,.int .i64 lo,.int .i64 hi,.slice wa ws.length cw,.slice ga gs.length cg] 97)) #[anyV (.inr n),anyV (.inl ws.length)] 2 (by simp) (by decide) rfl
  simpa [ai2,ah7,Hid,anyV] using this
 case round=>
  obtain⟨j,hj,rfl,hex,hown⟩:=hrel;obtain⟨hc,hf⟩:=hex.rules;have hz:=hex.size;simp only [World.size_alloc] at hz;have hz0:w.heap.size<wr.heap.size:=by omega
  have hexw:=((Ex.refl w).alloc (o:=.cells #[.string n,.string o,.string u,.int .i64 3,.int .i64 lo,.int .i64 hi,.slice wa ws.length cw,.slice ga gs.length cg] 97)).trans hex;obtain⟨a4,cap4,rfl⟩:=aA8 hown.out;by_cases hlt:j<ws.length
  ·obtain⟨s,b,off,hs,rfl,_,c1,_⟩:=av6 hws hexw.same hlt;have hlt2:j<gs.length:=by rw [← HE.out];exact hlt
   obtain⟨g,b2,off2,hg,rfl,_,c2,hgi⟩:=aF4 hgs hexw.same hlt2;have hs1:b<wr.heap.size:=World.block_lt_of_cell? _ _ c1;have hs2:b2<wr.heap.size:=World.block_lt_of_cell? _ _ c2;have i2:(j:Int)<gs.length:=by omega
   have Hs:=Lib.hid (aS2 n ws gs j s g hs.out hg.out)
   go_wp2_with (at_builtin;refine wpList_append_own_at _ rfl _ _ 320 rfl (w.heap.size+1) 20 i0 .nilIface 1 16 underlying320 hiA hzA hz1 hz2 rfl (by decide) (.slice a4 (2+2*j) cap4) _ _ rfl (hown.out.alloc _) ⟨wr.heap.size,0,none⟩ 2 2 [anyV (.inr s),anyV (.inl g)] rfl rfl ?c1 ?c2 ?c3 ?c4 ?c5 ?_)
   case c1=>exact ca4 _ _ _ _
   case c2=>exact ca3 _ _
   case c3=>unfold maxLen;omega
   case c4=>omega
   case c5=>simp;omega
   intro v' w2 hown' hgrow _ hat;have hex2:=Ex.appended (hex.alloc (o:=.cells #[anyV (.inr s),anyV (.inl g)] 20)) (hown.out.alloc _) (by simp) hgrow;have HO:Hid (w2.ownsRow (w.heap.size+1) 20 1 v' (2+2*(j+1)) ((ai2 n ws gs (j+1)).map anyV)):=by
    unfold Hid;rw [Hs.out,yB];rw [show 2+2*(j+1)=2+2*j+2 from by omega];exact hown'
   clear hown' hgrow hat hown;obtain⟨a5,cap5,rfl⟩:=aA8 HO.out
   go_wp2
   go_roundw
   case rel=>exact⟨j+1,by omega,by go_num,hex2,HO⟩
   case measure=>simp [intOf];omega
  ·obtain rfl:j=ws.length:=by omega
   have hpl:=aK1 n ws gs ws.length HE.out (zT _);have hpi:ai2 n ws gs ws.length=Sum.inr n::Sum.inl (ws.length:Int)::ah7 ws gs:=by
    rw [ai2,yL (zT _),yL (by rw [HE.out];exact zT _)]
   have hi64:∀ m,Sum.inl m∈ai2 n ws gs ws.length->I64 m:=by
    rw [hpi];intro m hm;simp only [zU] at hm;rcases hm with h|h|h
    ·cases h
    ·cases h;unfold I64;omega
    ·exact aP0 ws gs (RInts.i64 hgs) m h
   obtain⟨a6,cap6,hv6,hrow⟩:=aO0 (C:=fun x=>[anyV x]) (R:=RAny) (xs:=ai2 n ws gs ws.length) hpl.symm (by rw [aV4];exact hown.out) (fun _ _=>rfl) (fun x hx=>by
    cases x with
    | inl m=>exact⟨rfl,hi64 m hx⟩
    | inr t=>rfl)
   rw [hpl] at hv6
   cases hv6
   have hB:ac0 (ai2 n ws gs ws.length)=1+n.size+(1+intB ws.length)+ac0 (ah7 ws gs):=by
    rw [hpi];simp only [ac0,List.map_cons,List.sum_cons,au0];omega
   have hib:=af5 (ws.length:Int);have HLn:=Lib.hid (ba3 ⟨#[112,105,99,107]⟩ (ai2 n ws gs ws.length) wr hrow (hp.ex hexw) (by rw [hpl];omega) (by rw [hB];have:=HBB.out;show 4+_<=_;omega));rw [hpl,hB] at HLn;clear hpl hpi hi64 hrow hB hown
   go_wp2_with (go_at_call 234;refine HLn.out.mono ?_;rintro e w1 ⟨s,rfl,hs,hb1⟩)
   go_ret
   refine⟨s,rfl,?_,hexw.trans hb1⟩;have hs':s.size<=4+(1+n.size+(1+intB ↑ws.length)+ac0 (ah7 ws gs))+1:=hs;omega
end
section
open Go.RowKit Go.Shelf
theorem bf4 (w:World) (l:List (Int × Int)) (B n:Nat) (hn:n<=1000000) (hB:w.cell? ⟨B,0,none⟩=some (.int .i64 n)) :
  Asks prog 232 #[.pointer (some ⟨B,0,none⟩)] w ai4 RTwo l (aP6 n):=by
 refine⟨enters_of func232 (by kernel_rfl) rfl,fun m vs W hm hr hW=>?_⟩;obtain⟨rfl,h1,h2⟩:=hr;have c0:=hW.cell hB;have lB:B<W.heap.size:=World.block_lt_of_cell? _ _ c0;obtain⟨m1,m2⟩:=m;simp only at h1 h2
 show Calls _ _ #[.agg #[.int .i64 m1,.int .i64 m2],.pointer (some ⟨B,0,none⟩)] _ _
 cases h:aa3 m1 0 (n-1)
 all_goals
  go_enter func232,ntmps232
  go_wp2_with ((go_at_call 189;refine (ab6 _ _ _ _).mono ?_;rintro e w1 ⟨rfl,rfl⟩))
  go_ret
  exact⟨ab3 (by simp [aP6,h]),cl0⟩
theorem bx5 (x:Lif) (w:World) {F:Nat->Prop} {sa ma:Option Addr} {sc mc:Nat} (hs:ay5 w F x.tz sa sc) (hm:cu9 w F x.mz ma mc) (hx:SmL x) :
  Calls prog 193 #[.agg #[.string x.name,.slice sa x.tz.length sc,.slice ma x.mz.length mc]] w fun e w'=>e = .returned (.bool (ag2 x))/\Ex w w':=by
 have hn:=hx.name.le;have hl1:=hx.nstates;have hl2:=hx.nmoves;have HS:=Lib.hid (fun (w':World) (he:Ex w w')=>bK1 (hs.keep (w':=w') he.same (fun _ h=>h) (fun _ _ _ h=>h)) (by omega) (aQ1 w' x.tz (fun s h=>(hx.tz s h).le)));have HT:=Lib.hid (fun (w':World) B (he:Ex w w') hB=>ci0 (hm.keep (w':=w') he.same (fun _ h=>h) (fun _ _ _ h=>h)) (by omega) (bf4 w' x.mz B x.tz.length hl1 hB));clear hx hs hm;obtain⟨name,tz,mz⟩:=x;simp only at *
 cases h1:isNm name
 ·go_enter func193,ntmps193;go_wp2_with (first|(go_at_call 225;refine (ab9 _ _ hn).mono ?_;rintro e w1 ⟨rfl,hb1⟩;(have hq7:=ru7;(try clear hc hf);obtain⟨hb,hc,hf,hz⟩:=hq7;(try simp only [zsz7] at hz);(try have hz0:=z07 w w1);(try have hz1:=z17 w w1);(try have hz2:=z27 w w1)))|(go_at_call 189;refine (ab6 _ _ _ _).mono ?_;rintro e w1 ⟨rfl,rfl⟩)|(go_at_call 230;refine (HS.out _ cl0).mono ?_;rintro e w1 ⟨rfl,hb1⟩;(have hq7:=ru7;(try clear hc hf);obtain⟨hb,hc,hf,hz⟩:=hq7;(try simp only [zsz7] at hz);(try have hz0:=z07 w w1);(try have hz1:=z17 w w1);(try have hz2:=z27 w w1)))|(go_at_call 231;refine (HT.out _ _ cl0 (by simp [*])).mono ?_;rintro e w1 ⟨rfl,hb1⟩;(have hq7:=ru7;(try clear hc hf);obtain⟨hb,hc,hf,hz⟩:=hq7;(try simp only [zsz7] at hz);(try have hz0:=z07 w w1);(try have hz1:=z17 w w1);(try have hz2:=z27 w w1))));go_ret
  exact⟨ab3 (by simp [ag2,h1]),cl0⟩
 cases h2:aa3 tz.length 1 12
 ·go_enter func193,ntmps193;go_wp2_with (first|(go_at_call 225;refine (ab9 _ _ hn).mono ?_;rintro e w1 ⟨rfl,hb1⟩;(have hq7:=ru7;(try clear hc hf);obtain⟨hb,hc,hf,hz⟩:=hq7;(try simp only [zsz7] at hz);(try have hz0:=z07 w w1);(try have hz1:=z17 w w1);(try have hz2:=z27 w w1)))|(go_at_call 189;refine (ab6 _ _ _ _).mono ?_;rintro e w1 ⟨rfl,rfl⟩)|(go_at_call 230;refine (HS.out _ cl0).mono ?_;rintro e w1 ⟨rfl,hb1⟩;(have hq7:=ru7;(try clear hc hf);obtain⟨hb,hc,hf,hz⟩:=hq7;(try simp only [zsz7] at hz);(try have hz0:=z07 w w1);(try have hz1:=z17 w w1);(try have hz2:=z27 w w1)))|(go_at_call 231;refine (HT.out _ _ cl0 (by simp [*])).mono ?_;rintro e w1 ⟨rfl,hb1⟩;(have hq7:=ru7;(try clear hc hf);obtain⟨hb,hc,hf,hz⟩:=hq7;(try simp only [zsz7] at hz);(try have hz0:=z07 w w1);(try have hz1:=z17 w w1);(try have hz2:=z27 w w1))));go_ret
  exact⟨ab3 (by simp [ag2,h2]),cl0⟩
 cases h3:tz.all isNm
 ·go_enter func193,ntmps193;go_wp2_with (first|(go_at_call 225;refine (ab9 _ _ hn).mono ?_;rintro e w1 ⟨rfl,hb1⟩;(have hq7:=ru7;(try clear hc hf);obtain⟨hb,hc,hf,hz⟩:=hq7;(try simp only [zsz7] at hz);(try have hz0:=z07 w w1);(try have hz1:=z17 w w1);(try have hz2:=z27 w w1)))|(go_at_call 189;refine (ab6 _ _ _ _).mono ?_;rintro e w1 ⟨rfl,rfl⟩)|(go_at_call 230;refine (HS.out _ cl0).mono ?_;rintro e w1 ⟨rfl,hb1⟩;(have hq7:=ru7;(try clear hc hf);obtain⟨hb,hc,hf,hz⟩:=hq7;(try simp only [zsz7] at hz);(try have hz0:=z07 w w1);(try have hz1:=z17 w w1);(try have hz2:=z27 w w1)))|(go_at_call 231;refine (HT.out _ _ cl0 (by simp [*])).mono ?_;rintro e w1 ⟨rfl,hb1⟩;(have hq7:=ru7;(try clear hc hf);obtain⟨hb,hc,hf,hz⟩:=hq7;(try simp only [zsz7] at hz);(try have hz0:=z07 w w1);(try have hz1:=z17 w w1);(try have hz2:=z27 w w1))));go_ret
  exact⟨ab3 (by simp [ag2,h3]),cl0⟩
 by_cases h4:(mz.length:Int)<=32
 ·have HR:Hid (ag2 ⟨name,tz,mz⟩=mz.all (aP6 tz.length)):=Lib.hid (by simp [ag2,h1,h2,h3];intro;omega)
  go_enter func193,ntmps193;go_wp2_with (first|(go_at_call 225;refine (ab9 _ _ hn).mono ?_;rintro e w1 ⟨rfl,hb1⟩;(have hq7:=ru7;(try clear hc hf);obtain⟨hb,hc,hf,hz⟩:=hq7;(try simp only [zsz7] at hz);(try have hz0:=z07 w w1);(try have hz1:=z17 w w1);(try have hz2:=z27 w w1)))|(go_at_call 189;refine (ab6 _ _ _ _).mono ?_;rintro e w1 ⟨rfl,rfl⟩)|(go_at_call 230;refine (HS.out _ cl0).mono ?_;rintro e w1 ⟨rfl,hb1⟩;(have hq7:=ru7;(try clear hc hf);obtain⟨hb,hc,hf,hz⟩:=hq7;(try simp only [zsz7] at hz);(try have hz0:=z07 w w1);(try have hz1:=z17 w w1);(try have hz2:=z27 w w1)))|(go_at_call 231;refine (HT.out _ _ cl0 (by simp [*])).mono ?_;rintro e w1 ⟨rfl,hb1⟩;(have hq7:=ru7;(try clear hc hf);obtain⟨hb,hc,hf,hz⟩:=hq7;(try simp only [zsz7] at hz);(try have hz0:=z07 w w1);(try have hz1:=z17 w w1);(try have hz2:=z27 w w1))));go_ret
  exact⟨ab3 HR.out.symm,cl0⟩
 ·go_enter func193,ntmps193;go_wp2_with (first|(go_at_call 225;refine (ab9 _ _ hn).mono ?_;rintro e w1 ⟨rfl,hb1⟩;(have hq7:=ru7;(try clear hc hf);obtain⟨hb,hc,hf,hz⟩:=hq7;(try simp only [zsz7] at hz);(try have hz0:=z07 w w1);(try have hz1:=z17 w w1);(try have hz2:=z27 w w1)))|(go_at_call 189;refine (ab6 _ _ _ _).mono ?_;rintro e w1 ⟨rfl,rfl⟩)|(go_at_call 230;refine (HS.out _ cl0).mono ?_;rintro e w1 ⟨rfl,hb1⟩;(have hq7:=ru7;(try clear hc hf);obtain⟨hb,hc,hf,hz⟩:=hq7;(try simp only [zsz7] at hz);(try have hz0:=z07 w w1);(try have hz1:=z17 w w1);(try have hz2:=z27 w w1)))|(go_at_call 231;refine (HT.out _ _ cl0 (by simp [*])).mono ?_;rintro e w1 ⟨rfl,hb1⟩;(have hq7:=ru7;(try clear hc hf);obtain⟨hb,hc,hf,hz⟩:=hq7;(try simp only [zsz7] at hz);(try have hz0:=z07 w w1);(try have hz1:=z17 w w1);(try have hz2:=z27 w w1))));go_ret
  exact⟨ab3 (by simp [ag2];intros;omega),cl0⟩
def av4 {α:Type} (eq:α->α->Bool):List α->List α->Bool
 | [],[]=>true
 | x::xs,y::ys=>eq x y&&av4 eq xs ys
 | _,_=>false
theorem aR2 {α:Type} {eq:α->α->Bool}:∀ {xs ys:List α},xs.length≠ys.length->av4 eq xs ys=false
 | [],[],h=>absurd rfl h
 | [],_::_,_=>rfl
 | _::_,[],_=>rfl
 | x::xs,y::ys,h=>by simp only [av4,aR2 (eq:=eq) (xs:=xs) (ys:=ys) (by simpa using h),wW]
theorem aR1 {α:Type} {eq:α->α->Bool}:∀ {xs ys:List α},xs.length=ys.length->(∀ (i:Nat) x y,xs[i]?=some x->ys[i]?=some y->eq x y=true)->av4 eq xs ys=true
 | [],[],_,_=>rfl
 | [],_::_,h,_=>by simp at h
 | _::_,[],h,_=>by simp at h
 | x::xs,y::ys,h,he=>by
  simp only [av4,he 0 x y rfl rfl,Bool.true_and];exact aR1 (by simpa using h) (fun i x' y' hx hy=>he (i+1) x' y' (by simpa using hx) (by simpa using hy))
theorem bb4 {α:Type} {eq:α->α->Bool}:∀ {xs ys:List α} {i:Nat} {x y:α},xs[i]?=some x->ys[i]?=some y->eq x y=false->av4 eq xs ys=false
 | [],_,i,x,y,hx,_,_=>by simp at hx
 | _::_,[],i,x,y,_,hy,_=>by simp at hy
 | a::xs,b::ys,0,x,y,hx,hy,he=>by simp at hx hy;subst hx hy;simp [av4,he]
 | a::xs,b::ys,i+1,x,y,hx,hy,he=>by
  have:=bb4 (xs:=xs) (ys:=ys) (i:=i) (by simpa using hx) (by simpa using hy) he;simp [av4,this]
def ieq (x y:Int):Bool:=x==y
theorem bH5 {w:World} {F G:Nat->Prop} {xs ys:List Int} {a a':Option Addr} {c c':Nat} (hx:RInts w F xs a c) (hy:RInts w G ys a' c') (hl:xs.length<=140737488355328) (hl2:ys.length<=140737488355328) :
  Calls prog 47 #[.slice a xs.length c,.slice a' ys.length c'] w fun e w'=>e = .returned (.bool (av4 ieq xs ys))/\Ex w w':=by
 by_cases hlen:(xs.length:Int)=ys.length
 ·have he:xs.length=ys.length:=by omega
  have hlen':((xs.length:Int)==(ys.length:Int))=true:=by simp;omega
  have hlen2:((xs.length:Int) != (ys.length:Int))=false:=by simp;omega
  clear hlen;have HE:=Lib.hid he;clear he hlen'
  go_enter func47,ntmps47
  go_wp2
  clear hlen2
  go_loopw [13] (fun i wr=>∃ j:Nat,j<=xs.length/\i = .int .i64 j/\Hid (∀ i x y,i<j->xs[i]?=some x->ys[i]?=some y->ieq x y=true)/\Ex w wr) (fun i _=>xs.length-(intOf i).toNat)
  case atStart=>exact⟨0,by omega,rfl,fun i x y h=>by omega,Ex.refl _⟩
  case round=>
   obtain⟨j,hj,rfl,hno,hex⟩:=hrel;by_cases hlt:j<xs.length
   ·obtain⟨x,b,off,hxx,rfl,_,c0,_⟩:=aF4 hx hex.same hlt;have hlt2:j<ys.length:=by rw [← HE.out];exact hlt
    obtain⟨y,b2,off2,hyy,rfl,_,c1,_⟩:=aF4 hy hex.same hlt2;have i1:(j:Int)<xs.length:=by omega
    have i2:(j:Int)<ys.length:=by omega
    cases he:ieq x y with
    | true=>
     have Hi:=Lib.hid (fun i x' y' (hi:i<j+1) (hx':xs[i]?=some x') (hy':ys[i]?=some y')=>show ieq x' y'=true from by
      rcases wU i j with h|h
      ·exact hno.out i x' y' h hx' hy'
      ·obtain rfl:i=j:=by omega
       rw [hxx.out] at hx';rw [hyy.out] at hy';cases hx';cases hy';exact he)
     have e1:(x != y)=false:=by unfold ieq at he;simp at he;simp [he]
     clear hno he
     go_wp2
     go_quiet (fail)
     go_wp2
     go_roundw
     case rel=>exact⟨j+1,by omega,by go_num,Hi,cl0⟩
     case measure=>simp [intOf];omega
    | false=>
     have HR:=Lib.hid (bb4 hxx.out hyy.out he);have e1:(x != y)=true:=by unfold ieq at he;simp at he;simp [he]
     clear hno he
     go_wp2
     go_quiet (fail)
     go_wp2
     go_ret
     exact⟨ab3 HR.out.symm,cl0⟩
   ·have HR:=Lib.hid (aR1 HE.out (fun i x y h1 h2=>hno.out i x y (by have:=(zE.1 h1).1;omega) h1 h2));clear hno
    go_wp2
    go_ret
    exact⟨ab3 HR.out.symm,cl0⟩
 ·have HR:=Lib.hid (aR2 (eq:=ieq) (xs:=xs) (ys:=ys) (by omega));have hlen2:((xs.length:Int) != (ys.length:Int))=true:=by simp;omega
  clear hlen
  go_enter func47,ntmps47
  go_wp2
  go_ret
  exact⟨ab3 HR.out.symm,cl0⟩
theorem bH4 {w:World} {F G:Nat->Prop} {xs ys:List ByteArray} {a a':Option Addr} {c c':Nat} (hx:ay5 w F xs a c) (hy:ay5 w G ys a' c') (hl:xs.length<=140737488355328) (hl2:ys.length<=140737488355328) :
  Calls prog 263 #[.slice a xs.length c,.slice a' ys.length c'] w fun e w'=>e = .returned (.bool (av4 seq xs ys))/\Ex w w':=by
 by_cases hlen:(xs.length:Int)=ys.length
 ·have he:xs.length=ys.length:=by omega
  have hlen':((xs.length:Int)==(ys.length:Int))=true:=by simp;omega
  have hlen2:((xs.length:Int) != (ys.length:Int))=false:=by simp;omega
  clear hlen;have HE:=Lib.hid he;clear he hlen'
  go_enter func263,ntmps263
  go_wp2
  clear hlen2
  go_loopw [13] (fun i wr=>∃ j:Nat,j<=xs.length/\i = .int .i64 j/\Hid (∀ i x y,i<j->xs[i]?=some x->ys[i]?=some y->seq x y=true)/\Ex w wr) (fun i _=>xs.length-(intOf i).toNat)
  case atStart=>exact⟨0,by omega,rfl,fun i x y h=>by omega,Ex.refl _⟩
  case round=>
   obtain⟨j,hj,rfl,hno,hex⟩:=hrel;by_cases hlt:j<xs.length
   ·obtain⟨x,b,off,hxx,rfl,_,c0,_⟩:=av6 hx hex.same hlt;have hlt2:j<ys.length:=by rw [← HE.out];exact hlt
    obtain⟨y,b2,off2,hyy,rfl,_,c1,_⟩:=av6 hy hex.same hlt2;have i1:(j:Int)<xs.length:=by omega
    have i2:(j:Int)<ys.length:=by omega
    cases he:seq x y with
    | true=>
     have Hi:=Lib.hid (fun i x' y' (hi:i<j+1) (hx':xs[i]?=some x') (hy':ys[i]?=some y')=>show seq x' y'=true from by
      rcases wU i j with h|h
      ·exact hno.out i x' y' h hx' hy'
      ·obtain rfl:i=j:=by omega
       rw [hxx.out] at hx';rw [hyy.out] at hy';cases hx';cases hy';exact he)
     have e1:(x.toList==y.toList)=true:=he;clear hno he
     go_wp2
     go_quiet (fail)
     go_wp2
     go_roundw
     case rel=>exact⟨j+1,by omega,by go_num,Hi,cl0⟩
     case measure=>simp [intOf];omega
    | false=>
     have HR:=Lib.hid (bb4 hxx.out hyy.out he);have e1:(x.toList==y.toList)=false:=he;clear hno he
     go_wp2
     go_quiet (fail)
     go_wp2
     go_ret
     exact⟨ab3 HR.out.symm,cl0⟩
   ·have HR:=Lib.hid (aR1 HE.out (fun i x y h1 h2=>hno.out i x y (by have:=(zE.1 h1).1;omega) h1 h2));clear hno
    go_wp2
    go_ret
    exact⟨ab3 HR.out.symm,cl0⟩
 ·have HR:=Lib.hid (aR2 (eq:=seq) (xs:=xs) (ys:=ys) (by omega));have hlen2:((xs.length:Int) != (ys.length:Int))=true:=by simp;omega
  clear hlen
  go_enter func263,ntmps263
  go_wp2
  go_ret
  exact⟨ab3 HR.out.symm,cl0⟩
end
end Go.Proofs.YtlcfiilejnnlnaaGreatDoor
