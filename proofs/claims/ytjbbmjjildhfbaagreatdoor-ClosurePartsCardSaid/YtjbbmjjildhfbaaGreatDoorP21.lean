/- A part of the proof: SchemaF SchemaG SrcE SrcF Valid. -/
import Derived.Test.YtjbbmjjildhfbaaGreatDoorP20
import Derived.Deep.DeepCutAuto
import Derived.Deep.RegionHeld3
set_option maxRecDepth 100000
set_option maxHeartbeats 4000000
set_option linter.unusedVariables false
set_option linter.unusedSimpArgs false
namespace Go.Proofs.YtjbbmjjildhfbaaGreatDoor
section
open Go.RowKit Go.Shelf
def aE4 (k:Int) (o u:ByteArray) (lo hi:Int) (pk:Bool):Bool:=
   if k=0 then ab5 lo (-1048576) 1048576
   else if k=1 then isNm o && an2 lo hi 0 65536
   else if k=2 then an2 lo hi (-1048576) 1048576
   else if k=3 then pk
   else if k=4 then (isE o || isNm o) && an2 lo hi (-1048576) 1048576
   else if k=5 then isNm o && an2 lo hi 0 32
   else if k=6 then isNm o
   else if k=7 then isNm o && isNm u && an2 lo hi 0 1048576
   else if k=8 then isNm o && isNm u
   else false
theorem isField_3 (k:Int) (n o u:ByteArray) (lo hi:Int) (nw ng:Nat) (w:World) (wa ga:Option Addr) (cw cg:Nat) (fo:Fld) (RW RG:World→Option Addr→Nat→Prop) (hr1:n.size≤9223372036854775807) (hr2:o.size≤9223372036854775807) (hr3:u.size≤9223372036854775807) (pk:Bool) (HP:Hid (∀ w',Ex w w'→Calls Tryz.prog 160 #[.slice wa nw cw,.slice ga ng cg] w' fun e w2=>e = .returned (.bool pk)∧Ex w' w2))
  (HA:aK4 n o u k lo hi nw ng true w wa ga cw cg fo RW RG) (h1:isNm n=true) :
  Calls Tryz.prog 132 #[.agg #[.string n,.string o,.string u,.int .i64 k,.int .i64 lo,.int .i64 hi,.slice wa nw cw,.slice ga ng cg]] w fun e w'=>e = .returned (.bool (aE4 k o u lo hi pk))∧Ex w w':=by
 go_enter Tryz.func132,Tryz.ntmps132
 go_upto_region 1 with fail
 go_cut [13] (fun s13 wx=>s13 = .bool false∧Ex (w.alloc (.cells #[.string n,.string o,.string u,.int .i64 k,.int .i64 lo,.int .i64 hi,.slice wa nw cw,.slice ga ng cg] 111)) wx)
 case first=>
  go_region_with (first|(go_at_call 129;refine (ab7 _ _ (by first|exact hr1|exact hr2|exact hr3)).mono ?_;rintro e w1 ⟨rfl,hb1⟩;(have hq7:=ru7;(try clear hc hf);obtain ⟨hb,hc,hf,hz⟩:=hq7;(try simp only [zsz7] at hz);(try have hz0:=z07 w w1);(try have hz1:=z17 w w1);(try have hz2:=z27 w w1)))|(go_at_call 159;refine (HA.only _ cl0).mono ?_;rintro e w1 ⟨wa1,wc1,ga1,gc1,rfl,hb1,hw1⟩;(have hq7:=ru7;(try clear hc hf);obtain ⟨hb,hc,hf,hz⟩:=hq7;(try simp only [zsz7] at hz);(try have hz0:=z07 w w1);(try have hz1:=z17 w w1);(try have hz2:=z27 w w1)))|(go_at_call 158;refine (HA.same _ _ _ _ _ cl0 hw1.out.1 hw1.out.2).mono ?_;rintro e w1 ⟨rfl,hb1⟩;(have hq7:=ru7;(try clear hc hf);obtain ⟨hb,hc,hf,hz⟩:=hq7;(try simp only [zsz7] at hz);(try have hz0:=z07 w w1);(try have hz1:=z17 w w1);(try have hz2:=z27 w w1))))
  all_goals (go_wp2_with fail;go_meet;exact ⟨rfl,cl0⟩)
 case rest=>
  obtain ⟨rfl,hb⟩:=hcut
  obtain ⟨hc,hf⟩:=hb.rules
  have hz:=hb.size
  simp only [World.size_alloc] at hz
  have hz0:w.heap.size<wc.heap.size:=by omega
  by_cases q0:k=0
  ·subst q0
   go_wp2_with (first|(go_at_call 129;refine (ab7 _ _ (by first|exact hr1|exact hr2|exact hr3)).mono ?_;rintro e w1 ⟨rfl,hb1⟩;(have hq7:=ru7;(try clear hc hf);obtain ⟨hb,hc,hf,hz⟩:=hq7;(try simp only [zsz7] at hz);(try have hz0:=z07 w w1);(try have hz1:=z17 w w1);(try have hz2:=z27 w w1)))|(go_at_call 107;refine (ab1 _ _ _ _).mono ?_;rintro e w2 ⟨rfl,rfl⟩)|(go_at_call 130;refine (ah7 _ _ _ _ _).mono ?_;rintro e w2 ⟨rfl,rfl⟩));go_ret;exact ⟨aa8 (by simp [aE4]),cl0⟩
  by_cases q1:k=1
  ·subst q1
   cases h2:isNm o
   all_goals (go_wp2_with (first|(go_at_call 129;refine (ab7 _ _ (by first|exact hr1|exact hr2|exact hr3)).mono ?_;rintro e w1 ⟨rfl,hb1⟩;(have hq7:=ru7;(try clear hc hf);obtain ⟨hb,hc,hf,hz⟩:=hq7;(try simp only [zsz7] at hz);(try have hz0:=z07 w w1);(try have hz1:=z17 w w1);(try have hz2:=z27 w w1)))|(go_at_call 107;refine (ab1 _ _ _ _).mono ?_;rintro e w2 ⟨rfl,rfl⟩)|(go_at_call 130;refine (ah7 _ _ _ _ _).mono ?_;rintro e w2 ⟨rfl,rfl⟩));go_ret;exact ⟨aa8 (by simp [aE4,h2]),cl0⟩)
  by_cases q2:k=2
  ·subst q2
   go_wp2_with (first|(go_at_call 129;refine (ab7 _ _ (by first|exact hr1|exact hr2|exact hr3)).mono ?_;rintro e w1 ⟨rfl,hb1⟩;(have hq7:=ru7;(try clear hc hf);obtain ⟨hb,hc,hf,hz⟩:=hq7;(try simp only [zsz7] at hz);(try have hz0:=z07 w w1);(try have hz1:=z17 w w1);(try have hz2:=z27 w w1)))|(go_at_call 107;refine (ab1 _ _ _ _).mono ?_;rintro e w2 ⟨rfl,rfl⟩)|(go_at_call 130;refine (ah7 _ _ _ _ _).mono ?_;rintro e w2 ⟨rfl,rfl⟩));go_ret;exact ⟨aa8 (by simp [aE4]),cl0⟩
  by_cases q3:k=3
  ·subst q3
   go_wp2_with (first|(go_at_call 129;refine (ab7 _ _ (by first|exact hr1|exact hr2|exact hr3)).mono ?_;rintro e w1 ⟨rfl,hb1⟩;(have hq7:=ru7;(try clear hc hf);obtain ⟨hb,hc,hf,hz⟩:=hq7;(try simp only [zsz7] at hz);(try have hz0:=z07 w w1);(try have hz1:=z17 w w1);(try have hz2:=z27 w w1)))|(go_at_call 107;refine (ab1 _ _ _ _).mono ?_;rintro e w2 ⟨rfl,rfl⟩)|(go_at_call 130;refine (ah7 _ _ _ _ _).mono ?_;rintro e w2 ⟨rfl,rfl⟩)|(go_at_call 160;refine (HP.out _ cl0).mono ?_;rintro e w1 ⟨rfl,hb1⟩;(have hq7:=ru7;(try clear hc hf);obtain ⟨hb,hc,hf,hz⟩:=hq7;(try simp only [zsz7] at hz);(try have hz0:=z07 w w1);(try have hz1:=z17 w w1);(try have hz2:=z27 w w1))));go_ret;exact ⟨aa8 (by simp [aE4]),cl0⟩
  by_cases q4:k=4
  ·subst q4
   cases h2:o.toList.isEmpty
   ·cases h3:isNm o
    all_goals (go_wp2_with (first|(go_at_call 129;refine (ab7 _ _ (by first|exact hr1|exact hr2|exact hr3)).mono ?_;rintro e w1 ⟨rfl,hb1⟩;(have hq7:=ru7;(try clear hc hf);obtain ⟨hb,hc,hf,hz⟩:=hq7;(try simp only [zsz7] at hz);(try have hz0:=z07 w w1);(try have hz1:=z17 w w1);(try have hz2:=z27 w w1)))|(go_at_call 107;refine (ab1 _ _ _ _).mono ?_;rintro e w2 ⟨rfl,rfl⟩)|(go_at_call 130;refine (ah7 _ _ _ _ _).mono ?_;rintro e w2 ⟨rfl,rfl⟩));go_ret;exact ⟨aa8 (by simp [aE4,isE,h2,h3]),cl0⟩)
   ·go_wp2_with (first|(go_at_call 129;refine (ab7 _ _ (by first|exact hr1|exact hr2|exact hr3)).mono ?_;rintro e w1 ⟨rfl,hb1⟩;(have hq7:=ru7;(try clear hc hf);obtain ⟨hb,hc,hf,hz⟩:=hq7;(try simp only [zsz7] at hz);(try have hz0:=z07 w w1);(try have hz1:=z17 w w1);(try have hz2:=z27 w w1)))|(go_at_call 107;refine (ab1 _ _ _ _).mono ?_;rintro e w2 ⟨rfl,rfl⟩)|(go_at_call 130;refine (ah7 _ _ _ _ _).mono ?_;rintro e w2 ⟨rfl,rfl⟩));go_ret;exact ⟨aa8 (by simp [aE4,isE,h2]),cl0⟩
  by_cases q5:k=5
  ·subst q5
   cases h2:isNm o
   all_goals (go_wp2_with (first|(go_at_call 129;refine (ab7 _ _ (by first|exact hr1|exact hr2|exact hr3)).mono ?_;rintro e w1 ⟨rfl,hb1⟩;(have hq7:=ru7;(try clear hc hf);obtain ⟨hb,hc,hf,hz⟩:=hq7;(try simp only [zsz7] at hz);(try have hz0:=z07 w w1);(try have hz1:=z17 w w1);(try have hz2:=z27 w w1)))|(go_at_call 107;refine (ab1 _ _ _ _).mono ?_;rintro e w2 ⟨rfl,rfl⟩)|(go_at_call 130;refine (ah7 _ _ _ _ _).mono ?_;rintro e w2 ⟨rfl,rfl⟩));go_ret;exact ⟨aa8 (by simp [aE4,h2]),cl0⟩)
  by_cases q6:k=6
  ·subst q6
   go_wp2_with (first|(go_at_call 129;refine (ab7 _ _ (by first|exact hr1|exact hr2|exact hr3)).mono ?_;rintro e w1 ⟨rfl,hb1⟩;(have hq7:=ru7;(try clear hc hf);obtain ⟨hb,hc,hf,hz⟩:=hq7;(try simp only [zsz7] at hz);(try have hz0:=z07 w w1);(try have hz1:=z17 w w1);(try have hz2:=z27 w w1)))|(go_at_call 107;refine (ab1 _ _ _ _).mono ?_;rintro e w2 ⟨rfl,rfl⟩)|(go_at_call 130;refine (ah7 _ _ _ _ _).mono ?_;rintro e w2 ⟨rfl,rfl⟩));go_ret;exact ⟨aa8 (by simp [aE4]),cl0⟩
  by_cases q7:k=7
  ·subst q7
   cases h2:isNm o
   ·go_wp2_with (first|(go_at_call 129;refine (ab7 _ _ (by first|exact hr1|exact hr2|exact hr3)).mono ?_;rintro e w1 ⟨rfl,hb1⟩;(have hq7:=ru7;(try clear hc hf);obtain ⟨hb,hc,hf,hz⟩:=hq7;(try simp only [zsz7] at hz);(try have hz0:=z07 w w1);(try have hz1:=z17 w w1);(try have hz2:=z27 w w1)))|(go_at_call 107;refine (ab1 _ _ _ _).mono ?_;rintro e w2 ⟨rfl,rfl⟩)|(go_at_call 130;refine (ah7 _ _ _ _ _).mono ?_;rintro e w2 ⟨rfl,rfl⟩));go_ret;exact ⟨aa8 (by simp [aE4,h2]),cl0⟩
   ·cases h3:isNm u
    all_goals (go_wp2_with (first|(go_at_call 129;refine (ab7 _ _ (by first|exact hr1|exact hr2|exact hr3)).mono ?_;rintro e w1 ⟨rfl,hb1⟩;(have hq7:=ru7;(try clear hc hf);obtain ⟨hb,hc,hf,hz⟩:=hq7;(try simp only [zsz7] at hz);(try have hz0:=z07 w w1);(try have hz1:=z17 w w1);(try have hz2:=z27 w w1)))|(go_at_call 107;refine (ab1 _ _ _ _).mono ?_;rintro e w2 ⟨rfl,rfl⟩)|(go_at_call 130;refine (ah7 _ _ _ _ _).mono ?_;rintro e w2 ⟨rfl,rfl⟩));go_ret;exact ⟨aa8 (by simp [aE4,h2,h3]),cl0⟩)
  by_cases q8:k=8
  ·subst q8
   cases h2:isNm o
   all_goals (go_wp2_with (first|(go_at_call 129;refine (ab7 _ _ (by first|exact hr1|exact hr2|exact hr3)).mono ?_;rintro e w1 ⟨rfl,hb1⟩;(have hq7:=ru7;(try clear hc hf);obtain ⟨hb,hc,hf,hz⟩:=hq7;(try simp only [zsz7] at hz);(try have hz0:=z07 w w1);(try have hz1:=z17 w w1);(try have hz2:=z27 w w1)))|(go_at_call 107;refine (ab1 _ _ _ _).mono ?_;rintro e w2 ⟨rfl,rfl⟩)|(go_at_call 130;refine (ah7 _ _ _ _ _).mono ?_;rintro e w2 ⟨rfl,rfl⟩));go_ret;exact ⟨aa8 (by simp [aE4,h2]),cl0⟩)
  have r0:(k == 0)=false:=by simp [q0]
  have r1:(k == 1)=false:=by simp [q1]
  have r2:(k == 2)=false:=by simp [q2]
  have r3:(k == 3)=false:=by simp [q3]
  have r4:(k == 4)=false:=by simp [q4]
  have r5:(k == 5)=false:=by simp [q5]
  have r6:(k == 6)=false:=by simp [q6]
  have r7:(k == 7)=false:=by simp [q7]
  have r8:(k == 8)=false:=by simp [q8]
  have HR:Hid (¬ k=0∧¬ k=1∧¬ k=2∧¬ k=3∧¬ k=4∧¬ k=5∧¬ k=6∧¬ k=7∧¬ k=8):=⟨q0,q1,q2,q3,q4,q5,q6,q7,q8⟩
  clear q0 q1 q2 q3 q4 q5 q6 q7 q8
  go_wp2_with fail
  go_ret
  obtain ⟨q0,q1,q2,q3,q4,q5,q6,q7,q8⟩:=HR.out
  exact ⟨aa8 (by simp only [aE4,q0,q1,q2,q3,q4,q5,q6,q7,q8,if_false]),cl0⟩
end
section
open Go.RowKit Go.Shelf
theorem isField_any (f:Fld) (w:World) {F:Nat→Prop} {wa ga:Option Addr} {wc gc:Nat} (hw:aw9 w F f.words wa wc) (hg:RInts w F f.weights ga gc) (hx:SmF f) :
  Calls Tryz.prog 132 #[.agg #[.string f.name,.string f.of,.string f.up,.int .i64 f.kind,.int .i64 f.lo,.int .i64 f.hi,.slice wa f.words.length wc,.slice ga f.weights.length gc]] w
   fun e w'=>e = .returned (.bool (ab0 f))∧Ex w w':=by
 have HA:=fieldAid f w hw hg hx
 cases h1:isNm f.name with
 | false=>
  have:=isField_1 _ _ _ _ _ _ _ _ _ _ _ _ _ _ _ _ hx.name.le hx.of.le hx.up.le _ HA h1
  simpa [ab0,h1] using this
 | true=>
  cases h2:an3 f with
  | false=>
   rw [h2] at HA
   have:=isField_2 _ _ _ _ _ _ _ _ _ _ _ _ _ _ _ _ hx.name.le hx.of.le hx.up.le HA h1
   simpa [ab0,h1,h2] using this
  | true=>
   rw [h2] at HA
   have HP:Hid (∀ w',Ex w w'→Calls Tryz.prog 160 #[.slice wa f.words.length wc,.slice ga f.weights.length gc] w' fun e w2=>e = .returned (.bool (af1 f.words f.weights))∧Ex w' w2):=
    fun w' he=>isPick_any f.words f.weights w' (hw.keep he.same (fun _ h=>h) (fun _ _ _ h=>h)) (hg.keep he.same (fun _ h=>h) (fun _ _ _ h=>h)) (fun s hs=>(hx.words s hs).le) hx.nweights hx.nwords
   have:=isField_3 _ _ _ _ _ _ _ _ _ _ _ _ _ _ _ _ hx.name.le hx.of.le hx.up.le _ HP HA h1
   have e:ab0 f=aE4 f.kind f.of f.up f.lo f.hi (af1 f.words f.weights):=by simp only [ab0,h1,h2,Bool.true_and];rfl
   rw [e];exact this
theorem bf5 (w:World) {F:Nat→Prop} {l:List Fld} (hl:∀ f,f∈l→SmF f):Asks Tryz.prog 132 #[] w af7 (RFld w F) l ab0:=by
 refine ⟨enters_of Tryz.func132 (by kernel_rfl) rfl,fun f vs W hm hr hW=>?_⟩
 obtain ⟨wa,wc,ga,gc,rfl,_,_,_,h1,h2⟩:=hr
 exact isField_any f W (h1.keep hW.same (fun _ h=>h) (fun _ _ _ h=>h)) (h2.keep hW.same (fun _ h=>h) (fun _ _ _ h=>h)) (hl f hm)
theorem Asks.rel {α:Type} {P:Program} {g:FuncId} {cb:Array Value} {w:World} {arg:List Value→Value} {R R':α→List Value→Prop} {xs:List α} {p:α→Bool} (h:Asks P g cb w arg R xs p) (hR:∀ x vs,R' x vs→R x vs):Asks P g cb w arg R' xs p:=
 ⟨h.enters,fun x vs W hm hr hw=>h.says x vs W hm (hR x vs hr) hw⟩
theorem isKind_any (x:Knd) (w:World) {F:Nat→Prop} {fa:Option Addr} {fc:Nat} (hw:RFlds w F x.fields fa fc) (hx:SmK x) :
  Calls Tryz.prog 109 #[.agg #[.string x.name,.int .i64 x.lo,.int .i64 x.hi,.slice fa x.fields.length fc]] w fun e w'=>e = .returned (.bool (ak9 x))∧Ex w w':=by
 have hr1:=hx.name.le
 have hl:=hx.nfields
 have HF:=Lib.hid (fun (w':World) (he:Ex w w')=>all_fld (w0:=w) (F0:=F) (Row.keep (w':=w') hw he.same (fun _ h=>h) (fun _ _ _ h=>h)) (by omega) ((bf5 w hx.fields).mono he))
 clear hx hw
 obtain ⟨name,lo,hi,fs⟩:=x
 simp only at *
 cases h1:isNm name
 ·go_enter Tryz.func109,Tryz.ntmps109;go_wp2_with (first|(go_at_call 129;refine (ab7 _ _ hr1).mono ?_;rintro e w1 ⟨rfl,hb1⟩;(have hq7:=ru7;(try clear hc hf);obtain ⟨hb,hc,hf,hz⟩:=hq7;(try simp only [zsz7] at hz);(try have hz0:=z07 w w1);(try have hz1:=z17 w w1);(try have hz2:=z27 w w1)))|(go_at_call 130;refine (ah7 _ _ _ _ _).mono ?_;rintro e w2 ⟨rfl,rfl⟩)|(go_at_call 131;refine (HF.out _ cl0).mono ?_;rintro e w1 ⟨rfl,hb1⟩;(have hq7:=ru7;(try clear hc hf);obtain ⟨hb,hc,hf,hz⟩:=hq7;(try simp only [zsz7] at hz);(try have hz0:=z07 w w1);(try have hz1:=z17 w w1);(try have hz2:=z27 w w1))));go_ret
  exact ⟨aa8 (by simp [ak9,h1]),cl0⟩
 cases h2:an2 lo hi 0 65536
 ·go_enter Tryz.func109,Tryz.ntmps109;go_wp2_with (first|(go_at_call 129;refine (ab7 _ _ hr1).mono ?_;rintro e w1 ⟨rfl,hb1⟩;(have hq7:=ru7;(try clear hc hf);obtain ⟨hb,hc,hf,hz⟩:=hq7;(try simp only [zsz7] at hz);(try have hz0:=z07 w w1);(try have hz1:=z17 w w1);(try have hz2:=z27 w w1)))|(go_at_call 130;refine (ah7 _ _ _ _ _).mono ?_;rintro e w2 ⟨rfl,rfl⟩)|(go_at_call 131;refine (HF.out _ cl0).mono ?_;rintro e w1 ⟨rfl,hb1⟩;(have hq7:=ru7;(try clear hc hf);obtain ⟨hb,hc,hf,hz⟩:=hq7;(try simp only [zsz7] at hz);(try have hz0:=z07 w w1);(try have hz1:=z17 w w1);(try have hz2:=z27 w w1))));go_ret
  exact ⟨aa8 (by simp [ak9,h2]),cl0⟩
 by_cases h4:(fs.length:Int)≤10
 ·have HR:Hid (ak9 ⟨name,lo,hi,fs⟩=fs.all ab0):=Lib.hid (by simp [ak9,h1,h2];intro;omega)
  go_enter Tryz.func109,Tryz.ntmps109;go_wp2_with (first|(go_at_call 129;refine (ab7 _ _ hr1).mono ?_;rintro e w1 ⟨rfl,hb1⟩;(have hq7:=ru7;(try clear hc hf);obtain ⟨hb,hc,hf,hz⟩:=hq7;(try simp only [zsz7] at hz);(try have hz0:=z07 w w1);(try have hz1:=z17 w w1);(try have hz2:=z27 w w1)))|(go_at_call 130;refine (ah7 _ _ _ _ _).mono ?_;rintro e w2 ⟨rfl,rfl⟩)|(go_at_call 131;refine (HF.out _ cl0).mono ?_;rintro e w1 ⟨rfl,hb1⟩;(have hq7:=ru7;(try clear hc hf);obtain ⟨hb,hc,hf,hz⟩:=hq7;(try simp only [zsz7] at hz);(try have hz0:=z07 w w1);(try have hz1:=z17 w w1);(try have hz2:=z27 w w1))));go_ret
  exact ⟨aa8 HR.out.symm,cl0⟩
 ·go_enter Tryz.func109,Tryz.ntmps109;go_wp2_with (first|(go_at_call 129;refine (ab7 _ _ hr1).mono ?_;rintro e w1 ⟨rfl,hb1⟩;(have hq7:=ru7;(try clear hc hf);obtain ⟨hb,hc,hf,hz⟩:=hq7;(try simp only [zsz7] at hz);(try have hz0:=z07 w w1);(try have hz1:=z17 w w1);(try have hz2:=z27 w w1)))|(go_at_call 130;refine (ah7 _ _ _ _ _).mono ?_;rintro e w2 ⟨rfl,rfl⟩)|(go_at_call 131;refine (HF.out _ cl0).mono ?_;rintro e w1 ⟨rfl,hb1⟩;(have hq7:=ru7;(try clear hc hf);obtain ⟨hb,hc,hf,hz⟩:=hq7;(try simp only [zsz7] at hz);(try have hz0:=z07 w w1);(try have hz1:=z17 w w1);(try have hz2:=z27 w w1))));go_ret
  exact ⟨aa8 (by simp [ak9];intros;omega),cl0⟩
theorem isKind_asks (w:World) {F:Nat→Prop} {l:List Knd} (hl:∀ k,k∈l→SmK k):Asks Tryz.prog 109 #[] w af7 (RKnd w F) l ak9:=by
 refine ⟨enters_of Tryz.func109 (by kernel_rfl) rfl,fun k vs W hm hr hW=>?_⟩
 obtain ⟨fa,fc,rfl,_,_,h1⟩:=hr
 exact isKind_any k W (RFlds.keep hW.same (fun _ h=>h) h1) (hl k hm)
theorem isLife_asks (w:World) {F:Nat→Prop} {l:List Lif} (hl:∀ k,k∈l→SmL k):Asks Tryz.prog 111 #[] w af7 (RLif w F) l an4:=by
 refine ⟨enters_of Tryz.func111 (by kernel_rfl) rfl,fun k vs W hm hr hW=>?_⟩
 obtain ⟨sa,sc,ma,mc,rfl,h1,h2⟩:=hr
 exact isLife_any k W (h1.keep hW.same (fun _ h=>h) (fun _ _ _ h=>h)) (h2.keep hW.same (fun _ h=>h) (fun _ _ _ h=>h)) (hl k hm)
theorem isRule_asks (w:World) {l:List Rul} (hl:∀ k,k∈l→SmR k):Asks Tryz.prog 113 #[] w af7 RRul l aq9:=by
 refine ⟨enters_of Tryz.func113 (by kernel_rfl) rfl,fun k vs W hm hr hW=>?_⟩
 obtain ⟨rfl,h1⟩:=hr
 exact isRule_any k W (hl k hm)
end
section
open Go.RowKit Go.Shelf
theorem kindB_range {f:Fld} (h:al9 f=true):0≤f.kind∧f.kind≤8:=by
 unfold al9 at h
 repeat' split at h
 all_goals first|omega|simp at h
theorem pick_len {ws:List ByteArray} {gs:List Int} (h:af1 ws gs=true):ws.length=gs.length∧ws.length≤12:=by
 simp only [af1,Bool.and_eq_true,ab5,decide_eq_true_eq] at h
 omega
theorem field_any (f:Fld) (w:World) {F:Nat→Prop} {wa ga:Option Addr} {wc gc:Nat} (hw:aw9 w F f.words wa wc) (hg:RInts w F f.weights ga gc) (hlo:I64 f.lo) (hhi:I64 f.hi) (hx:SmF f) (hv:ab0 f=true) (hb:an1 f≤1000000) (hp:Pow10 w) (hwd:WordsAt w) :
  Calls Tryz.prog 140 #[.agg #[.string f.name,.string f.of,.string f.up,.int .i64 f.kind,.int .i64 f.lo,.int .i64 f.hi,.slice wa f.words.length wc,.slice ga f.weights.length gc]] w
   fun e w'=>∃ s:ByteArray,e = .returned (.string s)∧s.size≤an1 f∧Ex w w':=by
 have hk:al9 f=true:=by simp only [ab0,Bool.and_eq_true] at hv;exact hv.2
 have hr:=kindB_range hk
 obtain ⟨n,o,u,k,lo,hi,ws,gs⟩:=f
 have h1:=hx.name;have h2:=hx.of;have h3:=hx.up
 unfold SmS at h1 h2 h3
 simp only at *
 have key:∀ s:ByteArray,s.size≤16+n.size+o.size+u.size+intB lo+intB hi→s.size≤an1 ⟨n,o,u,k,lo,hi,ws,gs⟩:=fun s hs=>by unfold an1;simp only;omega
 by_cases k3:k=3
 ·subst k3
  have hpk:af1 ws gs=true:=by simpa [al9] using hk
  obtain ⟨hl,h12⟩:=pick_len hpk
  have hpb:=bd7 ws gs hl
  unfold an1 at hb
  simp only at hb
  refine (field_3 n o u lo hi ws gs w wa ga wc gc hw hg hl (by omega) h1 (by omega) hp hwd).mono ?_
  rintro e w' ⟨s,he,hs,hex⟩
  refine ⟨s,he,?_,hex⟩
  unfold an1;simp only;omega
 have h:k=0∨k=1∨k=2∨k=4∨k=5∨k=6∨k=7∨k=8:=by omega
 rcases h with rfl|rfl|rfl|rfl|rfl|rfl|rfl|rfl
 ·exact (field_0 n o u lo hi _ _ w wa ga wc gc h1 h2 h3 hlo hhi hp hwd).mono fun e w' ⟨s,he,hs,hex⟩=>⟨s,he,key s hs,hex⟩
 ·exact (field_1 n o u lo hi _ _ w wa ga wc gc h1 h2 h3 hlo hhi hp hwd).mono fun e w' ⟨s,he,hs,hex⟩=>⟨s,he,key s hs,hex⟩
 ·exact (field_2 n o u lo hi _ _ w wa ga wc gc h1 h2 h3 hlo hhi hp hwd).mono fun e w' ⟨s,he,hs,hex⟩=>⟨s,he,key s hs,hex⟩
 ·exact (field_4 n o u lo hi _ _ w wa ga wc gc h1 h2 h3 hlo hhi hp hwd).mono fun e w' ⟨s,he,hs,hex⟩=>⟨s,he,key s hs,hex⟩
 ·exact (field_5 n o u lo hi _ _ w wa ga wc gc h1 h2 h3 hlo hhi hp hwd).mono fun e w' ⟨s,he,hs,hex⟩=>⟨s,he,key s hs,hex⟩
 ·exact (field_6 n o u lo hi _ _ w wa ga wc gc h1 h2 h3 hlo hhi hp hwd).mono fun e w' ⟨s,he,hs,hex⟩=>⟨s,he,key s hs,hex⟩
 ·exact (field_7 n o u lo hi _ _ w wa ga wc gc h1 h2 h3 hlo hhi hp hwd).mono fun e w' ⟨s,he,hs,hex⟩=>⟨s,he,key s hs,hex⟩
 ·exact (field_8 n o u lo hi _ _ w wa ga wc gc h1 h2 h3 hlo hhi hp hwd).mono fun e w' ⟨s,he,hs,hex⟩=>⟨s,he,key s hs,hex⟩
theorem Wrote.ex' {w wr w':World} {B b n n':Nat} {O:Option Nat} (hB0:w.heap.size≤B) (he:Ex w wr) (hb:Bld wr B b n O) (hw:Wrote wr w' B b n' O):Ex w w':=by
 obtain ⟨hk,_⟩:=hw
 obtain ⟨l,p,v,_,_,hB,_,hown,hO,_⟩:=hb
 refine ⟨hk.os.trans (Keep.os he),hk.tape.trans (Keep.tape he),hk.output.trans (Keep.output he),Nat.le_trans he.size hk.size,fun x hx _=>?_⟩
 rw [hk.block x (Nat.lt_of_lt_of_le hx he.size) ?_]
 ·exact he.block x hx
 ·rintro (rfl|h)
  ·omega
  ·have:=(hown.lt x (by rw [hO,h])).1;omega
theorem Bld.own_lt {w:World} {B b n:Nat} {O:Option Nat} (h:Bld w B b n O):∀ x,O=some x→x<w.heap.size:=by
 obtain ⟨l,p,v,_,_,hB,_,hown,hO,_⟩:=h
 intro x hx
 exact (hown.lt x (by rw [hO,hx])).2
theorem Wrote.cell {w w':World} {B b n N i:Nat} {O:Option Nat} {v:Value} (hw:Wrote w w' B b n O) (hc:w.cell? ⟨N,i,none⟩=some v) (h1:N≠b) (h2:O≠some N):w'.cell? ⟨N,i,none⟩=some v:=
 hw.1.cell hc (by rintro (h|h);exact h1 h;exact h2 h.symm)
end
section
open Go.RowKit Go.Shelf
def SrcAt (W1:World) (B:Nat) (m:Nat) (wr:World):Prop:=Ex W1 wr∧∃ n O,Bld wr B B n O∧n≤m
theorem SrcAt.ex {W1 wr w':World} {B m:Nat} (h:SrcAt W1 B m wr) (he:Ex wr w'):SrcAt W1 B m w':=by
 obtain ⟨h1,n,O,h2,h3⟩:=h
 exact ⟨h1.trans he,n,O,h2.ex he,h3⟩
theorem SrcAt.mono {W1 wr:World} {B m m':Nat} (h:SrcAt W1 B m wr) (hm:m≤m'):SrcAt W1 B m' wr:=by
 obtain ⟨h1,n,O,h2,h3⟩:=h
 exact ⟨h1,n,O,h2,by omega⟩
theorem aL3 {W1 wr:World} {B m:Nat} (h:SrcAt W1 B m wr) (hB:W1.heap.size≤B) (s:ByteArray) (hm:m+s.size≤1000000000) :
  Calls Tryz.prog 138 #[.pointer (some ⟨B,0,none⟩),.string s] wr fun e w'=>e = .returned (.tuple #[.int .i64 s.size,.nilIface])∧SrcAt W1 B (m+s.size) w'∧wr.heap.size≤w'.heap.size:=by
 obtain ⟨h1,n,O,h2,h3⟩:=h
 refine (ai7 h2 s (by omega)).mono ?_
 rintro e w' ⟨rfl,hw⟩
 obtain ⟨O',hb'⟩:=hw.bld
 exact ⟨rfl,⟨Wrote.ex' hB h1 h2 hw,_,O',hb',by omega⟩,hw.1.size⟩
theorem at4 {W1 wr wn:World} {B m N:Nat} (h:SrcAt W1 B m wr) (hB:W1.heap.size≤B) (s:ByteArray) (hm:m+s.size≤1000000000) (hN:wr.heap.size≤N) (he:Ex wr wn) (hne:N≠B) :
  Calls Tryz.prog 138 #[.pointer (some ⟨B,0,none⟩),.string s] wn fun e w'=>e = .returned (.tuple #[.int .i64 s.size,.nilIface])∧SrcAt W1 B (m+s.size) w'∧wn.heap.size≤w'.heap.size∧∀ i v,wn.cell? ⟨N,i,none⟩=some v→w'.cell? ⟨N,i,none⟩=some v:=by
 obtain ⟨h1,n,O,h2,h3⟩:=h
 have h2':=h2.ex he
 refine (ai7 h2' s (by omega)).mono ?_
 rintro e w' ⟨rfl,hw⟩
 obtain ⟨O',hb'⟩:=hw.bld
 exact ⟨rfl,⟨Wrote.ex' hB (h1.trans he) h2' hw,_,O',hb',by omega⟩,hw.1.size,fun i v hc=>hw.cell hc hne (fun e=>by have:=h2.own_lt N e;omega)⟩
def ai6 (nm:ByteArray) (ss:List ByteArray) (j:Nat):List (Int ⊕ ByteArray):=Sum.inr nm :: Sum.inl (ss.length:Int) :: (ss.take j).map Sum.inr
theorem aN8 (nm:ByteArray) (ss:List ByteArray) (j:Nat) (h:j≤ss.length):(ai6 nm ss j).length=2+j:=by simp [ai6];omega
theorem aY7 (nm:ByteArray) (ss:List ByteArray) (j:Nat) (s:ByteArray) (h:ss[j]?=some s):ai6 nm ss (j+1)=ai6 nm ss j ++ [.inr s]:=by simp [ai6,List.take_add_one,h]
theorem lifItems_B (nm:ByteArray) (ss:List ByteArray):ab9 (ai6 nm ss ss.length)=2+nm.size+intB ss.length+sumB (fun s=>1+s.size) ss:=by
 simp only [ai6,List.take_of_length_le (Nat.le_refl _),ab9,List.map_cons,List.sum_cons,ar7,List.map_map,sumB]
 have:(ar7 ∘ (Sum.inr:ByteArray→Int ⊕ ByteArray))=fun s=>1+s.size:=by funext s;rfl
 rw [this];omega
theorem one_one (a:Int ⊕ ByteArray):∀ u∈[anyV a],u.oneCell'=true:=by cases a <;> simp [anyV,Value.oneCell']
theorem source_any (x:Sch) (w:World) {F:Nat→Prop} {ka la ra:Option Addr} {kc lc rc:Nat} (hver:I64 x.version) (hk:RKnds w F x.kinds ka kc) (hl:RLifs w F x.lives la lc) (hr:RRuls w F x.rules ra rc) (hx:SmSch x) (hv:al3 x=true) (hb:srcB x≤1000000) (hp:Pow10 w) (hwd:WordsAt w) :
  Calls Tryz.prog 114 #[.agg #[.int .i64 x.version,.slice ka x.kinds.length kc,.slice la x.lives.length lc,.slice ra x.rules.length rc]] w
   fun e w'=>∃ s:ByteArray,e = .returned (.string s)∧s.size≤srcB x∧Ex w w':=by
 obtain ⟨ver,kinds,lives,rules⟩:=x
 simp only at *
 have hlk:=hx.nkinds
 have hll:=hx.nlives
 have hlr:=hx.nrules
 simp only at hlk hll hlr
 obtain ⟨W1,HW⟩:∃ W1:World,Hid (W1=w.alloc (.cells #[.int .i64 ver,.slice ka kinds.length kc,.slice la lives.length lc,.slice ra rules.length rc] 43)):=⟨_,rfl⟩
 have b1:W1.cell? ⟨w.heap.size,1,none⟩=some (.slice ka kinds.length kc):=by rw [HW.out];simp
 have b2:W1.cell? ⟨w.heap.size,2,none⟩=some (.slice la lives.length lc):=by rw [HW.out];simp
 have b3:W1.cell? ⟨w.heap.size,3,none⟩=some (.slice ra rules.length rc):=by rw [HW.out];simp
 have bz:W1.heap.size≤w.heap.size+1:=by rw [HW.out];simp
 have bz0:w.heap.size<W1.heap.size:=by rw [HW.out];simp
 have hsrc0:SrcAt W1 (w.heap.size+1) 0 ((w.alloc (.cells #[.int .i64 ver,.slice ka kinds.length kc,.slice la lives.length lc,.slice ra rules.length rc] 43)).alloc (.cells #[.pointer none,.slice none 0 0] 206)):=by
  rw [HW.out]
  refine ⟨(Ex.refl _).alloc,0,none,?_,Nat.le_refl _⟩
  have:=Bld.fresh (w.alloc (.cells #[.int .i64 ver,.slice ka kinds.length kc,.slice la lives.length lc,.slice ra rules.length rc] 43)) (w.heap.size+1) (by simp)
  simpa using this
 have hbx:Ex w W1:=by rw [HW.out];exact (Ex.refl _).alloc
 have HL0:Hid (∀ (W:World) (N:Nat),Ex w W→N=W.heap.size→Calls Tryz.prog 139 #[.string ⟨#[115,99,104,101,109,97]⟩,.slice (some ⟨N,0,none⟩) 1 1] (W.alloc (.cells #[.iface 3 (.int .i64 ver)] 20)) fun e w'=>∃ s:ByteArray,e = .returned (.string s)∧s.size≤29∧Ex W w'):=Lib.hid (by
  intro W N he hN
  subst hN
  have i1:=ae1 ver
  have hB:ab9 [.inl ver]=1+intB ver:=by simp [ab9,ar7]
  refine (ak3 ⟨#[115,99,104,101,109,97]⟩ [.inl ver] W (by simp [hver]) (hp.ex he) (by simp) (by rw [hB];show 6+_≤_;omega)).mono ?_
  rintro e w' ⟨s,h1,h2,h3⟩
  refine ⟨s,h1,?_,h3⟩
  have h2':s.size≤6+ab9 [.inl ver]+1:=h2
  omega)
 have HL1:Hid (∀ (W:World) (N:Nat) (nm:ByteArray) (lo hi:Int),I64 lo→I64 hi→nm.size≤1000000→Ex w W→N=W.heap.size→Calls Tryz.prog 139 #[.string ⟨#[107,105,110,100]⟩,.slice (some ⟨N,0,none⟩) 3 3] (W.alloc (.cells #[.iface 9 (.string nm),.iface 3 (.int .i64 lo),.iface 3 (.int .i64 hi)] 20)) fun e w'=>∃ s:ByteArray,e = .returned (.string s)∧s.size≤8+nm.size+intB lo+intB hi∧Ex W w'):=Lib.hid (by
  intro W N nm lo hi hlo hhi hnm he hN
  subst hN
  have i1:=ae1 lo
  have i2:=ae1 hi
  have hB:ab9 [.inr nm,.inl lo,.inl hi]=3+nm.size+intB lo+intB hi:=by simp [ab9,ar7];omega
  refine (ak3 ⟨#[107,105,110,100]⟩ [.inr nm,.inl lo,.inl hi] W (by simp [hlo,hhi]) (hp.ex he) (by simp) (by rw [hB];show 4+_≤_;omega)).mono ?_
  rintro e w' ⟨s,h1,h2,h3⟩
  refine ⟨s,h1,?_,h3⟩
  have h2':s.size≤4+ab9 [.inr nm,.inl lo,.inl hi]+1:=h2
  omega)
 have HL5:Hid (∀ (W:World) (N:Nat) (lo hi:Int),I64 lo→I64 hi→Ex w W→N=W.heap.size→Calls Tryz.prog 139 #[.string ⟨#[109,111,118,101]⟩,.slice (some ⟨N,0,none⟩) 2 2] (W.alloc (.cells #[.iface 3 (.int .i64 lo),.iface 3 (.int .i64 hi)] 20)) fun e w'=>∃ s:ByteArray,e = .returned (.string s)∧s.size≤7+intB lo+intB hi∧Ex W w'):=Lib.hid (by
  intro W N lo hi hlo hhi he hN
  subst hN
  have i1:=ae1 lo
  have i2:=ae1 hi
  have hB:ab9 [.inl lo,.inl hi]=2+intB lo+intB hi:=by simp [ab9,ar7];omega
  refine (ak3 ⟨#[109,111,118,101]⟩ [.inl lo,.inl hi] W (by simp [hlo,hhi]) (hp.ex he) (by simp) (by rw [hB];show 4+_≤_;omega)).mono ?_
  rintro e w' ⟨s,h1,h2,h3⟩
  refine ⟨s,h1,?_,h3⟩
  have h2':s.size≤4+ab9 [.inl lo,.inl hi]+1:=h2
  omega)
 have HL6:Hid (∀ (W:World) (N:Nat) (nm kd a b:ByteArray) (n:Int),I64 n→nm.size+kd.size+a.size+b.size≤10000000→Ex w W→N=W.heap.size→Calls Tryz.prog 139 #[.string ⟨#[114,117,108,101]⟩,.slice (some ⟨N,0,none⟩) 5 5] (W.alloc (.cells #[.iface 9 (.string nm),.iface 9 (.string kd),.iface 9 (.string a),.iface 9 (.string b),.iface 3 (.int .i64 n)] 20)) fun e w'=>∃ s:ByteArray,e = .returned (.string s)∧s.size≤10+nm.size+kd.size+a.size+b.size+intB n∧Ex W w'):=Lib.hid (by
  intro W N nm kd a b n hn hsz he hN
  subst hN
  have i1:=ae1 n
  have hB:ab9 [.inr nm,.inr kd,.inr a,.inr b,.inl n]=5+nm.size+kd.size+a.size+b.size+intB n:=by simp [ab9,ar7];omega
  refine (ak3 ⟨#[114,117,108,101]⟩ [.inr nm,.inr kd,.inr a,.inr b,.inl n] W (by simp [hn]) (hp.ex he) (by simp) (by rw [hB];show 4+_≤_;omega)).mono ?_
  rintro e w' ⟨s,h1,h2,h3⟩
  refine ⟨s,h1,?_,h3⟩
  have h2':s.size≤4+ab9 [.inr nm,.inr kd,.inr a,.inr b,.inl n]+1:=h2
  omega)
 have hsb:29+sumB kndB kinds+sumB lifB lives+sumB rulB rules≤1000000:=hb
 have HX:=Lib.hid hx
 have HV:=Lib.hid hv
 clear hx hv hb
 go_enter Tryz.func114,Tryz.ntmps114
 go_wp2_with fail
 refine (HL0.out _ _ cl0 (by simp)).mono ?_
 rintro e w1 ⟨s,rfl,hs,he1⟩
 have hsrc1:=hsrc0.ex he1
 clear hsrc0 he1
 go_wp2_with fail
 refine (aL3 hsrc1 bz s (by omega)).mono ?_
 rintro e w2 ⟨rfl,hsrc2,_⟩
 have hsrc:=hsrc2.mono (m':=29) (by omega)
 clear hsrc1 hsrc2
 obtain ⟨hc,hf⟩:=hsrc.1.rules
 go_wp2
 clear hc hf
 go_loopw [26] (fun i wr=>∃ j:Nat,j≤kinds.length∧i = .int .i64 j∧Hid (SrcAt W1 (w.heap.size+1) (29+sumB kndB (kinds.take j)) wr)) (fun i _=>kinds.length - (intOf i).toNat)
 case atStart=>exact ⟨0,by omega,rfl,by simpa [sumB,Hid] using hsrc⟩
 case round=>
  obtain ⟨wo,hwo⟩:∃ wo:World,wo=wr:=⟨_,rfl⟩
  subst hwo
  obtain ⟨j,hj,rfl,hs1⟩:=hrel
  clear hsrc
  by_cases hlt:j<kinds.length
  ·have hexo:=hbx.trans hs1.out.1
   obtain ⟨y,b,off,fa,fc,hy,rfl,_,c0,c1,c2,c3,hry⟩:=be9 hk hexo.same hlt
   have hym:=List.mem_of_getElem? hy.out
   have hyS:=HX.out.kinds y hym
   have hyV:ak9 y=true:=by
    have:=HV.out;simp only [al3,Bool.and_eq_true,List.all_eq_true] at this
    exact this.1.1.2 y hym
   have hny:=hyS.name
   unfold SmS at hny
   obtain ⟨fa',fc',hvs,hlo,hhi,hfl⟩:=hry.out
   cases hvs
   clear hry
   have Hk1:=Lib.hid (ax0 kndB kinds j y hy.out)
   have Hk2:=Lib.hid (aL2 kndB kinds (j+1))
   have hkb:29+sumB kndB (kinds.take j)+kndB y≤1000000:=by have h1:=Hk1.out;have h2:=Hk2.out;omega
   have hkb':kndB y=8+y.name.size+intB y.lo+intB y.hi+sumB an1 y.fields:=rfl
   have hnf:=hyS.nfields
   go_wp2_with fail
   refine (HL1.out _ _ _ _ _ hlo hhi hny cl0 (by simp)).mono ?_
   rintro e w1 ⟨s1,rfl,hs',he1⟩
   go_wp2_with fail
   refine (at4 hs1.out bz s1 (by omega) (Nat.le_refl wo.heap.size) cl0 (by have:=hs1.out.1.size;obtain ⟨_,n',O',hb',_⟩:=hs1.out;have:=hb'.lt;omega)).mono ?_
   rintro e w2' ⟨rfl,hsrc2,hz2,hkeep⟩
   have d3:=hkeep 3 (.slice fa y.fields.length fc) (he1.cell (by simp))
   have hsA:=Lib.hid (hsrc2.mono (m':=29+sumB kndB (kinds.take j)+(8+y.name.size+intB y.lo+intB y.hi)) (by omega))
   clear hsrc2 hkeep he1 c0 c1 c2 c3 hz2
   go_wp2
   clear d3
   go_loopw [45] (fun i wr=>∃ q:Nat,q≤y.fields.length∧i = .int .i64 q∧Hid (SrcAt W1 (w.heap.size+1) (29+sumB kndB (kinds.take j)+(8+y.name.size+intB y.lo+intB y.hi)+sumB an1 (y.fields.take q)) wr)) (fun i _=>y.fields.length - (intOf i).toNat)
   case atStart=>exact ⟨0,by omega,rfl,by simpa [sumB,Hid] using hsA⟩
   case round=>
    obtain ⟨q,hq,rfl,hs2⟩:=hrel
    clear hsA
    by_cases hlt2:q<y.fields.length
    ·have hexr:=hbx.trans hs2.out.1
     obtain ⟨f,b2,off2,wa,wc,ga,gc,hf,rfl,_,e0,e1,e2,e3,e4,e5,e6,e7,hrf⟩:=bf9 hfl hexr.same hlt2
     have hfm:=List.mem_of_getElem? hf.out
     have hfS:=hyS.fields f hfm
     have hfV:ab0 f=true:=by
      have:=hyV;simp only [ak9,Bool.and_eq_true,List.all_eq_true] at this
      exact this.2 f hfm
     obtain ⟨wa',wc',ga',gc',hvs,hkk,hlo2,hhi2,hws,hgs⟩:=hrf.out
     cases hvs
     clear hrf
     have Hf1:=Lib.hid (ax0 an1 y.fields q f hf.out)
     have Hf2:=Lib.hid (aL2 an1 y.fields (q+1))
     have hfb:sumB an1 (y.fields.take q)+an1 f≤sumB an1 y.fields:=by have h1:=Hf1.out;have h2:=Hf2.out;omega
     have HFc:=Lib.hid (fun (W:World) (he:Ex w W)=>field_any f W (hws.keep he.same (fun _ h=>h) (fun _ _ _ h=>h)) (hgs.keep he.same (fun _ h=>h) (fun _ _ _ h=>h)) hlo2 hhi2 hfS hfV (by omega) (hp.ex he) (hwd.ex he))
     clear hws hgs hfV hfS
     go_wp2_with fail
     refine (HFc.out _ cl0).mono ?_
     rintro e w3 ⟨s2,rfl,hs2',he3⟩
     have hsB:=hs2.out.ex ((Ex.refl _).alloc.trans he3)
     clear he3 e0 e1 e2 e3 e4 e5 e6 e7
     go_wp2_with fail
     refine (aL3 hsB bz s2 (by omega)).mono ?_
     rintro e w4 ⟨rfl,hsC,_⟩
     have hsD:=Lib.hid (hsC.mono (m':=29+sumB kndB (kinds.take j)+(8+y.name.size+intB y.lo+intB y.hi)+sumB an1 (y.fields.take (q+1))) (by have h1:=Hf1.out;omega))
     clear hsB hsC
     go_wp2
     go_roundw
     case rel=>exact ⟨q+1,by omega,by go_num,hsD⟩
     case measure=>simp [intOf];omega
    ·have hsE:=Lib.hid (hs2.out.mono (m':=29+sumB kndB (kinds.take (j+1))) (by have h1:=Hk1.out;have e:y.fields.take q=y.fields:=List.take_of_length_le (by omega);rw [e];omega))
     go_wp2
     go_roundw
     case rel=>exact ⟨j+1,by omega,by go_num,hsE⟩
     case measure=>simp [intOf];omega
  ·have hs3:=Lib.hid (hs1.out.mono (m':=29+sumB kndB kinds) (by have e:kinds.take j=kinds:=List.take_of_length_le (by omega);rw [e];omega))
   clear hs1
   obtain ⟨hc,hf⟩:=hs3.out.1.rules
   go_wp2
   clear hc hf
   go_loopw [57] (fun i wr=>∃ j:Nat,j≤lives.length∧i = .int .i64 j∧Hid (SrcAt W1 (w.heap.size+1) (29+sumB kndB kinds+sumB lifB (lives.take j)) wr)) (fun i _=>lives.length - (intOf i).toNat)
   case atStart=>exact ⟨0,by omega,rfl,by simpa [sumB,Hid] using hs3.out⟩
   case round=>
    obtain ⟨wp,hwp⟩:∃ wp:World,wp=wr:=⟨_,rfl⟩
    subst hwp
    obtain ⟨j3,hj3,rfl,hs1⟩:=hrel
    clear hs3
    by_cases hlt3:j3<lives.length
    ·have hexo:=hbx.trans hs1.out.1
     obtain ⟨y,b,off,sa,sc,ma,mc,hy,rfl,_,c0,c1,c2,hry⟩:=be6 hl hexo.same hlt3
     have hym:=List.mem_of_getElem? hy.out
     have hyS:=HX.out.lives y hym
     have hny:=hyS.name
     unfold SmS at hny
     obtain ⟨sa',sc',ma',mc',hvs,hst,hmv⟩:=hry.out
     cases hvs
     clear hry
     have Hk1:=Lib.hid (ax0 lifB lives j3 y hy.out)
     have Hk2:=Lib.hid (aL2 lifB lives (j3+1))
     have hkb:29+sumB kndB kinds+sumB lifB (lives.take j3)+lifB y≤1000000:=by have h1:=Hk1.out;have h2:=Hk2.out;omega
     have hkb':lifB y=7+y.name.size+intB y.states.length+sumB (fun s=>1+s.size) y.states+sumB movB y.moves:=rfl
     have hns:y.states.length≤12:=by
      have:=HV.out;simp only [al3,Bool.and_eq_true,List.all_eq_true] at this
      have h2:=this.1.2 y hym
      simp only [an4,ab5,Bool.and_eq_true,decide_eq_true_eq] at h2
      omega
     have hnm:=hyS.nmoves
     obtain ⟨i0,hiA,hzA,hz1,hz2⟩:=info_parts infoAny
     go_wp2
     go_loopw [10,72] (fun s10 i wr=>∃ q:Nat,q≤y.states.length∧i = .int .i64 q∧Hid (Ex (wp.alloc (.cells #[.string y.name,.slice sa y.states.length sc,.slice ma y.moves.length mc] 102)) wr)∧Hid (wr.ownsRow (wp.heap.size+1) 20 1 s10 (2+q) ((ai6 y.name y.states q).map anyV))) (fun _ i _=>y.states.length - (intOf i).toNat)
     case atStart=>
      refine ⟨0,by omega,rfl,cl0,?_⟩
      have:=World.ownsRow_lit (base:=wp.heap.size+1) (e:=20) (size:=1) (wp.alloc (.cells #[.string y.name,.slice sa y.states.length sc,.slice ma y.moves.length mc] 102)) #[anyV (.inr y.name),anyV (.inl y.states.length)] 2 (by simp) (by decide) rfl
      simpa [ai6,Hid,anyV] using this
     case round=>
      obtain ⟨q,hq,rfl,hex4,hown⟩:=hrel
      have hz4:=hex4.out.size
      simp only [World.size_alloc] at hz4
      have hexw:=(hexo.alloc (o:=.cells #[.string y.name,.slice sa y.states.length sc,.slice ma y.moves.length mc] 102)).trans hex4.out
      obtain ⟨a4,cap4,rfl⟩:=az3 hown.out
      by_cases hlt4:q<y.states.length
      ·obtain ⟨st,b5,off5,hs5,rfl,_,d1,_⟩:=au2 hst hexw.same hlt4
       have Hs:=Lib.hid (aY7 y.name y.states q st hs5.out)
       go_wp2_with (at_builtin;refine wpList_append_own_at _ rfl _ _ 213 rfl (wp.heap.size+1) 20 i0 .nilIface 1 16 Tryz.underlying213 hiA hzA hz1 hz2 rfl (by decide) (.slice a4 (2+q) cap4) _ _ rfl (hown.out.alloc _) ⟨wr.heap.size,0,none⟩ 1 1 [anyV (.inr st)] rfl rfl ?c1 ?c2 ?c3 ?c4 ?c5 ?_)
       case c1=>exact cell_one_new _ _ _
       case c2=>exact one_one _
       case c3=>unfold maxLen;omega
       case c4=>omega
       case c5=>simp;omega
       intro v' w5 hown' hgrow _ hat
       have hex5:=Lib.hid (Ex.appended (hex4.out.alloc (o:=.cells #[anyV (.inr st)] 20)) (hown.out.alloc _) (by simp) hgrow)
       have HO:Hid (w5.ownsRow (wp.heap.size+1) 20 1 v' (2+(q+1)) ((ai6 y.name y.states (q+1)).map anyV)):=by
        unfold Hid
        rw [Hs.out,List.map_append]
        exact hown'
       clear hown' hgrow hat hown
       obtain ⟨a5,cap5,rfl⟩:=az3 HO.out
       go_wp2
       go_roundw
       case rel=>exact ⟨q+1,by omega,by go_num,hex5,HO⟩
       case measure=>simp [intOf];omega
      ·obtain rfl:q=y.states.length:=by omega
       have hpl:=aN8 y.name y.states y.states.length (Nat.le_refl _)
       have hi64:∀ m,Sum.inl m∈ai6 y.name y.states y.states.length→I64 m:=by
        intro m hm
        simp only [ai6,List.mem_cons,List.mem_map] at hm
        rcases hm with h|h|⟨_,_,h⟩
        ·cases h
        ·cases h;unfold I64;omega
        ·cases h
       obtain ⟨a6,cap6,hv6,hrow⟩:=aM2 (C:=fun x=>[anyV x]) (R:=RAny) (xs:=ai6 y.name y.states y.states.length) hpl.symm (by rw [aU4];exact hown.out) (fun _ _=>rfl) (fun x hx=>by
        cases x with
        | inl m=>exact ⟨rfl,hi64 m hx⟩
        | inr t=>rfl)
       rw [hpl] at hv6
       cases hv6
       have hB:=lifItems_B y.name y.states
       have hib:=ae1 (y.states.length:Int)
       have HLn:=Lib.hid (aY6 ⟨#[108,105,102,101]⟩ (ai6 y.name y.states y.states.length) wr hrow (hp.ex hexw) (by rw [hpl];omega) (by rw [hB];show 4+_≤_;omega))
       rw [hpl,hB] at HLn
       clear hpl hi64 hrow hB hown
       go_wp2_with fail
       refine HLn.out.mono ?_
       rintro e w6 ⟨s6,rfl,hs6,he6⟩
       have hs6':s6.size≤4+(2+y.name.size+intB y.states.length+sumB (fun s=>1+s.size) y.states)+1:=hs6
       go_wp2_with fail
       refine (at4 hs1.out bz s6 (by omega) (Nat.le_refl wp.heap.size) (((Ex.refl wp).alloc.trans hex4.out).trans he6) (by have:=hs1.out.1.size;obtain ⟨_,n',O',hb',_⟩:=hs1.out;have:=hb'.lt;omega)).mono ?_
       rintro e w7 ⟨rfl,hsrc7,hz7,hkeep⟩
       have d3:=hkeep 2 (.slice ma y.moves.length mc) (he6.cell (hex4.out.cell (by simp)))
       have hsA:=Lib.hid (hsrc7.mono (m':=29+sumB kndB kinds+sumB lifB (lives.take j3)+(7+y.name.size+intB y.states.length+sumB (fun s=>1+s.size) y.states)) (by omega))
       clear hsrc7 hkeep hex4 hexw he6 hs6
       go_wp2
       clear d3
       go_loopw [88] (fun i wr=>∃ q:Nat,q≤y.moves.length∧i = .int .i64 q∧Hid (SrcAt W1 (w.heap.size+1) (29+sumB kndB kinds+sumB lifB (lives.take j3)+(7+y.name.size+intB y.states.length+sumB (fun s=>1+s.size) y.states)+sumB movB (y.moves.take q)) wr)) (fun i _=>y.moves.length - (intOf i).toNat)
       case atStart=>exact ⟨0,by omega,rfl,by simpa [sumB,Hid] using hsA⟩
       case round=>
        obtain ⟨q,hq,rfl,hs2⟩:=hrel
        clear hsA
        by_cases hlt2:q<y.moves.length
        ·have hexr:=hbx.trans hs2.out.1
         obtain ⟨mv,b2,off2,hf,rfl,_,e0,e1,hrf⟩:=bb4 hmv hexr.same hlt2
         obtain ⟨_,hm1,hm2⟩:=hrf.out
         have Hf1:=Lib.hid (ax0 movB y.moves q mv hf.out)
         have Hf2:=Lib.hid (aL2 movB y.moves (q+1))
         have hfb:sumB movB (y.moves.take q)+movB mv≤sumB movB y.moves:=by have h1:=Hf1.out;have h2:=Hf2.out;omega
         have hmb:movB mv=7+intB mv.1+intB mv.2:=rfl
         go_wp2_with fail
         refine (HL5.out _ _ _ _ hm1 hm2 cl0 (by simp)).mono ?_
         rintro e w3 ⟨s2,rfl,hs2',he3⟩
         have hsB:=hs2.out.ex ((Ex.refl _).alloc.trans he3)
         clear he3 e0 e1
         go_wp2_with fail
         refine (aL3 hsB bz s2 (by omega)).mono ?_
         rintro e w4 ⟨rfl,hsC,_⟩
         have hsD:=Lib.hid (hsC.mono (m':=29+sumB kndB kinds+sumB lifB (lives.take j3)+(7+y.name.size+intB y.states.length+sumB (fun s=>1+s.size) y.states)+sumB movB (y.moves.take (q+1))) (by have h1:=Hf1.out;omega))
         clear hsB hsC
         go_wp2
         go_roundw
         case rel=>exact ⟨q+1,by omega,by go_num,hsD⟩
         case measure=>simp [intOf];omega
        ·have hsE:=Lib.hid (hs2.out.mono (m':=29+sumB kndB kinds+sumB lifB (lives.take (j3+1))) (by have h1:=Hk1.out;have e:y.moves.take q=y.moves:=List.take_of_length_le (by omega);rw [e];omega))
         go_wp2
         go_roundw
         case rel=>exact ⟨j3+1,by omega,by go_num,hsE⟩
         case measure=>simp [intOf];omega
    ·have hs4:=Lib.hid (hs1.out.mono (m':=29+sumB kndB kinds+sumB lifB lives) (by have e:lives.take j3=lives:=List.take_of_length_le (by omega);rw [e];omega))
     clear hs1
     obtain ⟨hc,hf⟩:=hs4.out.1.rules
     go_wp2
     clear hc hf
     go_loopw [106] (fun i wr=>∃ j:Nat,j≤rules.length∧i = .int .i64 j∧Hid (SrcAt W1 (w.heap.size+1) (29+sumB kndB kinds+sumB lifB lives+sumB rulB (rules.take j)) wr)) (fun i _=>rules.length - (intOf i).toNat)
     case atStart=>exact ⟨0,by omega,rfl,by simpa [sumB,Hid] using hs4.out⟩
     case round=>
      obtain ⟨j6,hj6,rfl,hs1⟩:=hrel
      clear hs4
      by_cases hlt6:j6<rules.length
      ·have hexo:=hbx.trans hs1.out.1
       obtain ⟨y,b,off,hy,rfl,_,c0,c1,c2,c3,c4,hry⟩:=bc2 hr hexo.same hlt6
       have hym:=List.mem_of_getElem? hy.out
       have hyS:=HX.out.rules y hym
       have hn1:=hyS.name
       have hn2:=hyS.kind
       have hn3:=hyS.a
       have hn4:=hyS.b
       unfold SmS at hn1 hn2 hn3 hn4
       obtain ⟨_,hyn⟩:=hry.out
       have Hk1:=Lib.hid (ax0 rulB rules j6 y hy.out)
       have Hk2:=Lib.hid (aL2 rulB rules (j6+1))
       have hkb:29+sumB kndB kinds+sumB lifB lives+sumB rulB (rules.take j6)+rulB y≤1000000:=by have h1:=Hk1.out;have h2:=Hk2.out;omega
       have hkb':rulB y=12+y.name.size+y.kind.size+y.a.size+y.b.size+intB y.n:=rfl
       have hneB:wr.heap.size≠w.heap.size+1:=by obtain ⟨_,n',O',hb',_⟩:=hs1.out;have:=hb'.lt;omega
       go_wp2
       go_region_held3 (fun W=>W.cell? ⟨wr.heap.size,0,none⟩=some (.string y.name)∧W.cell? ⟨wr.heap.size,1,none⟩=some (.string y.kind)∧W.cell? ⟨wr.heap.size,2,none⟩=some (.string y.a)∧W.cell? ⟨wr.heap.size,3,none⟩=some (.string y.b)∧W.cell? ⟨wr.heap.size,4,none⟩=some (.int .i64 y.n)) (go_keep)
        (first
         | (go_at_call 141;refine (aD8 _ _).mono ?_;rintro e w1 ⟨t,rfl,ht,hb1⟩;(have hq7:=ru7;(try clear hc hf);obtain ⟨hb,hc,hf,hz⟩:=hq7;(try simp only [zsz7] at hz);(try have hz0:=z07 w w1);(try have hz1:=z17 w w1);(try have hz2:=z27 w w1)))
         | (go_at_call 139;refine (HL6.out _ _ _ _ _ _ _ hyn (by omega) cl0 (by first|rfl|simp)).mono ?_;rintro e w1 ⟨s6,rfl,hs6,hb1⟩;(have hq7:=ru7;(try clear hc hf);obtain ⟨hb,hc,hf,hz⟩:=hq7;(try simp only [zsz7] at hz);(try have hz0:=z07 w w1);(try have hz1:=z17 w w1);(try have hz2:=z27 w w1)))
         | (go_at_call 138;refine (at4 hs1.out bz s6 (by omega) (Nat.le_refl wr.heap.size) cl0 hneB).mono ?_;rintro e w1 ⟨rfl,hsrc7,hz7,hkeep⟩;have k0:=hkeep 0 (.string y.name) (by rw [hc _ _ (by simp)];simp);have k1:=hkeep 1 (.string y.kind) (by rw [hc _ _ (by simp)];simp);have k2:=hkeep 2 (.string y.a) (by rw [hc _ _ (by simp)];simp);have k3:=hkeep 3 (.string y.b) (by rw [hc _ _ (by simp)];simp);have k4:=hkeep 4 (.int .i64 y.n) (by rw [hc _ _ (by simp)];simp);clear hkeep))
       all_goals
        have hsE:=Lib.hid (hsrc7.mono (m':=29+sumB kndB kinds+sumB lifB lives+sumB rulB (rules.take (j6+1))) (by have h1:=Hk1.out;omega))
        go_wp2
        go_roundw
        case rel=>exact ⟨j6+1,by omega,by go_num,hsE⟩
        case measure=>simp [intOf];omega
      ·have hs7:=Lib.hid (hs1.out.mono (m':=29+sumB kndB kinds+sumB lifB lives+sumB rulB rules) (by have e:rules.take j6=rules:=List.take_of_length_le (by omega);rw [e];omega))
       clear hs1
       obtain ⟨hex',n,O,⟨l,p,v,hl',hpp,hB,hbk,hown,hO,hne⟩,hnm⟩:=hs7.out
       have hib:Lib.IsBuilder 206 5 (w.heap.size+1) (w.heap.size+1) (Lib.byteCells l) wr:=by
        rcases hpp with rfl|rfl
        ·exact .inl ⟨hB,v,hbk,by rw [ak4];exact hown,by rw [hO];exact hne⟩
        ·exact .inr ⟨hB,v,hbk,by rw [ak4];exact hown,by rw [hO];exact hne⟩
       have hexw:=hbx.trans hex'
       have HSt:=Lib.hid (Tryz.Builder_String_any (w.heap.size+1) (w.heap.size+1) l wr hib (by have:=av6 hbk;omega))
       have HL:=Lib.hid hl'
       clear hbk hown hO hib hpp hl'
       go_wp2_with fail
       refine HSt.out.mono ?_
       rintro e w8 ⟨rfl,hb8⟩
       have hex8:Ex w w8:=Ex.of_below ⟨hb8.os.trans (Keep.os hexw),hb8.tape.trans (Keep.tape hexw),hb8.output.trans (Keep.output hexw),Nat.le_trans hexw.size hb8.size,fun k hk=>(hb8.block k (by omega)).trans (hexw.block k hk)⟩
       go_wp2
       go_ret
       refine ⟨_,rfl,?_,hex8⟩
       have h1:=HL.out
       show l.toArray.size≤srcB _
       unfold srcB
       simp only [List.size_toArray]
       omega
end
section
open Go.RowKit Go.Shelf
structure Laid (w:World):Prop where
 pow:Pow10 w
 words:WordsAt w
theorem Laid.ex {w w':World} (h:Laid w) (he:Ex w w'):Laid w':=⟨h.pow.ex he,h.words.ex he⟩
theorem valid_any (x:Sch) (w:World) {F:Nat→Prop} {ka la ra:Option Addr} {kc lc rc:Nat} (hver:I64 x.version) (hk:RKnds w F x.kinds ka kc) (hl:RLifs w F x.lives la lc) (hr:RRuls w F x.rules ra rc) (hx:SmSch x) (hsm:al3 x=true→srcB x≤8192) (hg:Laid w) :
  Calls Tryz.prog 81 #[.agg #[.int .i64 x.version,.slice ka x.kinds.length kc,.slice la x.lives.length lc,.slice ra x.rules.length rc]] w
   fun e w'=>e = .returned (.int .i64 (af9 x))∧Ex w w':=by
 have hlk:=hx.nkinds
 have hll:=hx.nlives
 have hlr:=hx.nrules
 have HK:=Lib.hid (fun (w':World) (he:Ex w w')=>all_knd (w0:=w) (F0:=F) (Row.keep (w':=w') hk he.same (fun _ h=>h) (fun _ _ _ h=>h)) (by omega) ((isKind_asks w hx.kinds).mono he))
 have HL:=Lib.hid (fun (w':World) (he:Ex w w')=>all_lif (w0:=w) (F0:=F) (Row.keep (w':=w') hl he.same (fun _ h=>h) (fun _ _ _ h=>h)) (by omega) ((isLife_asks w hx.lives).mono he))
 have HR:=Lib.hid (fun (w':World) (he:Ex w w')=>all_rul (Row.keep (w':=w') hr he.same (fun _ h=>h) (fun _ _ _ h=>h)) (by omega) ((isRule_asks w hx.rules).mono he))
 have HV:=Lib.hid (fun h=>hsm h)
 have HS0:=Lib.hid (fun (hv:al3 x=true) (w':World) (he:Ex w w')=>source_any x w' hver (RKnds.keep he.same (fun _ h=>h) hk) (RLifs.keep he.same (fun _ h=>h) hl) (RRuls.keep he.same (fun _ h=>h) hr) hx hv (by have:=hsm hv;omega) (hg.pow.ex he) (hg.words.ex he))
 clear hx hsm hk hl hr
 obtain ⟨ver,kinds,lives,rules⟩:=x
 simp only at *
 cases h1:ab5 ver 0 1048576
 ·go_enter Tryz.func81,Tryz.ntmps81;go_wp2_with (first|(go_at_call 107;refine (ab1 _ _ _ _).mono ?_;rintro e w2 ⟨rfl,rfl⟩)|(go_at_call 108;refine (HK.out _ cl0).mono ?_;rintro e w1 ⟨rfl,hb1⟩;(have hq7:=ru7;(try clear hc hf);obtain ⟨hb,hc,hf,hz⟩:=hq7;(try simp only [zsz7] at hz);(try have hz0:=z07 w w1);(try have hz1:=z17 w w1);(try have hz2:=z27 w w1)))|(go_at_call 110;refine (HL.out _ cl0).mono ?_;rintro e w1 ⟨rfl,hb1⟩;(have hq7:=ru7;(try clear hc hf);obtain ⟨hb,hc,hf,hz⟩:=hq7;(try simp only [zsz7] at hz);(try have hz0:=z07 w w1);(try have hz1:=z17 w w1);(try have hz2:=z27 w w1)))|(go_at_call 112;refine (HR.out _ cl0).mono ?_;rintro e w1 ⟨rfl,hb1⟩;(have hq7:=ru7;(try clear hc hf);obtain ⟨hb,hc,hf,hz⟩:=hq7;(try simp only [zsz7] at hz);(try have hz0:=z07 w w1);(try have hz1:=z17 w w1);(try have hz2:=z27 w w1)))|(go_at_call 114;refine (HS.out _ cl0).mono ?_;rintro e w1 ⟨s,rfl,hs,hb1⟩;(have hq7:=ru7;(try clear hc hf);obtain ⟨hb,hc,hf,hz⟩:=hq7;(try simp only [zsz7] at hz);(try have hz0:=z07 w w1);(try have hz1:=z17 w w1);(try have hz2:=z27 w w1))));go_ret
  exact ⟨ax5 (by simp [af9,al3,h1]),cl0⟩
 by_cases h2:(kinds.length:Int)≤6
 case neg=>
  go_enter Tryz.func81,Tryz.ntmps81;go_wp2_with (first|(go_at_call 107;refine (ab1 _ _ _ _).mono ?_;rintro e w2 ⟨rfl,rfl⟩)|(go_at_call 108;refine (HK.out _ cl0).mono ?_;rintro e w1 ⟨rfl,hb1⟩;(have hq7:=ru7;(try clear hc hf);obtain ⟨hb,hc,hf,hz⟩:=hq7;(try simp only [zsz7] at hz);(try have hz0:=z07 w w1);(try have hz1:=z17 w w1);(try have hz2:=z27 w w1)))|(go_at_call 110;refine (HL.out _ cl0).mono ?_;rintro e w1 ⟨rfl,hb1⟩;(have hq7:=ru7;(try clear hc hf);obtain ⟨hb,hc,hf,hz⟩:=hq7;(try simp only [zsz7] at hz);(try have hz0:=z07 w w1);(try have hz1:=z17 w w1);(try have hz2:=z27 w w1)))|(go_at_call 112;refine (HR.out _ cl0).mono ?_;rintro e w1 ⟨rfl,hb1⟩;(have hq7:=ru7;(try clear hc hf);obtain ⟨hb,hc,hf,hz⟩:=hq7;(try simp only [zsz7] at hz);(try have hz0:=z07 w w1);(try have hz1:=z17 w w1);(try have hz2:=z27 w w1)))|(go_at_call 114;refine (HS.out _ cl0).mono ?_;rintro e w1 ⟨s,rfl,hs,hb1⟩;(have hq7:=ru7;(try clear hc hf);obtain ⟨hb,hc,hf,hz⟩:=hq7;(try simp only [zsz7] at hz);(try have hz0:=z07 w w1);(try have hz1:=z17 w w1);(try have hz2:=z27 w w1))));go_ret
  exact ⟨ax5 (by simp [af9,al3];intros;omega),cl0⟩
 by_cases h3:(lives.length:Int)≤6
 case neg=>
  go_enter Tryz.func81,Tryz.ntmps81;go_wp2_with (first|(go_at_call 107;refine (ab1 _ _ _ _).mono ?_;rintro e w2 ⟨rfl,rfl⟩)|(go_at_call 108;refine (HK.out _ cl0).mono ?_;rintro e w1 ⟨rfl,hb1⟩;(have hq7:=ru7;(try clear hc hf);obtain ⟨hb,hc,hf,hz⟩:=hq7;(try simp only [zsz7] at hz);(try have hz0:=z07 w w1);(try have hz1:=z17 w w1);(try have hz2:=z27 w w1)))|(go_at_call 110;refine (HL.out _ cl0).mono ?_;rintro e w1 ⟨rfl,hb1⟩;(have hq7:=ru7;(try clear hc hf);obtain ⟨hb,hc,hf,hz⟩:=hq7;(try simp only [zsz7] at hz);(try have hz0:=z07 w w1);(try have hz1:=z17 w w1);(try have hz2:=z27 w w1)))|(go_at_call 112;refine (HR.out _ cl0).mono ?_;rintro e w1 ⟨rfl,hb1⟩;(have hq7:=ru7;(try clear hc hf);obtain ⟨hb,hc,hf,hz⟩:=hq7;(try simp only [zsz7] at hz);(try have hz0:=z07 w w1);(try have hz1:=z17 w w1);(try have hz2:=z27 w w1)))|(go_at_call 114;refine (HS.out _ cl0).mono ?_;rintro e w1 ⟨s,rfl,hs,hb1⟩;(have hq7:=ru7;(try clear hc hf);obtain ⟨hb,hc,hf,hz⟩:=hq7;(try simp only [zsz7] at hz);(try have hz0:=z07 w w1);(try have hz1:=z17 w w1);(try have hz2:=z27 w w1))));go_ret
  exact ⟨ax5 (by simp [af9,al3];intros;omega),cl0⟩
 by_cases h4:(rules.length:Int)≤16
 case neg=>
  go_enter Tryz.func81,Tryz.ntmps81;go_wp2_with (first|(go_at_call 107;refine (ab1 _ _ _ _).mono ?_;rintro e w2 ⟨rfl,rfl⟩)|(go_at_call 108;refine (HK.out _ cl0).mono ?_;rintro e w1 ⟨rfl,hb1⟩;(have hq7:=ru7;(try clear hc hf);obtain ⟨hb,hc,hf,hz⟩:=hq7;(try simp only [zsz7] at hz);(try have hz0:=z07 w w1);(try have hz1:=z17 w w1);(try have hz2:=z27 w w1)))|(go_at_call 110;refine (HL.out _ cl0).mono ?_;rintro e w1 ⟨rfl,hb1⟩;(have hq7:=ru7;(try clear hc hf);obtain ⟨hb,hc,hf,hz⟩:=hq7;(try simp only [zsz7] at hz);(try have hz0:=z07 w w1);(try have hz1:=z17 w w1);(try have hz2:=z27 w w1)))|(go_at_call 112;refine (HR.out _ cl0).mono ?_;rintro e w1 ⟨rfl,hb1⟩;(have hq7:=ru7;(try clear hc hf);obtain ⟨hb,hc,hf,hz⟩:=hq7;(try simp only [zsz7] at hz);(try have hz0:=z07 w w1);(try have hz1:=z17 w w1);(try have hz2:=z27 w w1)))|(go_at_call 114;refine (HS.out _ cl0).mono ?_;rintro e w1 ⟨s,rfl,hs,hb1⟩;(have hq7:=ru7;(try clear hc hf);obtain ⟨hb,hc,hf,hz⟩:=hq7;(try simp only [zsz7] at hz);(try have hz0:=z07 w w1);(try have hz1:=z17 w w1);(try have hz2:=z27 w w1))));go_ret
  exact ⟨ax5 (by simp [af9,al3];intros;omega),cl0⟩
 cases h5:kinds.all ak9
 ·go_enter Tryz.func81,Tryz.ntmps81;go_wp2_with (first|(go_at_call 107;refine (ab1 _ _ _ _).mono ?_;rintro e w2 ⟨rfl,rfl⟩)|(go_at_call 108;refine (HK.out _ cl0).mono ?_;rintro e w1 ⟨rfl,hb1⟩;(have hq7:=ru7;(try clear hc hf);obtain ⟨hb,hc,hf,hz⟩:=hq7;(try simp only [zsz7] at hz);(try have hz0:=z07 w w1);(try have hz1:=z17 w w1);(try have hz2:=z27 w w1)))|(go_at_call 110;refine (HL.out _ cl0).mono ?_;rintro e w1 ⟨rfl,hb1⟩;(have hq7:=ru7;(try clear hc hf);obtain ⟨hb,hc,hf,hz⟩:=hq7;(try simp only [zsz7] at hz);(try have hz0:=z07 w w1);(try have hz1:=z17 w w1);(try have hz2:=z27 w w1)))|(go_at_call 112;refine (HR.out _ cl0).mono ?_;rintro e w1 ⟨rfl,hb1⟩;(have hq7:=ru7;(try clear hc hf);obtain ⟨hb,hc,hf,hz⟩:=hq7;(try simp only [zsz7] at hz);(try have hz0:=z07 w w1);(try have hz1:=z17 w w1);(try have hz2:=z27 w w1)))|(go_at_call 114;refine (HS.out _ cl0).mono ?_;rintro e w1 ⟨s,rfl,hs,hb1⟩;(have hq7:=ru7;(try clear hc hf);obtain ⟨hb,hc,hf,hz⟩:=hq7;(try simp only [zsz7] at hz);(try have hz0:=z07 w w1);(try have hz1:=z17 w w1);(try have hz2:=z27 w w1))));go_ret
  exact ⟨ax5 (by simp [af9,al3,h5]),cl0⟩
 cases h6:lives.all an4
 ·go_enter Tryz.func81,Tryz.ntmps81;go_wp2_with (first|(go_at_call 107;refine (ab1 _ _ _ _).mono ?_;rintro e w2 ⟨rfl,rfl⟩)|(go_at_call 108;refine (HK.out _ cl0).mono ?_;rintro e w1 ⟨rfl,hb1⟩;(have hq7:=ru7;(try clear hc hf);obtain ⟨hb,hc,hf,hz⟩:=hq7;(try simp only [zsz7] at hz);(try have hz0:=z07 w w1);(try have hz1:=z17 w w1);(try have hz2:=z27 w w1)))|(go_at_call 110;refine (HL.out _ cl0).mono ?_;rintro e w1 ⟨rfl,hb1⟩;(have hq7:=ru7;(try clear hc hf);obtain ⟨hb,hc,hf,hz⟩:=hq7;(try simp only [zsz7] at hz);(try have hz0:=z07 w w1);(try have hz1:=z17 w w1);(try have hz2:=z27 w w1)))|(go_at_call 112;refine (HR.out _ cl0).mono ?_;rintro e w1 ⟨rfl,hb1⟩;(have hq7:=ru7;(try clear hc hf);obtain ⟨hb,hc,hf,hz⟩:=hq7;(try simp only [zsz7] at hz);(try have hz0:=z07 w w1);(try have hz1:=z17 w w1);(try have hz2:=z27 w w1)))|(go_at_call 114;refine (HS.out _ cl0).mono ?_;rintro e w1 ⟨s,rfl,hs,hb1⟩;(have hq7:=ru7;(try clear hc hf);obtain ⟨hb,hc,hf,hz⟩:=hq7;(try simp only [zsz7] at hz);(try have hz0:=z07 w w1);(try have hz1:=z17 w w1);(try have hz2:=z27 w w1))));go_ret
  exact ⟨ax5 (by simp [af9,al3,h6]),cl0⟩
 cases h7:rules.all aq9
 ·go_enter Tryz.func81,Tryz.ntmps81;go_wp2_with (first|(go_at_call 107;refine (ab1 _ _ _ _).mono ?_;rintro e w2 ⟨rfl,rfl⟩)|(go_at_call 108;refine (HK.out _ cl0).mono ?_;rintro e w1 ⟨rfl,hb1⟩;(have hq7:=ru7;(try clear hc hf);obtain ⟨hb,hc,hf,hz⟩:=hq7;(try simp only [zsz7] at hz);(try have hz0:=z07 w w1);(try have hz1:=z17 w w1);(try have hz2:=z27 w w1)))|(go_at_call 110;refine (HL.out _ cl0).mono ?_;rintro e w1 ⟨rfl,hb1⟩;(have hq7:=ru7;(try clear hc hf);obtain ⟨hb,hc,hf,hz⟩:=hq7;(try simp only [zsz7] at hz);(try have hz0:=z07 w w1);(try have hz1:=z17 w w1);(try have hz2:=z27 w w1)))|(go_at_call 112;refine (HR.out _ cl0).mono ?_;rintro e w1 ⟨rfl,hb1⟩;(have hq7:=ru7;(try clear hc hf);obtain ⟨hb,hc,hf,hz⟩:=hq7;(try simp only [zsz7] at hz);(try have hz0:=z07 w w1);(try have hz1:=z17 w w1);(try have hz2:=z27 w w1)))|(go_at_call 114;refine (HS.out _ cl0).mono ?_;rintro e w1 ⟨s,rfl,hs,hb1⟩;(have hq7:=ru7;(try clear hc hf);obtain ⟨hb,hc,hf,hz⟩:=hq7;(try simp only [zsz7] at hz);(try have hz0:=z07 w w1);(try have hz1:=z17 w w1);(try have hz2:=z27 w w1))));go_ret
  exact ⟨ax5 (by simp [af9,al3,h7]),cl0⟩
 have hv:al3 ⟨ver,kinds,lives,rules⟩=true:=by
  simp only [al3,h1,h5,h6,h7,Bool.true_and,Bool.and_true,Bool.and_eq_true,decide_eq_true_eq];omega
 have HS:=Lib.hid (HS0.out hv)
 have hsm:=HV.out hv
 have HVv:=Lib.hid hv
 clear HS0 HV hv
 go_enter Tryz.func81,Tryz.ntmps81;go_wp2_with (first|(go_at_call 107;refine (ab1 _ _ _ _).mono ?_;rintro e w2 ⟨rfl,rfl⟩)|(go_at_call 108;refine (HK.out _ cl0).mono ?_;rintro e w1 ⟨rfl,hb1⟩;(have hq7:=ru7;(try clear hc hf);obtain ⟨hb,hc,hf,hz⟩:=hq7;(try simp only [zsz7] at hz);(try have hz0:=z07 w w1);(try have hz1:=z17 w w1);(try have hz2:=z27 w w1)))|(go_at_call 110;refine (HL.out _ cl0).mono ?_;rintro e w1 ⟨rfl,hb1⟩;(have hq7:=ru7;(try clear hc hf);obtain ⟨hb,hc,hf,hz⟩:=hq7;(try simp only [zsz7] at hz);(try have hz0:=z07 w w1);(try have hz1:=z17 w w1);(try have hz2:=z27 w w1)))|(go_at_call 112;refine (HR.out _ cl0).mono ?_;rintro e w1 ⟨rfl,hb1⟩;(have hq7:=ru7;(try clear hc hf);obtain ⟨hb,hc,hf,hz⟩:=hq7;(try simp only [zsz7] at hz);(try have hz0:=z07 w w1);(try have hz1:=z17 w w1);(try have hz2:=z27 w w1)))|(go_at_call 114;refine (HS.out _ cl0).mono ?_;rintro e w1 ⟨s,rfl,hs,hb1⟩;(have hq7:=ru7;(try clear hc hf);obtain ⟨hb,hc,hf,hz⟩:=hq7;(try simp only [zsz7] at hz);(try have hz0:=z07 w w1);(try have hz1:=z17 w w1);(try have hz2:=z27 w w1))));go_ret
 exact ⟨ax5 (by simp [af9,HVv.out]),cl0⟩
end
end Go.Proofs.YtjbbmjjildhfbaaGreatDoor
