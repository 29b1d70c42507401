/- A part of the proof: SchemaD SchemaE SchemaF SchemaG SrcE SrcF Valid R09. -/
import Derived.Test.YtlcfiilejnnlnaaGreatDoorB13
import Derived.BigRegion
import Derived.Deep.RegionWith
import Derived.Deep.DeepCutAuto
import Derived.Deep.RegionHeld3
set_option maxRecDepth 100000
set_option maxHeartbeats 20000000
set_option linter.unusedVariables false
set_option linter.unusedSimpArgs false
namespace Go.Proofs.YtlcfiilejnnlnaaGreatDoor
section
open Go.RowKit Go.Shelf
def nos:ByteArray:=⟨#[]⟩
def at5 (f:Fld):Fld:=⟨f.name,if ar0 f.kind then f.of else nos,if aq9 f.kind then f.up else nos,f.kind,if ar1 f.kind then f.lo else 0,if aq1 f.kind then f.hi else 0,if aq0 f.kind then f.words else [],if aq0 f.kind then f.weights else []⟩
theorem cg4 (name of up:ByteArray) (lo hi:Int) (wa ga:Option Addr) (nw wc ng gc:Nat) (w:World) :
  Calls Tryz.prog 255 #[.agg #[.string name,.string of,.string up,.int .i64 0,.int .i64 lo,.int .i64 hi,.slice wa nw wc,.slice ga ng gc]] w fun e w'=>e = .returned (.agg #[.string name,.string nos,.string nos,.int .i64 0,.int .i64 lo,.int .i64 0,.slice none 0 0,.slice none 0 0])∧Ex w w':=by
 go_enter Tryz.func255,Tryz.ntmps255
 go_wp2
 all_goals exact bodyPost_ret (v:=.agg #[.string name,.string nos,.string nos,.int .i64 0,.int .i64 lo,.int .i64 0,.slice none 0 0,.slice none 0 0]) (by simp [results,Tryz.results255,go_sem,nos]) rfl ⟨rfl,cl0⟩
theorem cg3 (name of up:ByteArray) (lo hi:Int) (wa ga:Option Addr) (nw wc ng gc:Nat) (w:World) :
  Calls Tryz.prog 255 #[.agg #[.string name,.string of,.string up,.int .i64 1,.int .i64 lo,.int .i64 hi,.slice wa nw wc,.slice ga ng gc]] w fun e w'=>e = .returned (.agg #[.string name,.string of,.string nos,.int .i64 1,.int .i64 lo,.int .i64 hi,.slice none 0 0,.slice none 0 0])∧Ex w w':=by
 go_enter Tryz.func255,Tryz.ntmps255
 go_wp2
 go_region
 all_goals go_wp2
 all_goals exact bodyPost_ret (v:=.agg #[.string name,.string of,.string nos,.int .i64 1,.int .i64 lo,.int .i64 hi,.slice none 0 0,.slice none 0 0]) (by simp [results,Tryz.results255,go_sem,nos]) rfl ⟨rfl,cl0⟩
theorem cg2 (name of up:ByteArray) (lo hi:Int) (wa ga:Option Addr) (nw wc ng gc:Nat) (w:World) :
  Calls Tryz.prog 255 #[.agg #[.string name,.string of,.string up,.int .i64 2,.int .i64 lo,.int .i64 hi,.slice wa nw wc,.slice ga ng gc]] w fun e w'=>e = .returned (.agg #[.string name,.string nos,.string nos,.int .i64 2,.int .i64 lo,.int .i64 hi,.slice none 0 0,.slice none 0 0])∧Ex w w':=by
 go_enter Tryz.func255,Tryz.ntmps255
 go_wp2
 go_region
 all_goals go_wp2
 all_goals exact bodyPost_ret (v:=.agg #[.string name,.string nos,.string nos,.int .i64 2,.int .i64 lo,.int .i64 hi,.slice none 0 0,.slice none 0 0]) (by simp [results,Tryz.results255,go_sem,nos]) rfl ⟨rfl,cl0⟩
theorem cg1 (name of up:ByteArray) (lo hi:Int) (wa ga:Option Addr) (nw wc ng gc:Nat) (w:World) :
  Calls Tryz.prog 255 #[.agg #[.string name,.string of,.string up,.int .i64 3,.int .i64 lo,.int .i64 hi,.slice wa nw wc,.slice ga ng gc]] w fun e w'=>e = .returned (.agg #[.string name,.string nos,.string nos,.int .i64 3,.int .i64 0,.int .i64 0,.slice wa nw wc,.slice ga ng gc])∧Ex w w':=by
 go_enter Tryz.func255,Tryz.ntmps255
 go_wp2
 go_region
 all_goals go_wp2
 all_goals exact bodyPost_ret (v:=.agg #[.string name,.string nos,.string nos,.int .i64 3,.int .i64 0,.int .i64 0,.slice wa nw wc,.slice ga ng gc]) (by simp [results,Tryz.results255,go_sem,nos]) rfl ⟨rfl,cl0⟩
theorem cg0 (name of up:ByteArray) (lo hi:Int) (wa ga:Option Addr) (nw wc ng gc:Nat) (w:World) :
  Calls Tryz.prog 255 #[.agg #[.string name,.string of,.string up,.int .i64 4,.int .i64 lo,.int .i64 hi,.slice wa nw wc,.slice ga ng gc]] w fun e w'=>e = .returned (.agg #[.string name,.string of,.string nos,.int .i64 4,.int .i64 lo,.int .i64 hi,.slice none 0 0,.slice none 0 0])∧Ex w w':=by
 go_enter Tryz.func255,Tryz.ntmps255
 go_wp2
 go_region
 all_goals go_wp2
 all_goals exact bodyPost_ret (v:=.agg #[.string name,.string of,.string nos,.int .i64 4,.int .i64 lo,.int .i64 hi,.slice none 0 0,.slice none 0 0]) (by simp [results,Tryz.results255,go_sem,nos]) rfl ⟨rfl,cl0⟩
theorem cf9 (name of up:ByteArray) (lo hi:Int) (wa ga:Option Addr) (nw wc ng gc:Nat) (w:World) :
  Calls Tryz.prog 255 #[.agg #[.string name,.string of,.string up,.int .i64 5,.int .i64 lo,.int .i64 hi,.slice wa nw wc,.slice ga ng gc]] w fun e w'=>e = .returned (.agg #[.string name,.string of,.string nos,.int .i64 5,.int .i64 lo,.int .i64 hi,.slice none 0 0,.slice none 0 0])∧Ex w w':=by
 go_enter Tryz.func255,Tryz.ntmps255
 go_wp2
 go_region
 all_goals go_wp2
 all_goals exact bodyPost_ret (v:=.agg #[.string name,.string of,.string nos,.int .i64 5,.int .i64 lo,.int .i64 hi,.slice none 0 0,.slice none 0 0]) (by simp [results,Tryz.results255,go_sem,nos]) rfl ⟨rfl,cl0⟩
theorem cf8 (name of up:ByteArray) (lo hi:Int) (wa ga:Option Addr) (nw wc ng gc:Nat) (w:World) :
  Calls Tryz.prog 255 #[.agg #[.string name,.string of,.string up,.int .i64 6,.int .i64 lo,.int .i64 hi,.slice wa nw wc,.slice ga ng gc]] w fun e w'=>e = .returned (.agg #[.string name,.string of,.string nos,.int .i64 6,.int .i64 0,.int .i64 0,.slice none 0 0,.slice none 0 0])∧Ex w w':=by
 go_enter Tryz.func255,Tryz.ntmps255
 go_wp2
 all_goals exact bodyPost_ret (v:=.agg #[.string name,.string of,.string nos,.int .i64 6,.int .i64 0,.int .i64 0,.slice none 0 0,.slice none 0 0]) (by simp [results,Tryz.results255,go_sem,nos]) rfl ⟨rfl,cl0⟩
theorem cf7 (name of up:ByteArray) (lo hi:Int) (wa ga:Option Addr) (nw wc ng gc:Nat) (w:World) :
  Calls Tryz.prog 255 #[.agg #[.string name,.string of,.string up,.int .i64 7,.int .i64 lo,.int .i64 hi,.slice wa nw wc,.slice ga ng gc]] w fun e w'=>e = .returned (.agg #[.string name,.string of,.string up,.int .i64 7,.int .i64 lo,.int .i64 hi,.slice none 0 0,.slice none 0 0])∧Ex w w':=by
 go_enter Tryz.func255,Tryz.ntmps255
 go_wp2
 go_region
 all_goals go_wp2
 all_goals exact bodyPost_ret (v:=.agg #[.string name,.string of,.string up,.int .i64 7,.int .i64 lo,.int .i64 hi,.slice none 0 0,.slice none 0 0]) (by simp [results,Tryz.results255,go_sem,nos]) rfl ⟨rfl,cl0⟩
theorem cf6 (name of up:ByteArray) (lo hi:Int) (wa ga:Option Addr) (nw wc ng gc:Nat) (w:World) :
  Calls Tryz.prog 255 #[.agg #[.string name,.string of,.string up,.int .i64 8,.int .i64 lo,.int .i64 hi,.slice wa nw wc,.slice ga ng gc]] w fun e w'=>e = .returned (.agg #[.string name,.string of,.string up,.int .i64 8,.int .i64 0,.int .i64 0,.slice none 0 0,.slice none 0 0])∧Ex w w':=by
 go_enter Tryz.func255,Tryz.ntmps255
 go_wp2
 go_region
 all_goals go_wp2
 all_goals exact bodyPost_ret (v:=.agg #[.string name,.string of,.string up,.int .i64 8,.int .i64 0,.int .i64 0,.slice none 0 0,.slice none 0 0]) (by simp [results,Tryz.results255,go_sem,nos]) rfl ⟨rfl,cl0⟩
theorem bT5 (name of up:ByteArray) (k:Int) (h0:(k == 0)=false) (h1:(k == 1)=false) (h2:(k == 2)=false) (h3:(k == 3)=false) (h4:(k == 4)=false) (h5:(k == 5)=false) (h6:(k == 6)=false) (h7:(k == 7)=false) (h8:(k == 8)=false) (lo hi:Int) (wa ga:Option Addr) (nw wc ng gc:Nat) (w:World) :
  Calls Tryz.prog 255 #[.agg #[.string name,.string of,.string up,.int .i64 k,.int .i64 lo,.int .i64 hi,.slice wa nw wc,.slice ga ng gc]] w fun e w'=>e = .returned (.agg #[.string name,.string nos,.string nos,.int .i64 k,.int .i64 0,.int .i64 0,.slice none 0 0,.slice none 0 0])∧Ex w w':=by
 go_enter Tryz.func255,Tryz.ntmps255
 go_wp2
 all_goals exact bodyPost_ret (v:=.agg #[.string name,.string nos,.string nos,.int .i64 k,.int .i64 0,.int .i64 0,.slice none 0 0,.slice none 0 0]) (by simp [results,Tryz.results255,go_sem,nos]) rfl ⟨rfl,cl0⟩
def aF9 (f g:Fld):Bool:=seq f.name g.name && (seq f.of g.of && (seq f.up g.up && (f.kind == g.kind && (f.lo == g.lo && (f.hi == g.hi && (at0 seq f.words g.words && at0 ieq f.weights g.weights))))))
theorem bE2 (f g:Fld) (w:World) {F G:Nat→Prop} {wa ga wa' ga':Option Addr} {wc gc wc' gc':Nat} (hw:av6 w F f.words wa wc) (hg:RInts w F f.weights ga gc) (hw':av6 w G g.words wa' wc') (hg':RInts w G g.weights ga' gc')
  (l1:f.words.length≤1000000) (l2:f.weights.length≤1000000) (l3:g.words.length≤1000000) (l4:g.weights.length≤1000000) :
  Calls Tryz.prog 254 #[.agg #[.string f.name,.string f.of,.string f.up,.int .i64 f.kind,.int .i64 f.lo,.int .i64 f.hi,.slice wa f.words.length wc,.slice ga f.weights.length gc],
   .agg #[.string g.name,.string g.of,.string g.up,.int .i64 g.kind,.int .i64 g.lo,.int .i64 g.hi,.slice wa' g.words.length wc',.slice ga' g.weights.length gc']] w fun e w'=>e = .returned (.bool (aF9 f g))∧Ex w w':=by
 have HS:=Lib.hid (fun (w':World) (he:Ex w w')=>by9 (hw.keep (w':=w') he.same (fun _ h=>h) (fun _ _ _ h=>h)) (hw'.keep (w':=w') he.same (fun _ h=>h) (fun _ _ _ h=>h)) (by omega) (by omega))
 have HI:=Lib.hid (fun (w':World) (he:Ex w w')=>bz1 (hg.keep (w':=w') he.same (fun _ h=>h) (fun _ _ _ h=>h)) (hg'.keep (w':=w') he.same (fun _ h=>h) (fun _ _ _ h=>h)) (by omega) (by omega))
 clear hw hg hw' hg' l1 l2 l3 l4
 obtain ⟨n1,o1,u1,k1,lo1,hi1,ws1,gs1⟩:=f
 obtain ⟨n2,o2,u2,k2,lo2,hi2,ws2,gs2⟩:=g
 simp only at *
 cases h1:(n1.toList == n2.toList)
 ·go_enter Tryz.func254,Tryz.ntmps254;go_wp2_with (first|(go_at_call 263;refine (HS.out _ cl0).mono ?_;rintro e w1 ⟨rfl,hb1⟩;(have hq7:=ru7;(try clear hc hf);obtain ⟨hb,hc,hf,hz⟩:=hq7;(try simp only [zsz7] at hz);(try have hz0:=z07 w w1);(try have hz1:=z17 w w1);(try have hz2:=z27 w w1)))|(go_at_call 47;refine (HI.out _ cl0).mono ?_;rintro e w1 ⟨rfl,hb1⟩;(have hq7:=ru7;(try clear hc hf);obtain ⟨hb,hc,hf,hz⟩:=hq7;(try simp only [zsz7] at hz);(try have hz0:=z07 w w1);(try have hz1:=z17 w w1);(try have hz2:=z27 w w1))));go_ret
  exact ⟨ab0 (by simp only [aF9,seq,h1,Bool.false_and]),cl0⟩
 cases h2:(o1.toList == o2.toList)
 ·go_enter Tryz.func254,Tryz.ntmps254;go_wp2_with (first|(go_at_call 263;refine (HS.out _ cl0).mono ?_;rintro e w1 ⟨rfl,hb1⟩;(have hq7:=ru7;(try clear hc hf);obtain ⟨hb,hc,hf,hz⟩:=hq7;(try simp only [zsz7] at hz);(try have hz0:=z07 w w1);(try have hz1:=z17 w w1);(try have hz2:=z27 w w1)))|(go_at_call 47;refine (HI.out _ cl0).mono ?_;rintro e w1 ⟨rfl,hb1⟩;(have hq7:=ru7;(try clear hc hf);obtain ⟨hb,hc,hf,hz⟩:=hq7;(try simp only [zsz7] at hz);(try have hz0:=z07 w w1);(try have hz1:=z17 w w1);(try have hz2:=z27 w w1))));go_ret
  exact ⟨ab0 (by simp only [aF9,seq,h1,h2,Bool.false_and,Bool.true_and]),cl0⟩
 cases h3:(u1.toList == u2.toList)
 ·go_enter Tryz.func254,Tryz.ntmps254;go_wp2_with (first|(go_at_call 263;refine (HS.out _ cl0).mono ?_;rintro e w1 ⟨rfl,hb1⟩;(have hq7:=ru7;(try clear hc hf);obtain ⟨hb,hc,hf,hz⟩:=hq7;(try simp only [zsz7] at hz);(try have hz0:=z07 w w1);(try have hz1:=z17 w w1);(try have hz2:=z27 w w1)))|(go_at_call 47;refine (HI.out _ cl0).mono ?_;rintro e w1 ⟨rfl,hb1⟩;(have hq7:=ru7;(try clear hc hf);obtain ⟨hb,hc,hf,hz⟩:=hq7;(try simp only [zsz7] at hz);(try have hz0:=z07 w w1);(try have hz1:=z17 w w1);(try have hz2:=z27 w w1))));go_ret
  exact ⟨ab0 (by simp only [aF9,seq,h1,h2,h3,Bool.false_and,Bool.true_and]),cl0⟩
 cases h4:(k1 == k2)
 ·go_enter Tryz.func254,Tryz.ntmps254;go_wp2_with (first|(go_at_call 263;refine (HS.out _ cl0).mono ?_;rintro e w1 ⟨rfl,hb1⟩;(have hq7:=ru7;(try clear hc hf);obtain ⟨hb,hc,hf,hz⟩:=hq7;(try simp only [zsz7] at hz);(try have hz0:=z07 w w1);(try have hz1:=z17 w w1);(try have hz2:=z27 w w1)))|(go_at_call 47;refine (HI.out _ cl0).mono ?_;rintro e w1 ⟨rfl,hb1⟩;(have hq7:=ru7;(try clear hc hf);obtain ⟨hb,hc,hf,hz⟩:=hq7;(try simp only [zsz7] at hz);(try have hz0:=z07 w w1);(try have hz1:=z17 w w1);(try have hz2:=z27 w w1))));go_ret
  exact ⟨ab0 (by simp only [aF9,seq,h1,h2,h3,h4,Bool.false_and,Bool.true_and]),cl0⟩
 cases h5:(lo1 == lo2)
 ·go_enter Tryz.func254,Tryz.ntmps254;go_wp2_with (first|(go_at_call 263;refine (HS.out _ cl0).mono ?_;rintro e w1 ⟨rfl,hb1⟩;(have hq7:=ru7;(try clear hc hf);obtain ⟨hb,hc,hf,hz⟩:=hq7;(try simp only [zsz7] at hz);(try have hz0:=z07 w w1);(try have hz1:=z17 w w1);(try have hz2:=z27 w w1)))|(go_at_call 47;refine (HI.out _ cl0).mono ?_;rintro e w1 ⟨rfl,hb1⟩;(have hq7:=ru7;(try clear hc hf);obtain ⟨hb,hc,hf,hz⟩:=hq7;(try simp only [zsz7] at hz);(try have hz0:=z07 w w1);(try have hz1:=z17 w w1);(try have hz2:=z27 w w1))));go_ret
  exact ⟨ab0 (by simp only [aF9,seq,h1,h2,h3,h4,h5,Bool.false_and,Bool.true_and]),cl0⟩
 cases h6:(hi1 == hi2)
 ·go_enter Tryz.func254,Tryz.ntmps254;go_wp2_with (first|(go_at_call 263;refine (HS.out _ cl0).mono ?_;rintro e w1 ⟨rfl,hb1⟩;(have hq7:=ru7;(try clear hc hf);obtain ⟨hb,hc,hf,hz⟩:=hq7;(try simp only [zsz7] at hz);(try have hz0:=z07 w w1);(try have hz1:=z17 w w1);(try have hz2:=z27 w w1)))|(go_at_call 47;refine (HI.out _ cl0).mono ?_;rintro e w1 ⟨rfl,hb1⟩;(have hq7:=ru7;(try clear hc hf);obtain ⟨hb,hc,hf,hz⟩:=hq7;(try simp only [zsz7] at hz);(try have hz0:=z07 w w1);(try have hz1:=z17 w w1);(try have hz2:=z27 w w1))));go_ret
  exact ⟨ab0 (by simp only [aF9,seq,h1,h2,h3,h4,h5,h6,Bool.false_and,Bool.true_and]),cl0⟩
 cases h7:at0 seq ws1 ws2
 ·go_enter Tryz.func254,Tryz.ntmps254;go_wp2_with (first|(go_at_call 263;refine (HS.out _ cl0).mono ?_;rintro e w1 ⟨rfl,hb1⟩;(have hq7:=ru7;(try clear hc hf);obtain ⟨hb,hc,hf,hz⟩:=hq7;(try simp only [zsz7] at hz);(try have hz0:=z07 w w1);(try have hz1:=z17 w w1);(try have hz2:=z27 w w1)))|(go_at_call 47;refine (HI.out _ cl0).mono ?_;rintro e w1 ⟨rfl,hb1⟩;(have hq7:=ru7;(try clear hc hf);obtain ⟨hb,hc,hf,hz⟩:=hq7;(try simp only [zsz7] at hz);(try have hz0:=z07 w w1);(try have hz1:=z17 w w1);(try have hz2:=z27 w w1))));go_ret
  exact ⟨ab0 (by simp only [aF9,h7,Bool.false_and,Bool.and_false]),cl0⟩
 ·have HR:Hid (aF9 ⟨n1,o1,u1,k1,lo1,hi1,ws1,gs1⟩ ⟨n2,o2,u2,k2,lo2,hi2,ws2,gs2⟩=at0 ieq gs1 gs2):=Lib.hid (by simp only [aF9,seq,h1,h2,h3,h4,h5,h6,Bool.true_and];simp only [show at0 (fun a b:ByteArray=>a.toList == b.toList) ws1 ws2=true from h7,show at0 seq ws1 ws2=true from h7,Bool.true_and])
  go_enter Tryz.func254,Tryz.ntmps254;go_wp2_with (first|(go_at_call 263;refine (HS.out _ cl0).mono ?_;rintro e w1 ⟨rfl,hb1⟩;(have hq7:=ru7;(try clear hc hf);obtain ⟨hb,hc,hf,hz⟩:=hq7;(try simp only [zsz7] at hz);(try have hz0:=z07 w w1);(try have hz1:=z17 w w1);(try have hz2:=z27 w w1)))|(go_at_call 47;refine (HI.out _ cl0).mono ?_;rintro e w1 ⟨rfl,hb1⟩;(have hq7:=ru7;(try clear hc hf);obtain ⟨hb,hc,hf,hz⟩:=hq7;(try simp only [zsz7] at hz);(try have hz0:=z07 w w1);(try have hz1:=z17 w w1);(try have hz2:=z27 w w1))));go_ret
  exact ⟨ab0 HR.out.symm,cl0⟩
end
section
open Go.RowKit Go.Shelf
theorem bG4 (f:Fld) (w:World) {F:Nat→Prop} {wa ga:Option Addr} {wc gc:Nat} (hw:av6 w F f.words wa wc) (hg:RInts w F f.weights ga gc) :
  Calls Tryz.prog 255 #[.agg #[.string f.name,.string f.of,.string f.up,.int .i64 f.kind,.int .i64 f.lo,.int .i64 f.hi,.slice wa f.words.length wc,.slice ga f.weights.length gc]] w
   fun e w'=>∃ wa' wc' ga' gc',e = .returned (.agg #[.string (at5 f).name,.string (at5 f).of,.string (at5 f).up,.int .i64 (at5 f).kind,.int .i64 (at5 f).lo,.int .i64 (at5 f).hi,.slice wa' (at5 f).words.length wc',.slice ga' (at5 f).weights.length gc']) ∧
    av6 w' F (at5 f).words wa' wc'∧RInts w' F (at5 f).weights ga' gc'∧Ex w w':=by
 obtain ⟨n,o,u,k,lo,hi,ws,gs⟩:=f
 simp only at *
 by_cases h0:k=0
 ·subst h0;exact (cg4 n o u lo hi wa ga _ wc _ gc w).mono fun e w' ⟨h1,h2⟩=>⟨_,_,_,_,h1,Row.nil,Row.nil,h2⟩
 by_cases h1:k=1
 ·subst h1;exact (cg3 n o u lo hi wa ga _ wc _ gc w).mono fun e w' ⟨h1,h2⟩=>⟨_,_,_,_,h1,Row.nil,Row.nil,h2⟩
 by_cases h2:k=2
 ·subst h2;exact (cg2 n o u lo hi wa ga _ wc _ gc w).mono fun e w' ⟨h1,h2⟩=>⟨_,_,_,_,h1,Row.nil,Row.nil,h2⟩
 by_cases h3:k=3
 ·subst h3;exact (cg1 n o u lo hi wa ga _ wc _ gc w).mono fun e w' ⟨h1,h2⟩=>⟨_,_,_,_,h1,hw.keep h2.same (fun _ h=>h) (fun _ _ _ h=>h),hg.keep h2.same (fun _ h=>h) (fun _ _ _ h=>h),h2⟩
 by_cases h4:k=4
 ·subst h4;exact (cg0 n o u lo hi wa ga _ wc _ gc w).mono fun e w' ⟨h1,h2⟩=>⟨_,_,_,_,h1,Row.nil,Row.nil,h2⟩
 by_cases h5:k=5
 ·subst h5;exact (cf9 n o u lo hi wa ga _ wc _ gc w).mono fun e w' ⟨h1,h2⟩=>⟨_,_,_,_,h1,Row.nil,Row.nil,h2⟩
 by_cases h6:k=6
 ·subst h6;exact (cf8 n o u lo hi wa ga _ wc _ gc w).mono fun e w' ⟨h1,h2⟩=>⟨_,_,_,_,h1,Row.nil,Row.nil,h2⟩
 by_cases h7:k=7
 ·subst h7;exact (cf7 n o u lo hi wa ga _ wc _ gc w).mono fun e w' ⟨h1,h2⟩=>⟨_,_,_,_,h1,Row.nil,Row.nil,h2⟩
 by_cases h8:k=8
 ·subst h8;exact (cf6 n o u lo hi wa ga _ wc _ gc w).mono fun e w' ⟨h1,h2⟩=>⟨_,_,_,_,h1,Row.nil,Row.nil,h2⟩
 have H:=bT5 n o u k (by simp [h0]) (by simp [h1]) (by simp [h2]) (by simp [h3]) (by simp [h4]) (by simp [h5]) (by simp [h6]) (by simp [h7]) (by simp [h8]) lo hi wa ga ws.length wc gs.length gc w
 have e1:at5 ⟨n,o,u,k,lo,hi,ws,gs⟩=⟨n,nos,nos,k,0,0,[],[]⟩:=by simp [at5,ar0,aq9,ar1,aq1,aq0, *]
 rw [e1]
 exact H.mono fun e w' ⟨h1,h2⟩=>⟨_,_,_,_,h1,Row.nil,Row.nil,h2⟩
theorem bV5 (a:ByteArray):seq a nos=isE a:=by
 have:seq a nos=decide (a=nos):=by
  rw [Bool.eq_iff_iff,bd3];simp
 rw [this,isE,ByteArray.toList_eq]
 obtain ⟨⟨l⟩⟩:=a
 cases l <;> simp [nos]
theorem aE3 {α:Type} {eq:α→α→Bool} (h:∀ a,eq a a=true):∀ l:List α,at0 eq l l=true
 | []=>rfl
 | x :: l=>by simp [at0,h x,aE3 h l]
theorem bA3 {α:Type} {eq:α→α→Bool}:∀ l:List α,at0 eq l []=l.isEmpty
 | []=>rfl
 | _ :: _=>rfl
theorem bt6 (f:Fld):aF9 f (at5 f)=aB1 f:=by
 obtain ⟨n,o,u,k,lo,hi,ws,gs⟩:=f
 have hs:∀ (c:Bool) (x:ByteArray),seq x (if c=true then x else nos)=(c || isE x):=fun c x=>by cases c <;> simp [aA4,bV5]
 have hi':∀ (c:Bool) (x:Int),(x == (if c=true then x else 0))=(c || x == 0):=fun c x=>by cases c <;> simp
 have hl:∀ (c:Bool),(at0 seq ws (if c=true then ws else []) && at0 ieq gs (if c=true then gs else []))=(c || (ws.isEmpty && gs.isEmpty)):=fun c=>by
  cases c <;> simp [aE3 aA4,aE3 (eq:=ieq) (by simp [ieq]),bA3]
 simp only [aF9,at5,aB1,hs,hi',hl,aA4,Bool.true_and,beq_self_eq_true,Bool.and_assoc]
structure aH9 (n o u:ByteArray) (k lo hi:Int) (nw ng:Nat) (sb:Bool) (w:World) (wa ga:Option Addr) (wc gc:Nat) (fo:Fld) (RW RG:World→Option Addr→Nat→Prop):Prop where
 only:∀ w',Ex w w'→Calls Tryz.prog 255 #[.agg #[.string n,.string o,.string u,.int .i64 k,.int .i64 lo,.int .i64 hi,.slice wa nw wc,.slice ga ng gc]] w'
   fun e w2=>∃ wa1 wc1 ga1 gc1,e = .returned (.agg #[.string fo.name,.string fo.of,.string fo.up,.int .i64 fo.kind,.int .i64 fo.lo,.int .i64 fo.hi,.slice wa1 fo.words.length wc1,.slice ga1 fo.weights.length gc1]) ∧
    Ex w' w2∧Hid (RW w2 wa1 wc1∧RG w2 ga1 gc1)
 same:∀ w' wa1 wc1 ga1 gc1,Ex w w'→RW w' wa1 wc1→RG w' ga1 gc1→Calls Tryz.prog 254 #[.agg #[.string n,.string o,.string u,.int .i64 k,.int .i64 lo,.int .i64 hi,.slice wa nw wc,.slice ga ng gc],
   .agg #[.string fo.name,.string fo.of,.string fo.up,.int .i64 fo.kind,.int .i64 fo.lo,.int .i64 fo.hi,.slice wa1 fo.words.length wc1,.slice ga1 fo.weights.length gc1]] w' fun e w2=>e = .returned (.bool sb)∧Ex w' w2
 keepW:∀ w' w2 a c,Ex w' w2→RW w' a c→RW w2 a c
 keepG:∀ w' w2 a c,Ex w' w2→RG w' a c→RG w2 a c
theorem bI5 (f:Fld) (w:World) {F:Nat→Prop} {wa ga:Option Addr} {wc gc:Nat} (hw:av6 w F f.words wa wc) (hg:RInts w F f.weights ga gc) (hx:SmF f) :
  aH9 f.name f.of f.up f.kind f.lo f.hi f.words.length f.weights.length (aB1 f) w wa ga wc gc (at5 f) (fun w' a c=>av6 w' F (at5 f).words a c) (fun w' a c=>RInts w' F (at5 f).weights a c):=by
 refine ⟨fun w' he=>(bG4 f w' (hw.keep he.same (fun _ h=>h) (fun _ _ _ h=>h)) (hg.keep he.same (fun _ h=>h) (fun _ _ _ h=>h))).mono fun e w2 ⟨a1,a2,a3,a4,h1,h2,h3,h4⟩=>⟨a1,a2,a3,a4,h1,h4,h2,h3⟩,
  fun w' wa1 wc1 ga1 gc1 he h1 h2=>?_,fun w' w2 a c he h=>h.keep he.same (fun _ h=>h) (fun _ _ _ h=>h),fun w' w2 a c he h=>h.keep he.same (fun _ h=>h) (fun _ _ _ h=>h)⟩
 have:=bE2 f (at5 f) w' (hw.keep he.same (fun _ h=>h) (fun _ _ _ h=>h)) (hg.keep he.same (fun _ h=>h) (fun _ _ _ h=>h)) (wa':=wa1) (wc':=wc1) (ga':=ga1) (gc':=gc1) (G:=F) h1 h2 hx.nwords hx.nweights
  (by have:=hx.nwords;unfold at5;simp only;split <;> simp_all) (by have:=hx.nweights;unfold at5;simp only;split <;> simp_all)
 rw [bt6] at this
 exact this
theorem bx4 (k:Int) (n o u:ByteArray) (lo hi:Int) (nw ng:Nat) (w:World) (wa ga:Option Addr) (cw cg:Nat) (fo:Fld) (RW RG:World→Option Addr→Nat→Prop) (hr1:n.size≤9223372036854775807) (hr2:o.size≤9223372036854775807) (hr3:u.size≤9223372036854775807) (sb:Bool) (HA:aH9 n o u k lo hi nw ng sb w wa ga cw cg fo RW RG) (h1:isNm n=false) :
  Calls Tryz.prog 228 #[.agg #[.string n,.string o,.string u,.int .i64 k,.int .i64 lo,.int .i64 hi,.slice wa nw cw,.slice ga ng cg]] w fun e w'=>e = .returned (.bool false)∧Ex w w':=by
 go_enter Tryz.func228,Tryz.ntmps228
 go_wp2
 go_region_with (first|(go_at_call 225;refine (ab9 _ _ (by first|exact hr1|exact hr2|exact hr3)).mono ?_;rintro e w1 ⟨rfl,hb1⟩;(have hq7:=ru7;(try clear hc hf);obtain ⟨hb,hc,hf,hz⟩:=hq7;(try simp only [zsz7] at hz);(try have hz0:=z07 w w1);(try have hz1:=z17 w w1);(try have hz2:=z27 w w1)))|(go_at_call 255;refine (HA.only _ cl0).mono ?_;rintro e w1 ⟨wa1,wc1,ga1,gc1,rfl,hb1,hw1⟩;(have hq7:=ru7;(try clear hc hf);obtain ⟨hb,hc,hf,hz⟩:=hq7;(try simp only [zsz7] at hz);(try have hz0:=z07 w w1);(try have hz1:=z17 w w1);(try have hz2:=z27 w w1)))|(go_at_call 254;refine (HA.same _ _ _ _ _ cl0 hw1.out.1 hw1.out.2).mono ?_;rintro e w1 ⟨rfl,hb1⟩;(have hq7:=ru7;(try clear hc hf);obtain ⟨hb,hc,hf,hz⟩:=hq7;(try simp only [zsz7] at hz);(try have hz0:=z07 w w1);(try have hz1:=z17 w w1);(try have hz2:=z27 w w1))))
 all_goals go_wp2
 all_goals go_ret
 all_goals exact ⟨rfl,cl0⟩
theorem bx3 (k:Int) (n o u:ByteArray) (lo hi:Int) (nw ng:Nat) (w:World) (wa ga:Option Addr) (cw cg:Nat) (fo:Fld) (RW RG:World→Option Addr→Nat→Prop) (hr1:n.size≤9223372036854775807) (hr2:o.size≤9223372036854775807) (hr3:u.size≤9223372036854775807) (HA:aH9 n o u k lo hi nw ng false w wa ga cw cg fo RW RG) (h1:isNm n=true) :
  Calls Tryz.prog 228 #[.agg #[.string n,.string o,.string u,.int .i64 k,.int .i64 lo,.int .i64 hi,.slice wa nw cw,.slice ga ng cg]] w fun e w'=>e = .returned (.bool false)∧Ex w w':=by
 go_enter Tryz.func228,Tryz.ntmps228
 go_wp2
 go_region_with (first|(go_at_call 225;refine (ab9 _ _ (by first|exact hr1|exact hr2|exact hr3)).mono ?_;rintro e w1 ⟨rfl,hb1⟩;(have hq7:=ru7;(try clear hc hf);obtain ⟨hb,hc,hf,hz⟩:=hq7;(try simp only [zsz7] at hz);(try have hz0:=z07 w w1);(try have hz1:=z17 w w1);(try have hz2:=z27 w w1)))|(go_at_call 255;refine (HA.only _ cl0).mono ?_;rintro e w1 ⟨wa1,wc1,ga1,gc1,rfl,hb1,hw1⟩;(have hq7:=ru7;(try clear hc hf);obtain ⟨hb,hc,hf,hz⟩:=hq7;(try simp only [zsz7] at hz);(try have hz0:=z07 w w1);(try have hz1:=z17 w w1);(try have hz2:=z27 w w1)))|(go_at_call 254;refine (HA.same _ _ _ _ _ cl0 hw1.out.1 hw1.out.2).mono ?_;rintro e w1 ⟨rfl,hb1⟩;(have hq7:=ru7;(try clear hc hf);obtain ⟨hb,hc,hf,hz⟩:=hq7;(try simp only [zsz7] at hz);(try have hz0:=z07 w w1);(try have hz1:=z17 w w1);(try have hz2:=z27 w w1))))
 all_goals go_wp2
 all_goals go_ret
 all_goals exact ⟨rfl,cl0⟩
end
section
open Go.RowKit Go.Shelf
def aB8 (k:Int) (o u:ByteArray) (lo hi:Int) (pk:Bool):Bool:=
   if k=0 then ac1 lo (-1048576) 1048576
   else if k=1 then isNm o && aw1 lo hi 0 65536
   else if k=2 then aw1 lo hi (-1048576) 1048576
   else if k=3 then pk
   else if k=4 then (isE o || isNm o) && aw1 lo hi (-1048576) 1048576
   else if k=5 then isNm o && aw1 lo hi 0 32
   else if k=6 then isNm o
   else if k=7 then isNm o && isNm u && aw1 lo hi 0 1048576
   else if k=8 then isNm o && isNm u
   else false
theorem bx2 (k:Int) (n o u:ByteArray) (lo hi:Int) (nw ng:Nat) (w:World) (wa ga:Option Addr) (cw cg:Nat) (fo:Fld) (RW RG:World→Option Addr→Nat→Prop) (hr1:n.size≤9223372036854775807) (hr2:o.size≤9223372036854775807) (hr3:u.size≤9223372036854775807) (pk:Bool) (HP:Hid (∀ w',Ex w w'→Calls Tryz.prog 256 #[.slice wa nw cw,.slice ga ng cg] w' fun e w2=>e = .returned (.bool pk)∧Ex w' w2))
  (HA:aH9 n o u k lo hi nw ng true w wa ga cw cg fo RW RG) (h1:isNm n=true) :
  Calls Tryz.prog 228 #[.agg #[.string n,.string o,.string u,.int .i64 k,.int .i64 lo,.int .i64 hi,.slice wa nw cw,.slice ga ng cg]] w fun e w'=>e = .returned (.bool (aB8 k o u lo hi pk))∧Ex w w':=by
 go_enter Tryz.func228,Tryz.ntmps228
 go_upto_region 1 with fail
 go_cut [13] (fun s13 wx=>s13 = .bool false∧Ex (w.alloc (.cells #[.string n,.string o,.string u,.int .i64 k,.int .i64 lo,.int .i64 hi,.slice wa nw cw,.slice ga ng cg] 97)) wx)
 case first=>
  go_region_with (first|(go_at_call 225;refine (ab9 _ _ (by first|exact hr1|exact hr2|exact hr3)).mono ?_;rintro e w1 ⟨rfl,hb1⟩;(have hq7:=ru7;(try clear hc hf);obtain ⟨hb,hc,hf,hz⟩:=hq7;(try simp only [zsz7] at hz);(try have hz0:=z07 w w1);(try have hz1:=z17 w w1);(try have hz2:=z27 w w1)))|(go_at_call 255;refine (HA.only _ cl0).mono ?_;rintro e w1 ⟨wa1,wc1,ga1,gc1,rfl,hb1,hw1⟩;(have hq7:=ru7;(try clear hc hf);obtain ⟨hb,hc,hf,hz⟩:=hq7;(try simp only [zsz7] at hz);(try have hz0:=z07 w w1);(try have hz1:=z17 w w1);(try have hz2:=z27 w w1)))|(go_at_call 254;refine (HA.same _ _ _ _ _ cl0 hw1.out.1 hw1.out.2).mono ?_;rintro e w1 ⟨rfl,hb1⟩;(have hq7:=ru7;(try clear hc hf);obtain ⟨hb,hc,hf,hz⟩:=hq7;(try simp only [zsz7] at hz);(try have hz0:=z07 w w1);(try have hz1:=z17 w w1);(try have hz2:=z27 w w1))))
  all_goals (go_wp2_with fail;go_meet;exact ⟨rfl,cl0⟩)
 case rest=>
  obtain ⟨rfl,hb⟩:=hcut
  obtain ⟨hc,hf⟩:=hb.rules
  have hz:=hb.size
  simp only [World.size_alloc] at hz
  have hz0:w.heap.size<wc.heap.size:=by omega
  by_cases q0:k=0
  ·subst q0
   go_wp2_with (first|(go_at_call 225;refine (ab9 _ _ (by first|exact hr1|exact hr2|exact hr3)).mono ?_;rintro e w1 ⟨rfl,hb1⟩;(have hq7:=ru7;(try clear hc hf);obtain ⟨hb,hc,hf,hz⟩:=hq7;(try simp only [zsz7] at hz);(try have hz0:=z07 w w1);(try have hz1:=z17 w w1);(try have hz2:=z27 w w1)))|(go_at_call 189;refine (ab3 _ _ _ _).mono ?_;rintro e w2 ⟨rfl,rfl⟩)|(go_at_call 226;refine (ah1 _ _ _ _ _).mono ?_;rintro e w2 ⟨rfl,rfl⟩));go_ret;exact ⟨ab0 (by simp [aB8]),cl0⟩
  by_cases q1:k=1
  ·subst q1
   cases h2:isNm o
   all_goals (go_wp2_with (first|(go_at_call 225;refine (ab9 _ _ (by first|exact hr1|exact hr2|exact hr3)).mono ?_;rintro e w1 ⟨rfl,hb1⟩;(have hq7:=ru7;(try clear hc hf);obtain ⟨hb,hc,hf,hz⟩:=hq7;(try simp only [zsz7] at hz);(try have hz0:=z07 w w1);(try have hz1:=z17 w w1);(try have hz2:=z27 w w1)))|(go_at_call 189;refine (ab3 _ _ _ _).mono ?_;rintro e w2 ⟨rfl,rfl⟩)|(go_at_call 226;refine (ah1 _ _ _ _ _).mono ?_;rintro e w2 ⟨rfl,rfl⟩));go_ret;exact ⟨ab0 (by simp [aB8,h2]),cl0⟩)
  by_cases q2:k=2
  ·subst q2
   go_wp2_with (first|(go_at_call 225;refine (ab9 _ _ (by first|exact hr1|exact hr2|exact hr3)).mono ?_;rintro e w1 ⟨rfl,hb1⟩;(have hq7:=ru7;(try clear hc hf);obtain ⟨hb,hc,hf,hz⟩:=hq7;(try simp only [zsz7] at hz);(try have hz0:=z07 w w1);(try have hz1:=z17 w w1);(try have hz2:=z27 w w1)))|(go_at_call 189;refine (ab3 _ _ _ _).mono ?_;rintro e w2 ⟨rfl,rfl⟩)|(go_at_call 226;refine (ah1 _ _ _ _ _).mono ?_;rintro e w2 ⟨rfl,rfl⟩));go_ret;exact ⟨ab0 (by simp [aB8]),cl0⟩
  by_cases q3:k=3
  ·subst q3
   go_wp2_with (first|(go_at_call 225;refine (ab9 _ _ (by first|exact hr1|exact hr2|exact hr3)).mono ?_;rintro e w1 ⟨rfl,hb1⟩;(have hq7:=ru7;(try clear hc hf);obtain ⟨hb,hc,hf,hz⟩:=hq7;(try simp only [zsz7] at hz);(try have hz0:=z07 w w1);(try have hz1:=z17 w w1);(try have hz2:=z27 w w1)))|(go_at_call 189;refine (ab3 _ _ _ _).mono ?_;rintro e w2 ⟨rfl,rfl⟩)|(go_at_call 226;refine (ah1 _ _ _ _ _).mono ?_;rintro e w2 ⟨rfl,rfl⟩)|(go_at_call 256;refine (HP.out _ cl0).mono ?_;rintro e w1 ⟨rfl,hb1⟩;(have hq7:=ru7;(try clear hc hf);obtain ⟨hb,hc,hf,hz⟩:=hq7;(try simp only [zsz7] at hz);(try have hz0:=z07 w w1);(try have hz1:=z17 w w1);(try have hz2:=z27 w w1))));go_ret;exact ⟨ab0 (by simp [aB8]),cl0⟩
  by_cases q4:k=4
  ·subst q4
   cases h2:o.toList.isEmpty
   ·cases h3:isNm o
    all_goals (go_wp2_with (first|(go_at_call 225;refine (ab9 _ _ (by first|exact hr1|exact hr2|exact hr3)).mono ?_;rintro e w1 ⟨rfl,hb1⟩;(have hq7:=ru7;(try clear hc hf);obtain ⟨hb,hc,hf,hz⟩:=hq7;(try simp only [zsz7] at hz);(try have hz0:=z07 w w1);(try have hz1:=z17 w w1);(try have hz2:=z27 w w1)))|(go_at_call 189;refine (ab3 _ _ _ _).mono ?_;rintro e w2 ⟨rfl,rfl⟩)|(go_at_call 226;refine (ah1 _ _ _ _ _).mono ?_;rintro e w2 ⟨rfl,rfl⟩));go_ret;exact ⟨ab0 (by simp [aB8,isE,h2,h3]),cl0⟩)
   ·go_wp2_with (first|(go_at_call 225;refine (ab9 _ _ (by first|exact hr1|exact hr2|exact hr3)).mono ?_;rintro e w1 ⟨rfl,hb1⟩;(have hq7:=ru7;(try clear hc hf);obtain ⟨hb,hc,hf,hz⟩:=hq7;(try simp only [zsz7] at hz);(try have hz0:=z07 w w1);(try have hz1:=z17 w w1);(try have hz2:=z27 w w1)))|(go_at_call 189;refine (ab3 _ _ _ _).mono ?_;rintro e w2 ⟨rfl,rfl⟩)|(go_at_call 226;refine (ah1 _ _ _ _ _).mono ?_;rintro e w2 ⟨rfl,rfl⟩));go_ret;exact ⟨ab0 (by simp [aB8,isE,h2]),cl0⟩
  by_cases q5:k=5
  ·subst q5
   cases h2:isNm o
   all_goals (go_wp2_with (first|(go_at_call 225;refine (ab9 _ _ (by first|exact hr1|exact hr2|exact hr3)).mono ?_;rintro e w1 ⟨rfl,hb1⟩;(have hq7:=ru7;(try clear hc hf);obtain ⟨hb,hc,hf,hz⟩:=hq7;(try simp only [zsz7] at hz);(try have hz0:=z07 w w1);(try have hz1:=z17 w w1);(try have hz2:=z27 w w1)))|(go_at_call 189;refine (ab3 _ _ _ _).mono ?_;rintro e w2 ⟨rfl,rfl⟩)|(go_at_call 226;refine (ah1 _ _ _ _ _).mono ?_;rintro e w2 ⟨rfl,rfl⟩));go_ret;exact ⟨ab0 (by simp [aB8,h2]),cl0⟩)
  by_cases q6:k=6
  ·subst q6
   go_wp2_with (first|(go_at_call 225;refine (ab9 _ _ (by first|exact hr1|exact hr2|exact hr3)).mono ?_;rintro e w1 ⟨rfl,hb1⟩;(have hq7:=ru7;(try clear hc hf);obtain ⟨hb,hc,hf,hz⟩:=hq7;(try simp only [zsz7] at hz);(try have hz0:=z07 w w1);(try have hz1:=z17 w w1);(try have hz2:=z27 w w1)))|(go_at_call 189;refine (ab3 _ _ _ _).mono ?_;rintro e w2 ⟨rfl,rfl⟩)|(go_at_call 226;refine (ah1 _ _ _ _ _).mono ?_;rintro e w2 ⟨rfl,rfl⟩));go_ret;exact ⟨ab0 (by simp [aB8]),cl0⟩
  by_cases q7:k=7
  ·subst q7
   cases h2:isNm o
   ·go_wp2_with (first|(go_at_call 225;refine (ab9 _ _ (by first|exact hr1|exact hr2|exact hr3)).mono ?_;rintro e w1 ⟨rfl,hb1⟩;(have hq7:=ru7;(try clear hc hf);obtain ⟨hb,hc,hf,hz⟩:=hq7;(try simp only [zsz7] at hz);(try have hz0:=z07 w w1);(try have hz1:=z17 w w1);(try have hz2:=z27 w w1)))|(go_at_call 189;refine (ab3 _ _ _ _).mono ?_;rintro e w2 ⟨rfl,rfl⟩)|(go_at_call 226;refine (ah1 _ _ _ _ _).mono ?_;rintro e w2 ⟨rfl,rfl⟩));go_ret;exact ⟨ab0 (by simp [aB8,h2]),cl0⟩
   ·cases h3:isNm u
    all_goals (go_wp2_with (first|(go_at_call 225;refine (ab9 _ _ (by first|exact hr1|exact hr2|exact hr3)).mono ?_;rintro e w1 ⟨rfl,hb1⟩;(have hq7:=ru7;(try clear hc hf);obtain ⟨hb,hc,hf,hz⟩:=hq7;(try simp only [zsz7] at hz);(try have hz0:=z07 w w1);(try have hz1:=z17 w w1);(try have hz2:=z27 w w1)))|(go_at_call 189;refine (ab3 _ _ _ _).mono ?_;rintro e w2 ⟨rfl,rfl⟩)|(go_at_call 226;refine (ah1 _ _ _ _ _).mono ?_;rintro e w2 ⟨rfl,rfl⟩));go_ret;exact ⟨ab0 (by simp [aB8,h2,h3]),cl0⟩)
  by_cases q8:k=8
  ·subst q8
   cases h2:isNm o
   all_goals (go_wp2_with (first|(go_at_call 225;refine (ab9 _ _ (by first|exact hr1|exact hr2|exact hr3)).mono ?_;rintro e w1 ⟨rfl,hb1⟩;(have hq7:=ru7;(try clear hc hf);obtain ⟨hb,hc,hf,hz⟩:=hq7;(try simp only [zsz7] at hz);(try have hz0:=z07 w w1);(try have hz1:=z17 w w1);(try have hz2:=z27 w w1)))|(go_at_call 189;refine (ab3 _ _ _ _).mono ?_;rintro e w2 ⟨rfl,rfl⟩)|(go_at_call 226;refine (ah1 _ _ _ _ _).mono ?_;rintro e w2 ⟨rfl,rfl⟩));go_ret;exact ⟨ab0 (by simp [aB8,h2]),cl0⟩)
  have r0:(k == 0)=false:=by simp [q0]
  have r1:(k == 1)=false:=by simp [q1]
  have r2:(k == 2)=false:=by simp [q2]
  have r3:(k == 3)=false:=by simp [q3]
  have r4:(k == 4)=false:=by simp [q4]
  have r5:(k == 5)=false:=by simp [q5]
  have r6:(k == 6)=false:=by simp [q6]
  have r7:(k == 7)=false:=by simp [q7]
  have r8:(k == 8)=false:=by simp [q8]
  have HR:Hid (¬ k=0∧¬ k=1∧¬ k=2∧¬ k=3∧¬ k=4∧¬ k=5∧¬ k=6∧¬ k=7∧¬ k=8):=⟨q0,q1,q2,q3,q4,q5,q6,q7,q8⟩
  clear q0 q1 q2 q3 q4 q5 q6 q7 q8
  go_wp2_with fail
  go_ret
  obtain ⟨q0,q1,q2,q3,q4,q5,q6,q7,q8⟩:=HR.out
  exact ⟨ab0 (by simp only [aB8,q0,q1,q2,q3,q4,q5,q6,q7,q8,if_false]),cl0⟩
end
section
open Go.RowKit Go.Shelf
theorem bf2 (f:Fld) (w:World) {F:Nat→Prop} {wa ga:Option Addr} {wc gc:Nat} (hw:av6 w F f.words wa wc) (hg:RInts w F f.weights ga gc) (hx:SmF f) :
  Calls Tryz.prog 228 #[.agg #[.string f.name,.string f.of,.string f.up,.int .i64 f.kind,.int .i64 f.lo,.int .i64 f.hi,.slice wa f.words.length wc,.slice ga f.weights.length gc]] w
   fun e w'=>e = .returned (.bool (ac3 f))∧Ex w w':=by
 have HA:=bI5 f w hw hg hx
 cases h1:isNm f.name with
 | false=>
  have:=bx4 _ _ _ _ _ _ _ _ _ _ _ _ _ _ _ _ hx.name.le hx.of.le hx.up.le _ HA h1
  simpa [ac3,h1] using this
 | true=>
  cases h2:aB1 f with
  | false=>
   rw [h2] at HA
   have:=bx3 _ _ _ _ _ _ _ _ _ _ _ _ _ _ _ _ hx.name.le hx.of.le hx.up.le HA h1
   simpa [ac3,h1,h2] using this
  | true=>
   rw [h2] at HA
   have HP:Hid (∀ w',Ex w w'→Calls Tryz.prog 256 #[.slice wa f.words.length wc,.slice ga f.weights.length gc] w' fun e w2=>e = .returned (.bool (ag1 f.words f.weights))∧Ex w' w2):=
    fun w' he=>bo1 f.words f.weights w' (hw.keep he.same (fun _ h=>h) (fun _ _ _ h=>h)) (hg.keep he.same (fun _ h=>h) (fun _ _ _ h=>h)) (fun s hs=>(hx.words s hs).le) hx.nweights hx.nwords
   have:=bx2 _ _ _ _ _ _ _ _ _ _ _ _ _ _ _ _ hx.name.le hx.of.le hx.up.le _ HP HA h1
   have e:ac3 f=aB8 f.kind f.of f.up f.lo f.hi (ag1 f.words f.weights):=by simp only [ac3,h1,h2,Bool.true_and];rfl
   rw [e];exact this
theorem aZ1 (w:World) {F:Nat→Prop} {l:List Fld} (hl:∀ f,f∈l→SmF f):Asks Tryz.prog 228 #[] w ag2 (RFld w F) l ac3:=by
 refine ⟨enters_of Tryz.func228 (by kernel_rfl) rfl,fun f vs W hm hr hW=>?_⟩
 obtain ⟨wa,wc,ga,gc,rfl,_,_,_,h1,h2⟩:=hr
 exact bf2 f W (h1.keep hW.same (fun _ h=>h) (fun _ _ _ h=>h)) (h2.keep hW.same (fun _ h=>h) (fun _ _ _ h=>h)) (hl f hm)
theorem Asks.rel {α:Type} {P:Program} {g:FuncId} {cb:Array Value} {w:World} {arg:List Value→Value} {R R':α→List Value→Prop} {xs:List α} {p:α→Bool} (h:Asks P g cb w arg R xs p) (hR:∀ x vs,R' x vs→R x vs):Asks P g cb w arg R' xs p:=
 ⟨h.enters,fun x vs W hm hr hw=>h.says x vs W hm (hR x vs hr) hw⟩
theorem bo3 (x:Knd) (w:World) {F:Nat→Prop} {fa:Option Addr} {fc:Nat} (hw:RFlds w F x.fields fa fc) (hx:SmK x) :
  Calls Tryz.prog 191 #[.agg #[.string x.name,.int .i64 x.lo,.int .i64 x.hi,.slice fa x.fields.length fc]] w fun e w'=>e = .returned (.bool (al8 x))∧Ex w w':=by
 have hr1:=hx.name.le
 have hl:=hx.nfields
 have HF:=Lib.hid (fun (w':World) (he:Ex w w')=>ca4 (w0:=w) (F0:=F) (Row.keep (w':=w') hw he.same (fun _ h=>h) (fun _ _ _ h=>h)) (by omega) ((aZ1 w hx.fields).mono he))
 clear hx hw
 obtain ⟨name,lo,hi,fs⟩:=x
 simp only at *
 cases h1:isNm name
 ·go_enter Tryz.func191,Tryz.ntmps191;go_wp2_with (first|(go_at_call 225;refine (ab9 _ _ hr1).mono ?_;rintro e w1 ⟨rfl,hb1⟩;(have hq7:=ru7;(try clear hc hf);obtain ⟨hb,hc,hf,hz⟩:=hq7;(try simp only [zsz7] at hz);(try have hz0:=z07 w w1);(try have hz1:=z17 w w1);(try have hz2:=z27 w w1)))|(go_at_call 226;refine (ah1 _ _ _ _ _).mono ?_;rintro e w2 ⟨rfl,rfl⟩)|(go_at_call 227;refine (HF.out _ cl0).mono ?_;rintro e w1 ⟨rfl,hb1⟩;(have hq7:=ru7;(try clear hc hf);obtain ⟨hb,hc,hf,hz⟩:=hq7;(try simp only [zsz7] at hz);(try have hz0:=z07 w w1);(try have hz1:=z17 w w1);(try have hz2:=z27 w w1))));go_ret
  exact ⟨ab0 (by simp [al8,h1]),cl0⟩
 cases h2:aw1 lo hi 0 65536
 ·go_enter Tryz.func191,Tryz.ntmps191;go_wp2_with (first|(go_at_call 225;refine (ab9 _ _ hr1).mono ?_;rintro e w1 ⟨rfl,hb1⟩;(have hq7:=ru7;(try clear hc hf);obtain ⟨hb,hc,hf,hz⟩:=hq7;(try simp only [zsz7] at hz);(try have hz0:=z07 w w1);(try have hz1:=z17 w w1);(try have hz2:=z27 w w1)))|(go_at_call 226;refine (ah1 _ _ _ _ _).mono ?_;rintro e w2 ⟨rfl,rfl⟩)|(go_at_call 227;refine (HF.out _ cl0).mono ?_;rintro e w1 ⟨rfl,hb1⟩;(have hq7:=ru7;(try clear hc hf);obtain ⟨hb,hc,hf,hz⟩:=hq7;(try simp only [zsz7] at hz);(try have hz0:=z07 w w1);(try have hz1:=z17 w w1);(try have hz2:=z27 w w1))));go_ret
  exact ⟨ab0 (by simp [al8,h2]),cl0⟩
 by_cases h4:(fs.length:Int)≤10
 ·have HR:Hid (al8 ⟨name,lo,hi,fs⟩=fs.all ac3):=Lib.hid (by simp [al8,h1,h2];intro;omega)
  go_enter Tryz.func191,Tryz.ntmps191;go_wp2_with (first|(go_at_call 225;refine (ab9 _ _ hr1).mono ?_;rintro e w1 ⟨rfl,hb1⟩;(have hq7:=ru7;(try clear hc hf);obtain ⟨hb,hc,hf,hz⟩:=hq7;(try simp only [zsz7] at hz);(try have hz0:=z07 w w1);(try have hz1:=z17 w w1);(try have hz2:=z27 w w1)))|(go_at_call 226;refine (ah1 _ _ _ _ _).mono ?_;rintro e w2 ⟨rfl,rfl⟩)|(go_at_call 227;refine (HF.out _ cl0).mono ?_;rintro e w1 ⟨rfl,hb1⟩;(have hq7:=ru7;(try clear hc hf);obtain ⟨hb,hc,hf,hz⟩:=hq7;(try simp only [zsz7] at hz);(try have hz0:=z07 w w1);(try have hz1:=z17 w w1);(try have hz2:=z27 w w1))));go_ret
  exact ⟨ab0 HR.out.symm,cl0⟩
 ·go_enter Tryz.func191,Tryz.ntmps191;go_wp2_with (first|(go_at_call 225;refine (ab9 _ _ hr1).mono ?_;rintro e w1 ⟨rfl,hb1⟩;(have hq7:=ru7;(try clear hc hf);obtain ⟨hb,hc,hf,hz⟩:=hq7;(try simp only [zsz7] at hz);(try have hz0:=z07 w w1);(try have hz1:=z17 w w1);(try have hz2:=z27 w w1)))|(go_at_call 226;refine (ah1 _ _ _ _ _).mono ?_;rintro e w2 ⟨rfl,rfl⟩)|(go_at_call 227;refine (HF.out _ cl0).mono ?_;rintro e w1 ⟨rfl,hb1⟩;(have hq7:=ru7;(try clear hc hf);obtain ⟨hb,hc,hf,hz⟩:=hq7;(try simp only [zsz7] at hz);(try have hz0:=z07 w w1);(try have hz1:=z17 w w1);(try have hz2:=z27 w w1))));go_ret
  exact ⟨ab0 (by simp [al8];intros;omega),cl0⟩
theorem bf1 (w:World) {F:Nat→Prop} {l:List Knd} (hl:∀ k,k∈l→SmK k):Asks Tryz.prog 191 #[] w ag2 (RKnd w F) l al8:=by
 refine ⟨enters_of Tryz.func191 (by kernel_rfl) rfl,fun k vs W hm hr hW=>?_⟩
 obtain ⟨fa,fc,rfl,_,_,h1⟩:=hr
 exact bo3 k W (RFlds.keep hW.same (fun _ h=>h) h1) (hl k hm)
theorem bf0 (w:World) {F:Nat→Prop} {l:List Lif} (hl:∀ k,k∈l→SmL k):Asks Tryz.prog 193 #[] w ag2 (RLif w F) l al7:=by
 refine ⟨enters_of Tryz.func193 (by kernel_rfl) rfl,fun k vs W hm hr hW=>?_⟩
 obtain ⟨sa,sc,ma,mc,rfl,h1,h2⟩:=hr
 exact bo2 k W (h1.keep hW.same (fun _ h=>h) (fun _ _ _ h=>h)) (h2.keep hW.same (fun _ h=>h) (fun _ _ _ h=>h)) (hl k hm)
theorem be9 (w:World) {l:List Rul} (hl:∀ k,k∈l→SmR k):Asks Tryz.prog 195 #[] w ag2 RRul l aw7:=by
 refine ⟨enters_of Tryz.func195 (by kernel_rfl) rfl,fun k vs W hm hr hW=>?_⟩
 obtain ⟨rfl,h1⟩:=hr
 exact bo0 k W (hl k hm)
end
section
open Go.RowKit Go.Shelf
theorem be7 {f:Fld} (h:aw6 f=true):0≤f.kind∧f.kind≤8:=by
 unfold aw6 at h
 repeat' split at h
 all_goals first|omega|simp at h
theorem bG0 {ws:List ByteArray} {gs:List Int} (h:ag1 ws gs=true):ws.length=gs.length∧ws.length≤12:=by
 simp only [ag1,Bool.and_eq_true,ac1,decide_eq_true_eq] at h
 omega
theorem by7 (f:Fld) (w:World) {F:Nat→Prop} {wa ga:Option Addr} {wc gc:Nat} (hw:av6 w F f.words wa wc) (hg:RInts w F f.weights ga gc) (hlo:I64 f.lo) (hhi:I64 f.hi) (hx:SmF f) (hv:ac3 f=true) (hb:an0 f≤1000000) (hp:Pow10 w) (hwd:WordsAt w) :
  Calls Tryz.prog 235 #[.agg #[.string f.name,.string f.of,.string f.up,.int .i64 f.kind,.int .i64 f.lo,.int .i64 f.hi,.slice wa f.words.length wc,.slice ga f.weights.length gc]] w
   fun e w'=>∃ s:ByteArray,e = .returned (.string s)∧s.size≤an0 f∧Ex w w':=by
 have hk:aw6 f=true:=by simp only [ac3,Bool.and_eq_true] at hv;exact hv.2
 have hr:=be7 hk
 obtain ⟨n,o,u,k,lo,hi,ws,gs⟩:=f
 have h1:=hx.name;have h2:=hx.of;have h3:=hx.up
 unfold SmS at h1 h2 h3
 simp only at *
 have key:∀ s:ByteArray,s.size≤16+n.size+o.size+u.size+intB lo+intB hi→s.size≤an0 ⟨n,o,u,k,lo,hi,ws,gs⟩:=fun s hs=>by unfold an0;simp only;omega
 by_cases k3:k=3
 ·subst k3
  have hpk:ag1 ws gs=true:=by simpa [aw6] using hk
  obtain ⟨hl,h12⟩:=bG0 hpk
  have hpb:=aX5 ws gs hl
  unfold an0 at hb
  simp only at hb
  refine (bX6 n o u lo hi ws gs w wa ga wc gc hw hg hl (by omega) h1 (by omega) hp hwd).mono ?_
  rintro e w' ⟨s,he,hs,hex⟩
  refine ⟨s,he,?_,hex⟩
  unfold an0;simp only;omega
 have h:k=0∨k=1∨k=2∨k=4∨k=5∨k=6∨k=7∨k=8:=by omega
 rcases h with rfl|rfl|rfl|rfl|rfl|rfl|rfl|rfl
 ·exact (bX9 n o u lo hi _ _ w wa ga wc gc h1 h2 h3 hlo hhi hp hwd).mono fun e w' ⟨s,he,hs,hex⟩=>⟨s,he,key s hs,hex⟩
 ·exact (bX8 n o u lo hi _ _ w wa ga wc gc h1 h2 h3 hlo hhi hp hwd).mono fun e w' ⟨s,he,hs,hex⟩=>⟨s,he,key s hs,hex⟩
 ·exact (bX7 n o u lo hi _ _ w wa ga wc gc h1 h2 h3 hlo hhi hp hwd).mono fun e w' ⟨s,he,hs,hex⟩=>⟨s,he,key s hs,hex⟩
 ·exact (bX5 n o u lo hi _ _ w wa ga wc gc h1 h2 h3 hlo hhi hp hwd).mono fun e w' ⟨s,he,hs,hex⟩=>⟨s,he,key s hs,hex⟩
 ·exact (bX4 n o u lo hi _ _ w wa ga wc gc h1 h2 h3 hlo hhi hp hwd).mono fun e w' ⟨s,he,hs,hex⟩=>⟨s,he,key s hs,hex⟩
 ·exact (bX3 n o u lo hi _ _ w wa ga wc gc h1 h2 h3 hlo hhi hp hwd).mono fun e w' ⟨s,he,hs,hex⟩=>⟨s,he,key s hs,hex⟩
 ·exact (bX2 n o u lo hi _ _ w wa ga wc gc h1 h2 h3 hlo hhi hp hwd).mono fun e w' ⟨s,he,hs,hex⟩=>⟨s,he,key s hs,hex⟩
 ·exact (bX1 n o u lo hi _ _ w wa ga wc gc h1 h2 h3 hlo hhi hp hwd).mono fun e w' ⟨s,he,hs,hex⟩=>⟨s,he,key s hs,hex⟩
theorem Wrote.ex' {w wr w':World} {B b n n':Nat} {O:Option Nat} (hB0:w.heap.size≤B) (he:Ex w wr) (hb:Bld wr B b n O) (hw:Wrote wr w' B b n' O):Ex w w':=by
 obtain ⟨hk,_⟩:=hw
 obtain ⟨l,p,v,_,_,hB,_,hown,hO,_⟩:=hb
 refine ⟨hk.os.trans (Keep.os he),hk.tape.trans (Keep.tape he),hk.output.trans (Keep.output he),Nat.le_trans he.size hk.size,fun x hx _=>?_⟩
 rw [hk.block x (Nat.lt_of_lt_of_le hx he.size) ?_]
 ·exact he.block x hx
 ·rintro (rfl|h)
  ·omega
  ·have:=(hown.lt x (by rw [hO,h])).1;omega
theorem Bld.own_lt {w:World} {B b n:Nat} {O:Option Nat} (h:Bld w B b n O):∀ x,O=some x→x<w.heap.size:=by
 obtain ⟨l,p,v,_,_,hB,_,hown,hO,_⟩:=h
 intro x hx
 exact (hown.lt x (by rw [hO,hx])).2
theorem Wrote.cell {w w':World} {B b n N i:Nat} {O:Option Nat} {v:Value} (hw:Wrote w w' B b n O) (hc:w.cell? ⟨N,i,none⟩=some v) (h1:N≠b) (h2:O≠some N):w'.cell? ⟨N,i,none⟩=some v:=
 hw.1.cell hc (by rintro (h|h);exact h1 h;exact h2 h.symm)
end
section
open Go.RowKit Go.Shelf
def SrcAt (W1:World) (B:Nat) (m:Nat) (wr:World):Prop:=Ex W1 wr∧∃ n O,Bld wr B B n O∧n≤m
theorem SrcAt.ex {W1 wr w':World} {B m:Nat} (h:SrcAt W1 B m wr) (he:Ex wr w'):SrcAt W1 B m w':=by
 obtain ⟨h1,n,O,h2,h3⟩:=h
 exact ⟨h1.trans he,n,O,h2.ex he,h3⟩
theorem SrcAt.mono {W1 wr:World} {B m m':Nat} (h:SrcAt W1 B m wr) (hm:m≤m'):SrcAt W1 B m' wr:=by
 obtain ⟨h1,n,O,h2,h3⟩:=h
 exact ⟨h1,n,O,h2,by omega⟩
theorem aI9 {W1 wr:World} {B m:Nat} (h:SrcAt W1 B m wr) (hB:W1.heap.size≤B) (s:ByteArray) (hm:m+s.size≤1000000000) :
  Calls Tryz.prog 163 #[.pointer (some ⟨B,0,none⟩),.string s] wr fun e w'=>e = .returned (.tuple #[.int .i64 s.size,.nilIface])∧SrcAt W1 B (m+s.size) w'∧wr.heap.size≤w'.heap.size:=by
 obtain ⟨h1,n,O,h2,h3⟩:=h
 refine (ai6 h2 s (by omega)).mono ?_
 rintro e w' ⟨rfl,hw⟩
 obtain ⟨O',hb'⟩:=hw.bld
 exact ⟨rfl,⟨Wrote.ex' hB h1 h2 hw,_,O',hb',by omega⟩,hw.1.size⟩
theorem as6 {W1 wr wn:World} {B m N:Nat} (h:SrcAt W1 B m wr) (hB:W1.heap.size≤B) (s:ByteArray) (hm:m+s.size≤1000000000) (hN:wr.heap.size≤N) (he:Ex wr wn) (hne:N≠B) :
  Calls Tryz.prog 163 #[.pointer (some ⟨B,0,none⟩),.string s] wn fun e w'=>e = .returned (.tuple #[.int .i64 s.size,.nilIface])∧SrcAt W1 B (m+s.size) w'∧wn.heap.size≤w'.heap.size∧∀ i v,wn.cell? ⟨N,i,none⟩=some v→w'.cell? ⟨N,i,none⟩=some v:=by
 obtain ⟨h1,n,O,h2,h3⟩:=h
 have h2':=h2.ex he
 refine (ai6 h2' s (by omega)).mono ?_
 rintro e w' ⟨rfl,hw⟩
 obtain ⟨O',hb'⟩:=hw.bld
 exact ⟨rfl,⟨Wrote.ex' hB (h1.trans he) h2' hw,_,O',hb',by omega⟩,hw.1.size,fun i v hc=>hw.cell hc hne (fun e=>by have:=h2.own_lt N e;omega)⟩
def ai3 (nm:ByteArray) (ss:List ByteArray) (j:Nat):List (Int ⊕ ByteArray):=Sum.inr nm :: Sum.inl (ss.length:Int) :: (ss.take j).map Sum.inr
theorem aK7 (nm:ByteArray) (ss:List ByteArray) (j:Nat) (h:j≤ss.length):(ai3 nm ss j).length=2+j:=by simp [ai3];omega
theorem aT7 (nm:ByteArray) (ss:List ByteArray) (j:Nat) (s:ByteArray) (h:ss[j]?=some s):ai3 nm ss (j+1)=ai3 nm ss j ++ [.inr s]:=by simp [ai3,List.take_add_one,h]
theorem bn8 (nm:ByteArray) (ss:List ByteArray):ac0 (ai3 nm ss ss.length)=2+nm.size+intB ss.length+sumB (fun s=>1+s.size) ss:=by
 simp only [ai3,List.take_of_length_le (Nat.le_refl _),ac0,List.map_cons,List.sum_cons,aq7,List.map_map,sumB]
 have:(aq7 ∘ (Sum.inr:ByteArray→Int ⊕ ByteArray))=fun s=>1+s.size:=by funext s;rfl
 rw [this];omega
theorem bT6 (a:Int ⊕ ByteArray):∀ u∈[anyV a],u.oneCell'=true:=by cases a <;> simp [anyV,Value.oneCell']
theorem bm4 (x:Sch) (w:World) {F:Nat→Prop} {ka la ra:Option Addr} {kc lc rc:Nat} (hver:I64 x.version) (hk:RKnds w F x.kinds ka kc) (hl:RLifs w F x.lives la lc) (hr:RRuls w F x.rules ra rc) (hx:ca9 x) (hv:am6 x=true) (hb:srcB x≤1000000) (hp:Pow10 w) (hwd:WordsAt w) :
  Calls Tryz.prog 196 #[.agg #[.int .i64 x.version,.slice ka x.kinds.length kc,.slice la x.lives.length lc,.slice ra x.rules.length rc]] w
   fun e w'=>∃ s:ByteArray,e = .returned (.string s)∧s.size≤srcB x∧Ex w w':=by
 obtain ⟨ver,kinds,lives,rules⟩:=x
 simp only at *
 have hlk:=hx.nkinds
 have hll:=hx.nlives
 have hlr:=hx.nrules
 simp only at hlk hll hlr
 obtain ⟨W1,HW⟩:∃ W1:World,Hid (W1=w.alloc (.cells #[.int .i64 ver,.slice ka kinds.length kc,.slice la lives.length lc,.slice ra rules.length rc] 28)):=⟨_,rfl⟩
 have b1:W1.cell? ⟨w.heap.size,1,none⟩=some (.slice ka kinds.length kc):=by rw [HW.out];simp
 have b2:W1.cell? ⟨w.heap.size,2,none⟩=some (.slice la lives.length lc):=by rw [HW.out];simp
 have b3:W1.cell? ⟨w.heap.size,3,none⟩=some (.slice ra rules.length rc):=by rw [HW.out];simp
 have bz:W1.heap.size≤w.heap.size+1:=by rw [HW.out];simp
 have bz0:w.heap.size<W1.heap.size:=by rw [HW.out];simp
 have hsrc0:SrcAt W1 (w.heap.size+1) 0 ((w.alloc (.cells #[.int .i64 ver,.slice ka kinds.length kc,.slice la lives.length lc,.slice ra rules.length rc] 28)).alloc (.cells #[.pointer none,.slice none 0 0] 266)):=by
  rw [HW.out]
  refine ⟨(Ex.refl _).alloc,0,none,?_,Nat.le_refl _⟩
  have:=Bld.fresh (w.alloc (.cells #[.int .i64 ver,.slice ka kinds.length kc,.slice la lives.length lc,.slice ra rules.length rc] 28)) (w.heap.size+1) (by simp)
  simpa using this
 have hbx:Ex w W1:=by rw [HW.out];exact (Ex.refl _).alloc
 have HL0:Hid (∀ (W:World) (N:Nat),Ex w W→N=W.heap.size→Calls Tryz.prog 234 #[.string ⟨#[115,99,104,101,109,97]⟩,.slice (some ⟨N,0,none⟩) 1 1] (W.alloc (.cells #[.iface 3 (.int .i64 ver)] 20)) fun e w'=>∃ s:ByteArray,e = .returned (.string s)∧s.size≤29∧Ex W w'):=Lib.hid (by
  intro W N he hN
  subst hN
  have i1:=ae6 ver
  have hB:ac0 [.inl ver]=1+intB ver:=by simp [ac0,aq7]
  refine (ak0 ⟨#[115,99,104,101,109,97]⟩ [.inl ver] W (by simp [hver]) (hp.ex he) (by simp) (by rw [hB];show 6+_≤_;omega)).mono ?_
  rintro e w' ⟨s,h1,h2,h3⟩
  refine ⟨s,h1,?_,h3⟩
  have h2':s.size≤6+ac0 [.inl ver]+1:=h2
  omega)
 have HL1:Hid (∀ (W:World) (N:Nat) (nm:ByteArray) (lo hi:Int),I64 lo→I64 hi→nm.size≤1000000→Ex w W→N=W.heap.size→Calls Tryz.prog 234 #[.string ⟨#[107,105,110,100]⟩,.slice (some ⟨N,0,none⟩) 3 3] (W.alloc (.cells #[.iface 9 (.string nm),.iface 3 (.int .i64 lo),.iface 3 (.int .i64 hi)] 20)) fun e w'=>∃ s:ByteArray,e = .returned (.string s)∧s.size≤8+nm.size+intB lo+intB hi∧Ex W w'):=Lib.hid (by
  intro W N nm lo hi hlo hhi hnm he hN
  subst hN
  have i1:=ae6 lo
  have i2:=ae6 hi
  have hB:ac0 [.inr nm,.inl lo,.inl hi]=3+nm.size+intB lo+intB hi:=by simp [ac0,aq7];omega
  refine (ak0 ⟨#[107,105,110,100]⟩ [.inr nm,.inl lo,.inl hi] W (by simp [hlo,hhi]) (hp.ex he) (by simp) (by rw [hB];show 4+_≤_;omega)).mono ?_
  rintro e w' ⟨s,h1,h2,h3⟩
  refine ⟨s,h1,?_,h3⟩
  have h2':s.size≤4+ac0 [.inr nm,.inl lo,.inl hi]+1:=h2
  omega)
 have HL5:Hid (∀ (W:World) (N:Nat) (lo hi:Int),I64 lo→I64 hi→Ex w W→N=W.heap.size→Calls Tryz.prog 234 #[.string ⟨#[109,111,118,101]⟩,.slice (some ⟨N,0,none⟩) 2 2] (W.alloc (.cells #[.iface 3 (.int .i64 lo),.iface 3 (.int .i64 hi)] 20)) fun e w'=>∃ s:ByteArray,e = .returned (.string s)∧s.size≤7+intB lo+intB hi∧Ex W w'):=Lib.hid (by
  intro W N lo hi hlo hhi he hN
  subst hN
  have i1:=ae6 lo
  have i2:=ae6 hi
  have hB:ac0 [.inl lo,.inl hi]=2+intB lo+intB hi:=by simp [ac0,aq7];omega
  refine (ak0 ⟨#[109,111,118,101]⟩ [.inl lo,.inl hi] W (by simp [hlo,hhi]) (hp.ex he) (by simp) (by rw [hB];show 4+_≤_;omega)).mono ?_
  rintro e w' ⟨s,h1,h2,h3⟩
  refine ⟨s,h1,?_,h3⟩
  have h2':s.size≤4+ac0 [.inl lo,.inl hi]+1:=h2
  omega)
 have HL6:Hid (∀ (W:World) (N:Nat) (nm kd a b:ByteArray) (n:Int),I64 n→nm.size+kd.size+a.size+b.size≤10000000→Ex w W→N=W.heap.size→Calls Tryz.prog 234 #[.string ⟨#[114,117,108,101]⟩,.slice (some ⟨N,0,none⟩) 5 5] (W.alloc (.cells #[.iface 9 (.string nm),.iface 9 (.string kd),.iface 9 (.string a),.iface 9 (.string b),.iface 3 (.int .i64 n)] 20)) fun e w'=>∃ s:ByteArray,e = .returned (.string s)∧s.size≤10+nm.size+kd.size+a.size+b.size+intB n∧Ex W w'):=Lib.hid (by
  intro W N nm kd a b n hn hsz he hN
  subst hN
  have i1:=ae6 n
  have hB:ac0 [.inr nm,.inr kd,.inr a,.inr b,.inl n]=5+nm.size+kd.size+a.size+b.size+intB n:=by simp [ac0,aq7];omega
  refine (ak0 ⟨#[114,117,108,101]⟩ [.inr nm,.inr kd,.inr a,.inr b,.inl n] W (by simp [hn]) (hp.ex he) (by simp) (by rw [hB];show 4+_≤_;omega)).mono ?_
  rintro e w' ⟨s,h1,h2,h3⟩
  refine ⟨s,h1,?_,h3⟩
  have h2':s.size≤4+ac0 [.inr nm,.inr kd,.inr a,.inr b,.inl n]+1:=h2
  omega)
 have hsb:29+sumB kndB kinds+sumB lifB lives+sumB rulB rules≤1000000:=hb
 have HX:=Lib.hid hx
 have HV:=Lib.hid hv
 clear hx hv hb
 go_enter Tryz.func196,Tryz.ntmps196
 go_wp2_with fail
 refine (HL0.out _ _ cl0 (by simp)).mono ?_
 rintro e w1 ⟨s,rfl,hs,he1⟩
 have hsrc1:=hsrc0.ex he1
 clear hsrc0 he1
 go_wp2_with fail
 refine (aI9 hsrc1 bz s (by omega)).mono ?_
 rintro e w2 ⟨rfl,hsrc2,_⟩
 have hsrc:=hsrc2.mono (m':=29) (by omega)
 clear hsrc1 hsrc2
 obtain ⟨hc,hf⟩:=hsrc.1.rules
 go_wp2
 clear hc hf
 go_loopw [26] (fun i wr=>∃ j:Nat,j≤kinds.length∧i = .int .i64 j∧Hid (SrcAt W1 (w.heap.size+1) (29+sumB kndB (kinds.take j)) wr)) (fun i _=>kinds.length - (intOf i).toNat)
 case atStart=>exact ⟨0,by omega,rfl,by simpa [sumB,Hid] using hsrc⟩
 case round=>
  obtain ⟨wo,hwo⟩:∃ wo:World,wo=wr:=⟨_,rfl⟩
  subst hwo
  obtain ⟨j,hj,rfl,hs1⟩:=hrel
  clear hsrc
  by_cases hlt:j<kinds.length
  ·have hexo:=hbx.trans hs1.out.1
   obtain ⟨y,b,off,fa,fc,hy,rfl,_,c0,c1,c2,c3,hry⟩:=aY6 hk hexo.same hlt
   have hym:=List.mem_of_getElem? hy.out
   have hyS:=HX.out.kinds y hym
   have hyV:al8 y=true:=by
    have:=HV.out;simp only [am6,Bool.and_eq_true,List.all_eq_true] at this
    exact this.1.1.2 y hym
   have hny:=hyS.name
   unfold SmS at hny
   obtain ⟨fa',fc',hvs,hlo,hhi,hfl⟩:=hry.out
   cases hvs
   clear hry
   have Hk1:=Lib.hid (aw0 kndB kinds j y hy.out)
   have Hk2:=Lib.hid (aI8 kndB kinds (j+1))
   have hkb:29+sumB kndB (kinds.take j)+kndB y≤1000000:=by have h1:=Hk1.out;have h2:=Hk2.out;omega
   have hkb':kndB y=8+y.name.size+intB y.lo+intB y.hi+sumB an0 y.fields:=rfl
   have hnf:=hyS.nfields
   go_wp2_with fail
   refine (HL1.out _ _ _ _ _ hlo hhi hny cl0 (by simp)).mono ?_
   rintro e w1 ⟨s1,rfl,hs',he1⟩
   go_wp2_with fail
   refine (as6 hs1.out bz s1 (by omega) (Nat.le_refl wo.heap.size) cl0 (by have:=hs1.out.1.size;obtain ⟨_,n',O',hb',_⟩:=hs1.out;have:=hb'.lt;omega)).mono ?_
   rintro e w2' ⟨rfl,hsrc2,hz2,hkeep⟩
   have d3:=hkeep 3 (.slice fa y.fields.length fc) (he1.cell (by simp))
   have hsA:=Lib.hid (hsrc2.mono (m':=29+sumB kndB (kinds.take j)+(8+y.name.size+intB y.lo+intB y.hi)) (by omega))
   clear hsrc2 hkeep he1 c0 c1 c2 c3 hz2
   go_wp2
   clear d3
   go_loopw [45] (fun i wr=>∃ q:Nat,q≤y.fields.length∧i = .int .i64 q∧Hid (SrcAt W1 (w.heap.size+1) (29+sumB kndB (kinds.take j)+(8+y.name.size+intB y.lo+intB y.hi)+sumB an0 (y.fields.take q)) wr)) (fun i _=>y.fields.length - (intOf i).toNat)
   case atStart=>exact ⟨0,by omega,rfl,by simpa [sumB,Hid] using hsA⟩
   case round=>
    obtain ⟨q,hq,rfl,hs2⟩:=hrel
    clear hsA
    by_cases hlt2:q<y.fields.length
    ·have hexr:=hbx.trans hs2.out.1
     obtain ⟨f,b2,off2,wa,wc,ga,gc,hf,rfl,_,e0,e1,e2,e3,e4,e5,e6,e7,hrf⟩:=aZ4 hfl hexr.same hlt2
     have hfm:=List.mem_of_getElem? hf.out
     have hfS:=hyS.fields f hfm
     have hfV:ac3 f=true:=by
      have:=hyV;simp only [al8,Bool.and_eq_true,List.all_eq_true] at this
      exact this.2 f hfm
     obtain ⟨wa',wc',ga',gc',hvs,hkk,hlo2,hhi2,hws,hgs⟩:=hrf.out
     cases hvs
     clear hrf
     have Hf1:=Lib.hid (aw0 an0 y.fields q f hf.out)
     have Hf2:=Lib.hid (aI8 an0 y.fields (q+1))
     have hfb:sumB an0 (y.fields.take q)+an0 f≤sumB an0 y.fields:=by have h1:=Hf1.out;have h2:=Hf2.out;omega
     have HFc:=Lib.hid (fun (W:World) (he:Ex w W)=>by7 f W (hws.keep he.same (fun _ h=>h) (fun _ _ _ h=>h)) (hgs.keep he.same (fun _ h=>h) (fun _ _ _ h=>h)) hlo2 hhi2 hfS hfV (by omega) (hp.ex he) (hwd.ex he))
     clear hws hgs hfV hfS
     go_wp2_with fail
     refine (HFc.out _ cl0).mono ?_
     rintro e w3 ⟨s2,rfl,hs2',he3⟩
     have hsB:=hs2.out.ex ((Ex.refl _).alloc.trans he3)
     clear he3 e0 e1 e2 e3 e4 e5 e6 e7
     go_wp2_with fail
     refine (aI9 hsB bz s2 (by omega)).mono ?_
     rintro e w4 ⟨rfl,hsC,_⟩
     have hsD:=Lib.hid (hsC.mono (m':=29+sumB kndB (kinds.take j)+(8+y.name.size+intB y.lo+intB y.hi)+sumB an0 (y.fields.take (q+1))) (by have h1:=Hf1.out;omega))
     clear hsB hsC
     go_wp2
     go_roundw
     case rel=>exact ⟨q+1,by omega,by go_num,hsD⟩
     case measure=>simp [intOf];omega
    ·have hsE:=Lib.hid (hs2.out.mono (m':=29+sumB kndB (kinds.take (j+1))) (by have h1:=Hk1.out;have e:y.fields.take q=y.fields:=List.take_of_length_le (by omega);rw [e];omega))
     go_wp2
     go_roundw
     case rel=>exact ⟨j+1,by omega,by go_num,hsE⟩
     case measure=>simp [intOf];omega
  ·have hs3:=Lib.hid (hs1.out.mono (m':=29+sumB kndB kinds) (by have e:kinds.take j=kinds:=List.take_of_length_le (by omega);rw [e];omega))
   clear hs1
   obtain ⟨hc,hf⟩:=hs3.out.1.rules
   go_wp2
   clear hc hf
   go_loopw [57] (fun i wr=>∃ j:Nat,j≤lives.length∧i = .int .i64 j∧Hid (SrcAt W1 (w.heap.size+1) (29+sumB kndB kinds+sumB lifB (lives.take j)) wr)) (fun i _=>lives.length - (intOf i).toNat)
   case atStart=>exact ⟨0,by omega,rfl,by simpa [sumB,Hid] using hs3.out⟩
   case round=>
    obtain ⟨wp,hwp⟩:∃ wp:World,wp=wr:=⟨_,rfl⟩
    subst hwp
    obtain ⟨j3,hj3,rfl,hs1⟩:=hrel
    clear hs3
    by_cases hlt3:j3<lives.length
    ·have hexo:=hbx.trans hs1.out.1
     obtain ⟨y,b,off,sa,sc,ma,mc,hy,rfl,_,c0,c1,c2,hry⟩:=aY3 hl hexo.same hlt3
     have hym:=List.mem_of_getElem? hy.out
     have hyS:=HX.out.lives y hym
     have hny:=hyS.name
     unfold SmS at hny
     obtain ⟨sa',sc',ma',mc',hvs,hst,hmv⟩:=hry.out
     cases hvs
     clear hry
     have Hk1:=Lib.hid (aw0 lifB lives j3 y hy.out)
     have Hk2:=Lib.hid (aI8 lifB lives (j3+1))
     have hkb:29+sumB kndB kinds+sumB lifB (lives.take j3)+lifB y≤1000000:=by have h1:=Hk1.out;have h2:=Hk2.out;omega
     have hkb':lifB y=7+y.name.size+intB y.states.length+sumB (fun s=>1+s.size) y.states+sumB movB y.moves:=rfl
     have hns:y.states.length≤12:=by
      have:=HV.out;simp only [am6,Bool.and_eq_true,List.all_eq_true] at this
      have h2:=this.1.2 y hym
      simp only [al7,ac1,Bool.and_eq_true,decide_eq_true_eq] at h2
      omega
     have hnm:=hyS.nmoves
     obtain ⟨i0,hiA,hzA,hz1,hz2⟩:=info_parts bx8
     go_wp2
     go_loopw [10,72] (fun s10 i wr=>∃ q:Nat,q≤y.states.length∧i = .int .i64 q∧Hid (Ex (wp.alloc (.cells #[.string y.name,.slice sa y.states.length sc,.slice ma y.moves.length mc] 89)) wr)∧Hid (wr.ownsRow (wp.heap.size+1) 20 1 s10 (2+q) ((ai3 y.name y.states q).map anyV))) (fun _ i _=>y.states.length - (intOf i).toNat)
     case atStart=>
      refine ⟨0,by omega,rfl,cl0,?_⟩
      have:=World.ownsRow_lit (base:=wp.heap.size+1) (e:=20) (size:=1) (wp.alloc (.cells #[.string y.name,.slice sa y.states.length sc,.slice ma y.moves.length mc] 89)) #[anyV (.inr y.name),anyV (.inl y.states.length)] 2 (by simp) (by decide) rfl
      simpa [ai3,Hid,anyV] using this
     case round=>
      obtain ⟨q,hq,rfl,hex4,hown⟩:=hrel
      have hz4:=hex4.out.size
      simp only [World.size_alloc] at hz4
      have hexw:=(hexo.alloc (o:=.cells #[.string y.name,.slice sa y.states.length sc,.slice ma y.moves.length mc] 89)).trans hex4.out
      obtain ⟨a4,cap4,rfl⟩:=ax5 hown.out
      by_cases hlt4:q<y.states.length
      ·obtain ⟨st,b5,off5,hs5,rfl,_,d1,_⟩:=at3 hst hexw.same hlt4
       have Hs:=Lib.hid (aT7 y.name y.states q st hs5.out)
       go_wp2_with (at_builtin;refine wpList_append_own_at _ rfl _ _ 320 rfl (wp.heap.size+1) 20 i0 .nilIface 1 16 Tryz.underlying320 hiA hzA hz1 hz2 rfl (by decide) (.slice a4 (2+q) cap4) _ _ rfl (hown.out.alloc _) ⟨wr.heap.size,0,none⟩ 1 1 [anyV (.inr st)] rfl rfl ?c1 ?c2 ?c3 ?c4 ?c5 ?_)
       case c1=>exact cell_one_new _ _ _
       case c2=>exact bT6 _
       case c3=>unfold maxLen;omega
       case c4=>omega
       case c5=>simp;omega
       intro v' w5 hown' hgrow _ hat
       have hex5:=Lib.hid (Ex.appended (hex4.out.alloc (o:=.cells #[anyV (.inr st)] 20)) (hown.out.alloc _) (by simp) hgrow)
       have HO:Hid (w5.ownsRow (wp.heap.size+1) 20 1 v' (2+(q+1)) ((ai3 y.name y.states (q+1)).map anyV)):=by
        unfold Hid
        rw [Hs.out,List.map_append]
        exact hown'
       clear hown' hgrow hat hown
       obtain ⟨a5,cap5,rfl⟩:=ax5 HO.out
       go_wp2
       go_roundw
       case rel=>exact ⟨q+1,by omega,by go_num,hex5,HO⟩
       case measure=>simp [intOf];omega
      ·obtain rfl:q=y.states.length:=by omega
       have hpl:=aK7 y.name y.states y.states.length (Nat.le_refl _)
       have hi64:∀ m,Sum.inl m∈ai3 y.name y.states y.states.length→I64 m:=by
        intro m hm
        simp only [ai3,List.mem_cons,List.mem_map] at hm
        rcases hm with h|h|⟨_,_,h⟩
        ·cases h
        ·cases h;unfold I64;omega
        ·cases h
       obtain ⟨a6,cap6,hv6,hrow⟩:=aJ3 (C:=fun x=>[anyV x]) (R:=RAny) (xs:=ai3 y.name y.states y.states.length) hpl.symm (by rw [aP5];exact hown.out) (fun _ _=>rfl) (fun x hx=>by
        cases x with
        | inl m=>exact ⟨rfl,hi64 m hx⟩
        | inr t=>rfl)
       rw [hpl] at hv6
       cases hv6
       have hB:=bn8 y.name y.states
       have hib:=ae6 (y.states.length:Int)
       have HLn:=Lib.hid (aT6 ⟨#[108,105,102,101]⟩ (ai3 y.name y.states y.states.length) wr hrow (hp.ex hexw) (by rw [hpl];omega) (by rw [hB];show 4+_≤_;omega))
       rw [hpl,hB] at HLn
       clear hpl hi64 hrow hB hown
       go_wp2_with fail
       refine HLn.out.mono ?_
       rintro e w6 ⟨s6,rfl,hs6,he6⟩
       have hs6':s6.size≤4+(2+y.name.size+intB y.states.length+sumB (fun s=>1+s.size) y.states)+1:=hs6
       go_wp2_with fail
       refine (as6 hs1.out bz s6 (by omega) (Nat.le_refl wp.heap.size) (((Ex.refl wp).alloc.trans hex4.out).trans he6) (by have:=hs1.out.1.size;obtain ⟨_,n',O',hb',_⟩:=hs1.out;have:=hb'.lt;omega)).mono ?_
       rintro e w7 ⟨rfl,hsrc7,hz7,hkeep⟩
       have d3:=hkeep 2 (.slice ma y.moves.length mc) (he6.cell (hex4.out.cell (by simp)))
       have hsA:=Lib.hid (hsrc7.mono (m':=29+sumB kndB kinds+sumB lifB (lives.take j3)+(7+y.name.size+intB y.states.length+sumB (fun s=>1+s.size) y.states)) (by omega))
       clear hsrc7 hkeep hex4 hexw he6 hs6
       go_wp2
       clear d3
       go_loopw [88] (fun i wr=>∃ q:Nat,q≤y.moves.length∧i = .int .i64 q∧Hid (SrcAt W1 (w.heap.size+1) (29+sumB kndB kinds+sumB lifB (lives.take j3)+(7+y.name.size+intB y.states.length+sumB (fun s=>1+s.size) y.states)+sumB movB (y.moves.take q)) wr)) (fun i _=>y.moves.length - (intOf i).toNat)
       case atStart=>exact ⟨0,by omega,rfl,by simpa [sumB,Hid] using hsA⟩
       case round=>
        obtain ⟨q,hq,rfl,hs2⟩:=hrel
        clear hsA
        by_cases hlt2:q<y.moves.length
        ·have hexr:=hbx.trans hs2.out.1
         obtain ⟨mv,b2,off2,hf,rfl,_,e0,e1,hrf⟩:=aV7 hmv hexr.same hlt2
         obtain ⟨_,hm1,hm2⟩:=hrf.out
         have Hf1:=Lib.hid (aw0 movB y.moves q mv hf.out)
         have Hf2:=Lib.hid (aI8 movB y.moves (q+1))
         have hfb:sumB movB (y.moves.take q)+movB mv≤sumB movB y.moves:=by have h1:=Hf1.out;have h2:=Hf2.out;omega
         have hmb:movB mv=7+intB mv.1+intB mv.2:=rfl
         go_wp2_with fail
         refine (HL5.out _ _ _ _ hm1 hm2 cl0 (by simp)).mono ?_
         rintro e w3 ⟨s2,rfl,hs2',he3⟩
         have hsB:=hs2.out.ex ((Ex.refl _).alloc.trans he3)
         clear he3 e0 e1
         go_wp2_with fail
         refine (aI9 hsB bz s2 (by omega)).mono ?_
         rintro e w4 ⟨rfl,hsC,_⟩
         have hsD:=Lib.hid (hsC.mono (m':=29+sumB kndB kinds+sumB lifB (lives.take j3)+(7+y.name.size+intB y.states.length+sumB (fun s=>1+s.size) y.states)+sumB movB (y.moves.take (q+1))) (by have h1:=Hf1.out;omega))
         clear hsB hsC
         go_wp2
         go_roundw
         case rel=>exact ⟨q+1,by omega,by go_num,hsD⟩
         case measure=>simp [intOf];omega
        ·have hsE:=Lib.hid (hs2.out.mono (m':=29+sumB kndB kinds+sumB lifB (lives.take (j3+1))) (by have h1:=Hk1.out;have e:y.moves.take q=y.moves:=List.take_of_length_le (by omega);rw [e];omega))
         go_wp2
         go_roundw
         case rel=>exact ⟨j3+1,by omega,by go_num,hsE⟩
         case measure=>simp [intOf];omega
    ·have hs4:=Lib.hid (hs1.out.mono (m':=29+sumB kndB kinds+sumB lifB lives) (by have e:lives.take j3=lives:=List.take_of_length_le (by omega);rw [e];omega))
     clear hs1
     obtain ⟨hc,hf⟩:=hs4.out.1.rules
     go_wp2
     clear hc hf
     go_loopw [106] (fun i wr=>∃ j:Nat,j≤rules.length∧i = .int .i64 j∧Hid (SrcAt W1 (w.heap.size+1) (29+sumB kndB kinds+sumB lifB lives+sumB rulB (rules.take j)) wr)) (fun i _=>rules.length - (intOf i).toNat)
     case atStart=>exact ⟨0,by omega,rfl,by simpa [sumB,Hid] using hs4.out⟩
     case round=>
      obtain ⟨j6,hj6,rfl,hs1⟩:=hrel
      clear hs4
      by_cases hlt6:j6<rules.length
      ·have hexo:=hbx.trans hs1.out.1
       obtain ⟨y,b,off,hy,rfl,_,c0,c1,c2,c3,c4,hry⟩:=aW3 hr hexo.same hlt6
       have hym:=List.mem_of_getElem? hy.out
       have hyS:=HX.out.rules y hym
       have hn1:=hyS.name
       have hn2:=hyS.kind
       have hn3:=hyS.a
       have hn4:=hyS.b
       unfold SmS at hn1 hn2 hn3 hn4
       obtain ⟨_,hyn⟩:=hry.out
       have Hk1:=Lib.hid (aw0 rulB rules j6 y hy.out)
       have Hk2:=Lib.hid (aI8 rulB rules (j6+1))
       have hkb:29+sumB kndB kinds+sumB lifB lives+sumB rulB (rules.take j6)+rulB y≤1000000:=by have h1:=Hk1.out;have h2:=Hk2.out;omega
       have hkb':rulB y=12+y.name.size+y.kind.size+y.a.size+y.b.size+intB y.n:=rfl
       have hneB:wr.heap.size≠w.heap.size+1:=by obtain ⟨_,n',O',hb',_⟩:=hs1.out;have:=hb'.lt;omega
       go_wp2
       go_region_held3 (fun W=>W.cell? ⟨wr.heap.size,0,none⟩=some (.string y.name)∧W.cell? ⟨wr.heap.size,1,none⟩=some (.string y.kind)∧W.cell? ⟨wr.heap.size,2,none⟩=some (.string y.a)∧W.cell? ⟨wr.heap.size,3,none⟩=some (.string y.b)∧W.cell? ⟨wr.heap.size,4,none⟩=some (.int .i64 y.n)) (go_keep)
        (first
         | (go_at_call 236;refine (aB3 _ _).mono ?_;rintro e w1 ⟨t,rfl,ht,hb1⟩;(have hq7:=ru7;(try clear hc hf);obtain ⟨hb,hc,hf,hz⟩:=hq7;(try simp only [zsz7] at hz);(try have hz0:=z07 w w1);(try have hz1:=z17 w w1);(try have hz2:=z27 w w1)))
         | (go_at_call 234;refine (HL6.out _ _ _ _ _ _ _ hyn (by omega) cl0 (by first|rfl|simp)).mono ?_;rintro e w1 ⟨s6,rfl,hs6,hb1⟩;(have hq7:=ru7;(try clear hc hf);obtain ⟨hb,hc,hf,hz⟩:=hq7;(try simp only [zsz7] at hz);(try have hz0:=z07 w w1);(try have hz1:=z17 w w1);(try have hz2:=z27 w w1)))
         | (go_at_call 163;refine (as6 hs1.out bz s6 (by omega) (Nat.le_refl wr.heap.size) cl0 hneB).mono ?_;rintro e w1 ⟨rfl,hsrc7,hz7,hkeep⟩;have k0:=hkeep 0 (.string y.name) (by rw [hc _ _ (by simp)];simp);have k1:=hkeep 1 (.string y.kind) (by rw [hc _ _ (by simp)];simp);have k2:=hkeep 2 (.string y.a) (by rw [hc _ _ (by simp)];simp);have k3:=hkeep 3 (.string y.b) (by rw [hc _ _ (by simp)];simp);have k4:=hkeep 4 (.int .i64 y.n) (by rw [hc _ _ (by simp)];simp);clear hkeep))
       all_goals
        have hsE:=Lib.hid (hsrc7.mono (m':=29+sumB kndB kinds+sumB lifB lives+sumB rulB (rules.take (j6+1))) (by have h1:=Hk1.out;omega))
        go_wp2
        go_roundw
        case rel=>exact ⟨j6+1,by omega,by go_num,hsE⟩
        case measure=>simp [intOf];omega
      ·have hs7:=Lib.hid (hs1.out.mono (m':=29+sumB kndB kinds+sumB lifB lives+sumB rulB rules) (by have e:rules.take j6=rules:=List.take_of_length_le (by omega);rw [e];omega))
       clear hs1
       obtain ⟨hex',n,O,⟨l,p,v,hl',hpp,hB,hbk,hown,hO,hne⟩,hnm⟩:=hs7.out
       have hib:Lib.IsBuilder 266 5 (w.heap.size+1) (w.heap.size+1) (Lib.byteCells l) wr:=by
        rcases hpp with rfl|rfl
        ·exact .inl ⟨hB,v,hbk,by rw [byteCells_length];exact hown,by rw [hO];exact hne⟩
        ·exact .inr ⟨hB,v,hbk,by rw [byteCells_length];exact hown,by rw [hO];exact hne⟩
       have hexw:=hbx.trans hex'
       have HSt:=Lib.hid (Tryz.Builder_String_any (w.heap.size+1) (w.heap.size+1) l wr hib (by have:=au9 hbk;omega))
       have HL:=Lib.hid hl'
       clear hbk hown hO hib hpp hl'
       go_wp2_with fail
       refine HSt.out.mono ?_
       rintro e w8 ⟨rfl,hb8⟩
       have hex8:Ex w w8:=Ex.of_below ⟨hb8.os.trans (Keep.os hexw),hb8.tape.trans (Keep.tape hexw),hb8.output.trans (Keep.output hexw),Nat.le_trans hexw.size hb8.size,fun k hk=>(hb8.block k (by omega)).trans (hexw.block k hk)⟩
       go_wp2
       go_ret
       refine ⟨_,rfl,?_,hex8⟩
       have h1:=HL.out
       show l.toArray.size≤srcB _
       unfold srcB
       simp only [List.size_toArray]
       omega
end
section
open Go.RowKit Go.Shelf
structure Laid (w:World):Prop where
 pow:Pow10 w
 words:WordsAt w
theorem Laid.ex {w w':World} (h:Laid w) (he:Ex w w'):Laid w':=⟨h.pow.ex he,h.words.ex he⟩
theorem br2 (x:Sch) (w:World) {F:Nat→Prop} {ka la ra:Option Addr} {kc lc rc:Nat} (hver:I64 x.version) (hk:RKnds w F x.kinds ka kc) (hl:RLifs w F x.lives la lc) (hr:RRuls w F x.rules ra rc) (hx:ca9 x) (hsm:am6 x=true→srcB x≤8192) (hg:Laid w) :
  Calls Tryz.prog 143 #[.agg #[.int .i64 x.version,.slice ka x.kinds.length kc,.slice la x.lives.length lc,.slice ra x.rules.length rc]] w
   fun e w'=>e = .returned (.int .i64 (ak7 x))∧Ex w w':=by
 have hlk:=hx.nkinds
 have hll:=hx.nlives
 have hlr:=hx.nrules
 have HK:=Lib.hid (fun (w':World) (he:Ex w w')=>ca3 (w0:=w) (F0:=F) (Row.keep (w':=w') hk he.same (fun _ h=>h) (fun _ _ _ h=>h)) (by omega) ((bf1 w hx.kinds).mono he))
 have HL:=Lib.hid (fun (w':World) (he:Ex w w')=>ca2 (w0:=w) (F0:=F) (Row.keep (w':=w') hl he.same (fun _ h=>h) (fun _ _ _ h=>h)) (by omega) ((bf0 w hx.lives).mono he))
 have HR:=Lib.hid (fun (w':World) (he:Ex w w')=>ca0 (Row.keep (w':=w') hr he.same (fun _ h=>h) (fun _ _ _ h=>h)) (by omega) ((be9 w hx.rules).mono he))
 have HV:=Lib.hid (fun h=>hsm h)
 have HS0:=Lib.hid (fun (hv:am6 x=true) (w':World) (he:Ex w w')=>bm4 x w' hver (RKnds.keep he.same (fun _ h=>h) hk) (RLifs.keep he.same (fun _ h=>h) hl) (RRuls.keep he.same (fun _ h=>h) hr) hx hv (by have:=hsm hv;omega) (hg.pow.ex he) (hg.words.ex he))
 clear hx hsm hk hl hr
 obtain ⟨ver,kinds,lives,rules⟩:=x
 simp only at *
 cases h1:ac1 ver 0 1048576
 ·go_enter Tryz.func143,Tryz.ntmps143;go_wp2_with (first|(go_at_call 189;refine (ab3 _ _ _ _).mono ?_;rintro e w2 ⟨rfl,rfl⟩)|(go_at_call 190;refine (HK.out _ cl0).mono ?_;rintro e w1 ⟨rfl,hb1⟩;(have hq7:=ru7;(try clear hc hf);obtain ⟨hb,hc,hf,hz⟩:=hq7;(try simp only [zsz7] at hz);(try have hz0:=z07 w w1);(try have hz1:=z17 w w1);(try have hz2:=z27 w w1)))|(go_at_call 192;refine (HL.out _ cl0).mono ?_;rintro e w1 ⟨rfl,hb1⟩;(have hq7:=ru7;(try clear hc hf);obtain ⟨hb,hc,hf,hz⟩:=hq7;(try simp only [zsz7] at hz);(try have hz0:=z07 w w1);(try have hz1:=z17 w w1);(try have hz2:=z27 w w1)))|(go_at_call 194;refine (HR.out _ cl0).mono ?_;rintro e w1 ⟨rfl,hb1⟩;(have hq7:=ru7;(try clear hc hf);obtain ⟨hb,hc,hf,hz⟩:=hq7;(try simp only [zsz7] at hz);(try have hz0:=z07 w w1);(try have hz1:=z17 w w1);(try have hz2:=z27 w w1)))|(go_at_call 196;refine (HS.out _ cl0).mono ?_;rintro e w1 ⟨s,rfl,hs,hb1⟩;(have hq7:=ru7;(try clear hc hf);obtain ⟨hb,hc,hf,hz⟩:=hq7;(try simp only [zsz7] at hz);(try have hz0:=z07 w w1);(try have hz1:=z17 w w1);(try have hz2:=z27 w w1))));go_ret
  exact ⟨aw2 (by simp [ak7,am6,h1]),cl0⟩
 by_cases h2:(kinds.length:Int)≤6
 case neg=>
  go_enter Tryz.func143,Tryz.ntmps143;go_wp2_with (first|(go_at_call 189;refine (ab3 _ _ _ _).mono ?_;rintro e w2 ⟨rfl,rfl⟩)|(go_at_call 190;refine (HK.out _ cl0).mono ?_;rintro e w1 ⟨rfl,hb1⟩;(have hq7:=ru7;(try clear hc hf);obtain ⟨hb,hc,hf,hz⟩:=hq7;(try simp only [zsz7] at hz);(try have hz0:=z07 w w1);(try have hz1:=z17 w w1);(try have hz2:=z27 w w1)))|(go_at_call 192;refine (HL.out _ cl0).mono ?_;rintro e w1 ⟨rfl,hb1⟩;(have hq7:=ru7;(try clear hc hf);obtain ⟨hb,hc,hf,hz⟩:=hq7;(try simp only [zsz7] at hz);(try have hz0:=z07 w w1);(try have hz1:=z17 w w1);(try have hz2:=z27 w w1)))|(go_at_call 194;refine (HR.out _ cl0).mono ?_;rintro e w1 ⟨rfl,hb1⟩;(have hq7:=ru7;(try clear hc hf);obtain ⟨hb,hc,hf,hz⟩:=hq7;(try simp only [zsz7] at hz);(try have hz0:=z07 w w1);(try have hz1:=z17 w w1);(try have hz2:=z27 w w1)))|(go_at_call 196;refine (HS.out _ cl0).mono ?_;rintro e w1 ⟨s,rfl,hs,hb1⟩;(have hq7:=ru7;(try clear hc hf);obtain ⟨hb,hc,hf,hz⟩:=hq7;(try simp only [zsz7] at hz);(try have hz0:=z07 w w1);(try have hz1:=z17 w w1);(try have hz2:=z27 w w1))));go_ret
  exact ⟨aw2 (by simp [ak7,am6];intros;omega),cl0⟩
 by_cases h3:(lives.length:Int)≤6
 case neg=>
  go_enter Tryz.func143,Tryz.ntmps143;go_wp2_with (first|(go_at_call 189;refine (ab3 _ _ _ _).mono ?_;rintro e w2 ⟨rfl,rfl⟩)|(go_at_call 190;refine (HK.out _ cl0).mono ?_;rintro e w1 ⟨rfl,hb1⟩;(have hq7:=ru7;(try clear hc hf);obtain ⟨hb,hc,hf,hz⟩:=hq7;(try simp only [zsz7] at hz);(try have hz0:=z07 w w1);(try have hz1:=z17 w w1);(try have hz2:=z27 w w1)))|(go_at_call 192;refine (HL.out _ cl0).mono ?_;rintro e w1 ⟨rfl,hb1⟩;(have hq7:=ru7;(try clear hc hf);obtain ⟨hb,hc,hf,hz⟩:=hq7;(try simp only [zsz7] at hz);(try have hz0:=z07 w w1);(try have hz1:=z17 w w1);(try have hz2:=z27 w w1)))|(go_at_call 194;refine (HR.out _ cl0).mono ?_;rintro e w1 ⟨rfl,hb1⟩;(have hq7:=ru7;(try clear hc hf);obtain ⟨hb,hc,hf,hz⟩:=hq7;(try simp only [zsz7] at hz);(try have hz0:=z07 w w1);(try have hz1:=z17 w w1);(try have hz2:=z27 w w1)))|(go_at_call 196;refine (HS.out _ cl0).mono ?_;rintro e w1 ⟨s,rfl,hs,hb1⟩;(have hq7:=ru7;(try clear hc hf);obtain ⟨hb,hc,hf,hz⟩:=hq7;(try simp only [zsz7] at hz);(try have hz0:=z07 w w1);(try have hz1:=z17 w w1);(try have hz2:=z27 w w1))));go_ret
  exact ⟨aw2 (by simp [ak7,am6];intros;omega),cl0⟩
 by_cases h4:(rules.length:Int)≤16
 case neg=>
  go_enter Tryz.func143,Tryz.ntmps143;go_wp2_with (first|(go_at_call 189;refine (ab3 _ _ _ _).mono ?_;rintro e w2 ⟨rfl,rfl⟩)|(go_at_call 190;refine (HK.out _ cl0).mono ?_;rintro e w1 ⟨rfl,hb1⟩;(have hq7:=ru7;(try clear hc hf);obtain ⟨hb,hc,hf,hz⟩:=hq7;(try simp only [zsz7] at hz);(try have hz0:=z07 w w1);(try have hz1:=z17 w w1);(try have hz2:=z27 w w1)))|(go_at_call 192;refine (HL.out _ cl0).mono ?_;rintro e w1 ⟨rfl,hb1⟩;(have hq7:=ru7;(try clear hc hf);obtain ⟨hb,hc,hf,hz⟩:=hq7;(try simp only [zsz7] at hz);(try have hz0:=z07 w w1);(try have hz1:=z17 w w1);(try have hz2:=z27 w w1)))|(go_at_call 194;refine (HR.out _ cl0).mono ?_;rintro e w1 ⟨rfl,hb1⟩;(have hq7:=ru7;(try clear hc hf);obtain ⟨hb,hc,hf,hz⟩:=hq7;(try simp only [zsz7] at hz);(try have hz0:=z07 w w1);(try have hz1:=z17 w w1);(try have hz2:=z27 w w1)))|(go_at_call 196;refine (HS.out _ cl0).mono ?_;rintro e w1 ⟨s,rfl,hs,hb1⟩;(have hq7:=ru7;(try clear hc hf);obtain ⟨hb,hc,hf,hz⟩:=hq7;(try simp only [zsz7] at hz);(try have hz0:=z07 w w1);(try have hz1:=z17 w w1);(try have hz2:=z27 w w1))));go_ret
  exact ⟨aw2 (by simp [ak7,am6];intros;omega),cl0⟩
 cases h5:kinds.all al8
 ·go_enter Tryz.func143,Tryz.ntmps143;go_wp2_with (first|(go_at_call 189;refine (ab3 _ _ _ _).mono ?_;rintro e w2 ⟨rfl,rfl⟩)|(go_at_call 190;refine (HK.out _ cl0).mono ?_;rintro e w1 ⟨rfl,hb1⟩;(have hq7:=ru7;(try clear hc hf);obtain ⟨hb,hc,hf,hz⟩:=hq7;(try simp only [zsz7] at hz);(try have hz0:=z07 w w1);(try have hz1:=z17 w w1);(try have hz2:=z27 w w1)))|(go_at_call 192;refine (HL.out _ cl0).mono ?_;rintro e w1 ⟨rfl,hb1⟩;(have hq7:=ru7;(try clear hc hf);obtain ⟨hb,hc,hf,hz⟩:=hq7;(try simp only [zsz7] at hz);(try have hz0:=z07 w w1);(try have hz1:=z17 w w1);(try have hz2:=z27 w w1)))|(go_at_call 194;refine (HR.out _ cl0).mono ?_;rintro e w1 ⟨rfl,hb1⟩;(have hq7:=ru7;(try clear hc hf);obtain ⟨hb,hc,hf,hz⟩:=hq7;(try simp only [zsz7] at hz);(try have hz0:=z07 w w1);(try have hz1:=z17 w w1);(try have hz2:=z27 w w1)))|(go_at_call 196;refine (HS.out _ cl0).mono ?_;rintro e w1 ⟨s,rfl,hs,hb1⟩;(have hq7:=ru7;(try clear hc hf);obtain ⟨hb,hc,hf,hz⟩:=hq7;(try simp only [zsz7] at hz);(try have hz0:=z07 w w1);(try have hz1:=z17 w w1);(try have hz2:=z27 w w1))));go_ret
  exact ⟨aw2 (by simp [ak7,am6,h5]),cl0⟩
 cases h6:lives.all al7
 ·go_enter Tryz.func143,Tryz.ntmps143;go_wp2_with (first|(go_at_call 189;refine (ab3 _ _ _ _).mono ?_;rintro e w2 ⟨rfl,rfl⟩)|(go_at_call 190;refine (HK.out _ cl0).mono ?_;rintro e w1 ⟨rfl,hb1⟩;(have hq7:=ru7;(try clear hc hf);obtain ⟨hb,hc,hf,hz⟩:=hq7;(try simp only [zsz7] at hz);(try have hz0:=z07 w w1);(try have hz1:=z17 w w1);(try have hz2:=z27 w w1)))|(go_at_call 192;refine (HL.out _ cl0).mono ?_;rintro e w1 ⟨rfl,hb1⟩;(have hq7:=ru7;(try clear hc hf);obtain ⟨hb,hc,hf,hz⟩:=hq7;(try simp only [zsz7] at hz);(try have hz0:=z07 w w1);(try have hz1:=z17 w w1);(try have hz2:=z27 w w1)))|(go_at_call 194;refine (HR.out _ cl0).mono ?_;rintro e w1 ⟨rfl,hb1⟩;(have hq7:=ru7;(try clear hc hf);obtain ⟨hb,hc,hf,hz⟩:=hq7;(try simp only [zsz7] at hz);(try have hz0:=z07 w w1);(try have hz1:=z17 w w1);(try have hz2:=z27 w w1)))|(go_at_call 196;refine (HS.out _ cl0).mono ?_;rintro e w1 ⟨s,rfl,hs,hb1⟩;(have hq7:=ru7;(try clear hc hf);obtain ⟨hb,hc,hf,hz⟩:=hq7;(try simp only [zsz7] at hz);(try have hz0:=z07 w w1);(try have hz1:=z17 w w1);(try have hz2:=z27 w w1))));go_ret
  exact ⟨aw2 (by simp [ak7,am6,h6]),cl0⟩
 cases h7:rules.all aw7
 ·go_enter Tryz.func143,Tryz.ntmps143;go_wp2_with (first|(go_at_call 189;refine (ab3 _ _ _ _).mono ?_;rintro e w2 ⟨rfl,rfl⟩)|(go_at_call 190;refine (HK.out _ cl0).mono ?_;rintro e w1 ⟨rfl,hb1⟩;(have hq7:=ru7;(try clear hc hf);obtain ⟨hb,hc,hf,hz⟩:=hq7;(try simp only [zsz7] at hz);(try have hz0:=z07 w w1);(try have hz1:=z17 w w1);(try have hz2:=z27 w w1)))|(go_at_call 192;refine (HL.out _ cl0).mono ?_;rintro e w1 ⟨rfl,hb1⟩;(have hq7:=ru7;(try clear hc hf);obtain ⟨hb,hc,hf,hz⟩:=hq7;(try simp only [zsz7] at hz);(try have hz0:=z07 w w1);(try have hz1:=z17 w w1);(try have hz2:=z27 w w1)))|(go_at_call 194;refine (HR.out _ cl0).mono ?_;rintro e w1 ⟨rfl,hb1⟩;(have hq7:=ru7;(try clear hc hf);obtain ⟨hb,hc,hf,hz⟩:=hq7;(try simp only [zsz7] at hz);(try have hz0:=z07 w w1);(try have hz1:=z17 w w1);(try have hz2:=z27 w w1)))|(go_at_call 196;refine (HS.out _ cl0).mono ?_;rintro e w1 ⟨s,rfl,hs,hb1⟩;(have hq7:=ru7;(try clear hc hf);obtain ⟨hb,hc,hf,hz⟩:=hq7;(try simp only [zsz7] at hz);(try have hz0:=z07 w w1);(try have hz1:=z17 w w1);(try have hz2:=z27 w w1))));go_ret
  exact ⟨aw2 (by simp [ak7,am6,h7]),cl0⟩
 have hv:am6 ⟨ver,kinds,lives,rules⟩=true:=by
  simp only [am6,h1,h5,h6,h7,Bool.true_and,Bool.and_true,Bool.and_eq_true,decide_eq_true_eq];omega
 have HS:=Lib.hid (HS0.out hv)
 have hsm:=HV.out hv
 have HVv:=Lib.hid hv
 clear HS0 HV hv
 go_enter Tryz.func143,Tryz.ntmps143;go_wp2_with (first|(go_at_call 189;refine (ab3 _ _ _ _).mono ?_;rintro e w2 ⟨rfl,rfl⟩)|(go_at_call 190;refine (HK.out _ cl0).mono ?_;rintro e w1 ⟨rfl,hb1⟩;(have hq7:=ru7;(try clear hc hf);obtain ⟨hb,hc,hf,hz⟩:=hq7;(try simp only [zsz7] at hz);(try have hz0:=z07 w w1);(try have hz1:=z17 w w1);(try have hz2:=z27 w w1)))|(go_at_call 192;refine (HL.out _ cl0).mono ?_;rintro e w1 ⟨rfl,hb1⟩;(have hq7:=ru7;(try clear hc hf);obtain ⟨hb,hc,hf,hz⟩:=hq7;(try simp only [zsz7] at hz);(try have hz0:=z07 w w1);(try have hz1:=z17 w w1);(try have hz2:=z27 w w1)))|(go_at_call 194;refine (HR.out _ cl0).mono ?_;rintro e w1 ⟨rfl,hb1⟩;(have hq7:=ru7;(try clear hc hf);obtain ⟨hb,hc,hf,hz⟩:=hq7;(try simp only [zsz7] at hz);(try have hz0:=z07 w w1);(try have hz1:=z17 w w1);(try have hz2:=z27 w w1)))|(go_at_call 196;refine (HS.out _ cl0).mono ?_;rintro e w1 ⟨s,rfl,hs,hb1⟩;(have hq7:=ru7;(try clear hc hf);obtain ⟨hb,hc,hf,hz⟩:=hq7;(try simp only [zsz7] at hz);(try have hz0:=z07 w w1);(try have hz1:=z17 w w1);(try have hz2:=z27 w w1))));go_ret
 exact ⟨aw2 (by simp [ak7,HVv.out]),cl0⟩
end
section
open Go
theorem ah8 (n a b:Int):APure Tryz.prog 173 [iD n,iD a,iD b] (bD (ac1 n a b)):=by
 refine eP7 Tryz.func173 Tryz.ntmps173 fun BB=>?_
 repeat' first|refine sk2 ?_|(intro b;conv=>whnf)|(with_reducible refine Br.d (fun hc=>?_) (fun hc=>?_))|(with_reducible refine Br.b (fun hc=>?_) (fun hc=>?_))
 all_goals (refine Rt.pure (congrArg bD ?_);first|(simp [ac1, *];done)|(simp [ac1];omega))
theorem ax4 (lo hi a b:Int):APure Tryz.prog 211 [iD lo,iD hi,iD a,iD b] (bD (aw1 lo hi a b)):=by
 refine eP7 Tryz.func211 Tryz.ntmps211 fun BB=>?_
 repeat' first|refine sk2 ?_|(intro b;conv=>whnf)|(with_reducible refine Br.d (fun hc=>?_) (fun hc=>?_))|(with_reducible refine Br.b (fun hc=>?_) (fun hc=>?_))
 all_goals (refine Rt.pure (congrArg bD ?_);first|(simp [aw1, *];done)|(simp [aw1];omega))
theorem aN9 (c:UInt8):APure Tryz.prog 242 [.v (.int .u8 c.toNat)] (bD (aw5 c)):=by
 refine eP7 Tryz.func242 Tryz.ntmps242 fun BB=>?_
 repeat' first|refine sk2 ?_|(intro b;conv=>whnf)|(with_reducible refine Br.d (fun hc=>?_) (fun hc=>?_))|(with_reducible refine Br.b (fun hc=>?_) (fun hc=>?_))
 all_goals (refine Rt.pure (congrArg bD ?_);first|(simp [aw5, *];done)|(simp [aw5];omega))
theorem aX3 (c:UInt8):APure Tryz.prog 243 [.v (.int .u8 c.toNat)] (bD (bo5 c)):=by
 refine eP7 Tryz.func243 Tryz.ntmps243 fun BB=>?_
 repeat' first|refine sk2 ?_|(intro b;conv=>whnf)|(with_reducible refine Br.d (fun hc=>?_) (fun hc=>?_))|(with_reducible refine Br.b (fun hc=>?_) (fun hc=>?_))
 all_goals (refine Rt.pure (congrArg bD ?_);first|(simp [bo5, *];done)|(simp [bo5];omega))
theorem at1 {α:Type} {p:α→Bool} {l:List α} {q:Nat} {y:α} (hy:l[q]?=some y) (h:p y=false):l.all p=false:=by
 rw [List.all_eq_false];exact ⟨y,List.mem_of_getElem? hy,by simp [h]⟩
theorem az5 {α:Type} {p:α→Bool} {l:List α} (h:∀ (m:Nat) y,m<l.length→l[m]?=some y→p y=true):l.all p=true:=by
 rw [List.all_eq_true]
 intro y hy
 obtain ⟨m,hm⟩:=List.getElem?_of_mem hy
 exact h m y (List.getElem?_eq_some_iff.1 hm).1 hm
theorem aI7 {α:Type} {p:α→Bool} {l:List α} {q:Nat} {y:α} (hno:∀ (m:Nat) y,m<q→l[m]?=some y→p y=true) (hy:l[q]?=some y) (h:p y=true):∀ (m:Nat) y,m<q+1→l[m]?=some y→p y=true:=by
 intro m z hm hz
 by_cases e:m=q
 ·subst e;rw [hy] at hz;cases hz;exact h
 ·exact hno m z (by omega) hz
theorem aD1 (s:ByteArray):(bytes s).length=s.size:=by unfold bytes;simp
theorem sk87 {A B:Prop} (k:B) (h:Hd7 B→A:=by intro hk7q;(first|refine sb0 ?_|refine sb1 ?_|((with_reducible refine' Cp.by ?hc ?_);(case hc=>first|exact aN9 _|exact aX3 _|exact ah8 _ _ _|exact ax4 _ _ _ _))|((with_reducible refine' CE.pure ?hc ?_);(case hc=>first|exact aN9 _|exact aX3 _|exact ah8 _ _ _|exact ax4 _ _ _ _)));exact hk7q.run):A:=h ⟨k⟩
theorem al0 (s:ByteArray):APure Tryz.prog 210 [sD s] (bD (isNm s)):=by
 refine eP7 Tryz.func210 Tryz.ntmps210 fun BB=>?_
 by_cases hs:1≤s.size∧s.size≤12
 ·have hw:ac1 s.size 1 12=true:=by simp [ac1];omega
  have h0:0<(bytes s).length:=by rw [aD1];omega
  obtain ⟨c,hc0⟩:∃ c,(bytes s)[(0:Int).toNat]?=some c:=⟨_,List.getElem?_eq_getElem h0⟩
  have hN:isNm s=(aw5 c && (bytes s).all alnum):=by
   unfold isNm
   rw [hw]
   have hc1:(bytes s)[0]?=some c:=hc0
   cases hb:bytes s with
   | nil=>rw [hb] at h0;simp at h0
   | cons d r=>rw [hb] at hc1;simp at hc1;subst hc1;simp
  cases hlet:aw5 c with
  | false=>
   repeat' first|refine sk87 ?_|(intro b;conv=>whnf)|(with_reducible refine Br.d (fun hc=>?_) (fun hc=>?_))|(with_reducible refine Br.b (fun hc=>?_) (fun hc=>?_))
   all_goals (refine Rt.pure (congrArg bD ?_);rw [hN,hlet];rfl)
  | true=>
   repeat' first|refine sk87 ?_|(intro b;conv=>whnf)|(with_reducible refine Br.d (fun hc=>?_) (fun hc=>?_))|(with_reducible refine Br.b (fun hc=>?_) (fun hc=>?_))
   refine ad5 mixed aa0 (γ:=Nat) (fun g=>[(3,iD g)]) (fun _=>[]) (fun q=>q≤s.size∧∀ (m:Nat) y,m<q→(bytes s)[m]?=some y→alnum y=true) (fun q=>s.size - q) 0 rfl rfl ⟨by omega,fun m y hm=>by omega⟩ ?_
   rintro q ⟨hq,hno⟩
   by_cases hlt:q<s.size
   ·obtain ⟨y,hy⟩:∃ y,(bytes s)[(q:Int).toNat]?=some y:=⟨_,List.getElem?_eq_getElem (by rw [aD1];simpa using hlt)⟩
    have hy':(bytes s)[q]?=some y:=hy
    repeat' first|refine sk87 ?_|(intro b;conv=>whnf)|(with_reducible refine Br.d (fun hc=>?_) (fun hc=>?_))|(with_reducible refine Br.b (fun hc=>?_) (fun hc=>?_))
    all_goals first
     | exact ⟨q+1,rfl,rfl,⟨by omega,aI7 hno hy' (by simp [alnum, *])⟩,by omega⟩
     | (refine Rt.pure (congrArg bD ?_);rw [hN,at1 hy' (by simp [alnum, *]),Bool.and_false])
   ·repeat' first|refine sk87 ?_|(intro b;conv=>whnf)|(with_reducible refine Br.d (fun hc=>?_) (fun hc=>?_))|(with_reducible refine Br.b (fun hc=>?_) (fun hc=>?_))
    refine Rt.pure (congrArg bD ?_)
    rw [hN,hlet,az5 (fun m y hm hy=>hno m y (by rw [aD1] at hm;omega) hy)];rfl
 ·have hN:isNm s=false:=by
   have hw:ac1 s.size 1 12=false:=by simp [ac1];omega
   unfold isNm;rw [hw];simp
  repeat' first|refine sk87 ?_|(intro b;conv=>whnf)|(with_reducible refine Br.d (fun hc=>?_) (fun hc=>?_))|(with_reducible refine Br.b (fun hc=>?_) (fun hc=>?_))
  all_goals first|(exfalso;omega)|(refine Rt.pure (congrArg bD ?_);exact hN.symm)
theorem sk88 {A B:Prop} (k:B) (h:Hd7 B→A:=by intro hk7q;(first|refine sb0 ?_|refine sb1 ?_|((with_reducible refine' Cp.by ?hc ?_);(case hc=>exact al0 _))|((with_reducible refine' CE.pure ?hc ?_);(case hc=>exact al0 _)));exact hk7q.run):A:=h ⟨k⟩
theorem aA6 (l:List ByteArray) (hl:l.length≤1000000):APure Tryz.prog 213 [slS l] (bD (l.all isNm)):=by
 refine eP7 Tryz.func213 Tryz.ntmps213 fun BB=>?_
 repeat' first|refine sk88 ?_|(intro b;conv=>whnf)|refine IxM.mk fun y hy=>?_
 refine ad5 mixed aa0 (γ:=Nat) (fun g=>[(3,iD g)]) (fun _=>[]) (fun q=>q≤l.length∧∀ (m:Nat) y,m<q→l[m]?=some y→isNm y=true) (fun q=>l.length - q) 0 rfl rfl ⟨by omega,fun m y hm=>by omega⟩ ?_
 rintro q ⟨hq,hno⟩
 repeat' first|refine sk88 ?_|(intro b;conv=>whnf)|refine IxM.mk fun y hy=>?_|(with_reducible refine Br.d (fun hc=>?_) (fun hc=>?_))|(with_reducible refine Br.b (fun hc=>?_) (fun hc=>?_))
 ·exact ⟨q+1,rfl,rfl,⟨by omega,aI7 hno hy (by assumption)⟩,by omega⟩
 ·refine Rt.pure (congrArg bD ?_);rw [at1 hy (by assumption)]
 ·refine Rt.pure (congrArg bD ?_)
  rw [az5 (fun m y hm hy=>hno m y (by omega) hy)]
def bQ4 (k:Int):D:=.tup [bD (ar0 k),bD (aq9 k),bD (ar1 k),bD (aq1 k),bD (aq0 k)]
theorem an4 (k:Int):APure Tryz.prog 244 [iD k] (bQ4 k):=by
 refine eP7 Tryz.func244 Tryz.ntmps244 fun BB=>?_
 by_cases h:k=0∨k=1∨k=2∨k=3∨k=4∨k=5∨k=6∨k=7∨k=8
 ·rcases h with h|h|h|h|h|h|h|h|h
  all_goals
   repeat' first|refine sk88 ?_|(intro b;conv=>whnf)
   refine Rt.pure ?_
   subst h;rfl
 ·have n0:¬ k=0:=by omega
  have n1:¬ k=1:=by omega
  have n2:¬ k=2:=by omega
  have n3:¬ k=3:=by omega
  have n4:¬ k=4:=by omega
  have n5:¬ k=5:=by omega
  have n6:¬ k=6:=by omega
  have n7:¬ k=7:=by omega
  have n8:¬ k=8:=by omega
  repeat' first|refine sk88 ?_|(intro b;conv=>whnf)
  refine Rt.pure ?_
  show D.tup [bD (decide (k=8)),bD (decide (k=8)),bD (decide (k=0)),bD (decide (k=7)),bD (decide (k=3))]=_
  simp [bQ4,ar0,aq9,ar1,aq1,aq0,n0,n1,n2,n3,n4,n5,n6,n7,n8]
theorem sk89 {A B:Prop} (k:B) (h:Hd7 B→A:=by intro hk7q;(first|refine sb0 ?_|refine sb1 ?_|((with_reducible refine' Cp.by ?hc ?_);(case hc=>first|exact ah8 _ _ _|exact aA6 _ (by assumption)))|((with_reducible refine' CE.pure ?hc ?_);(case hc=>first|exact ah8 _ _ _|exact aA6 _ (by assumption))));exact hk7q.run):A:=h ⟨k⟩
theorem aO0 (f:Fld) (hw:f.words.length≤1000000) (hg:f.weights.length≤1000000):APure Tryz.prog 245 [fldD f] (bD (ag1 f.words f.weights)):=by
 refine eP7 Tryz.func245 Tryz.ntmps245 fun BB=>?_
 repeat' first|refine sk89 ?_|(intro b;conv=>whnf)
 refine ad5 mixed aa0 (γ:=Nat × Int) (fun g=>[(3,iD g.2),(4,iD g.1)]) (fun _=>[]) (fun g=>g.1≤f.weights.length∧g.2=(f.weights.take g.1).sum∧(∀ (m:Nat) y,m<g.1→f.weights[m]?=some y→ac1 y 0 1048576=true)∧0≤g.2∧g.2≤1048576*g.1) (fun g=>f.weights.length - g.1) (0,0) rfl rfl ⟨by omega,by simp,fun m y hm=>by omega,by simp,by simp⟩ ?_
 rintro ⟨q,u⟩ ⟨hq,hu,hno,hs0,hs1⟩
 simp only at hq hu hno hs0 hs1 ⊢
 by_cases hlt:q<f.weights.length
 ·obtain ⟨y,hy⟩:∃ y,f.weights[q]?=some y:=⟨_,List.getElem?_eq_getElem hlt⟩
  have hsum:(f.weights.take (q+1)).sum=(f.weights.take q).sum+y:=by
   rw [List.take_add_one,hy];simp
  cases h1:ac1 y 0 1048576 with
  | true=>
   have hy1:0≤y∧y≤1048576:=by simpa [ac1] using h1
   repeat' first|refine sk89 ?_|(intro b;conv=>whnf)|(with_reducible refine Br.d (fun hc=>?_) (fun hc=>?_))|(with_reducible refine Br.b (fun hc=>?_) (fun hc=>?_))
   exact ⟨(q+1,u+y),rfl,rfl,⟨by simp only;omega,by simp only;omega,aI7 hno hy h1,by simp only;omega,by simp only;omega⟩,by simp only;omega⟩
  | false=>
   repeat' first|refine sk89 ?_|(intro b;conv=>whnf)|(with_reducible refine Br.d (fun hc=>?_) (fun hc=>?_))|(with_reducible refine Br.b (fun hc=>?_) (fun hc=>?_))
   all_goals (refine Rt.pure (congrArg bD ?_);simp only [ag1,at1 (p:=fun n=>ac1 n 0 1048576) hy h1];simp)
 ·obtain rfl:q=f.weights.length:=by omega
  have hall:f.weights.all (fun n=>ac1 n 0 1048576)=true:=az5 hno
  rw [List.take_length] at hu
  have hB:ag1 f.words f.weights=(ac1 f.words.length 1 12 && decide (f.words.length=f.weights.length) && decide (0<f.weights.sum) && f.words.all isNm):=by simp [ag1,hall]
  rw [← hu] at hB
  clear hu hno hs0 hs1 hall hq hlt
  by_cases e2:f.words.length=f.weights.length
  ·by_cases e3:0<u
   ·repeat' first|refine sk89 ?_|(intro b;conv=>whnf)|(with_reducible refine Br.d (fun hc=>?_) (fun hc=>?_))|(with_reducible refine Br.b (fun hc=>?_) (fun hc=>?_))
    all_goals (refine Rt.pure (congrArg bD ?_);rw [hB];simp_all)
   ·rw [decide_eq_false e3] at hB
    repeat' first|refine sk89 ?_|(intro b;conv=>whnf)|(with_reducible refine Br.d (fun hc=>?_) (fun hc=>?_))|(with_reducible refine Br.b (fun hc=>?_) (fun hc=>?_))
    all_goals (refine Rt.pure (congrArg bD ?_);rw [hB];simp)
  ·repeat' first|refine sk89 ?_|(intro b;conv=>whnf)|(with_reducible refine Br.d (fun hc=>?_) (fun hc=>?_))|(with_reducible refine Br.b (fun hc=>?_) (fun hc=>?_))
   all_goals (refine Rt.pure (congrArg bD ?_);rw [hB,decide_eq_false e2];simp)
end
end Go.Proofs.YtlcfiilejnnlnaaGreatDoor
