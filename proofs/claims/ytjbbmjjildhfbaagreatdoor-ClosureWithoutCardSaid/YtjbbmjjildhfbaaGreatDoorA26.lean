/- A part of the proof: SchemaD SchemaE SchemaF SchemaG SrcE. -/
import Derived.Test.YtjbbmjjildhfbaaGreatDoorA25
import Derived.BigRegion
import Derived.Deep.RegionWith
import Derived.Deep.DeepCutAuto
set_option maxRecDepth 100000
set_option maxHeartbeats 4000000
set_option linter.unusedVariables false
set_option linter.unusedSimpArgs false
namespace Go.Proofs.YtjbbmjjildhfbaaGreatDoor
section
open Go.RowKit Go.Shelf
def nos : ByteArray:=⟨#[]⟩
def onlyF (f : Fld) : Fld:=⟨f.name,if usesOf f.kind then f.of else nos,if usesUp f.kind then f.up else nos,f.kind,if usesLo f.kind then f.lo else 0,if usesHi f.kind then f.hi else 0,if usesWd f.kind then f.words else [],if usesWd f.kind then f.weights else []⟩
theorem only_0 (name of up : ByteArray) (lo hi : Int) (wa ga : Option Addr) (nw wc ng gc : Nat) (w : World) :
  Calls Tryz.prog 159 #[.agg #[.string name,.string of,.string up,.int .i64 0,.int .i64 lo,.int .i64 hi,.slice wa nw wc,.slice ga ng gc]] w fun e w'=>e = .returned (.agg #[.string name,.string nos,.string nos,.int .i64 0,.int .i64 lo,.int .i64 0,.slice none 0 0,.slice none 0 0]) ∧ Ex w w':=by
 go_enter Tryz.func159,Tryz.ntmps159
 go_wp2
 all_goals exact bodyPost_ret (v:=.agg #[.string name,.string nos,.string nos,.int .i64 0,.int .i64 lo,.int .i64 0,.slice none 0 0,.slice none 0 0]) (by simp [results,Tryz.results159,go_sem,nos]) rfl ⟨rfl,cl0⟩
theorem only_1 (name of up : ByteArray) (lo hi : Int) (wa ga : Option Addr) (nw wc ng gc : Nat) (w : World) :
  Calls Tryz.prog 159 #[.agg #[.string name,.string of,.string up,.int .i64 1,.int .i64 lo,.int .i64 hi,.slice wa nw wc,.slice ga ng gc]] w fun e w'=>e = .returned (.agg #[.string name,.string of,.string nos,.int .i64 1,.int .i64 lo,.int .i64 hi,.slice none 0 0,.slice none 0 0]) ∧ Ex w w':=by
 go_enter Tryz.func159,Tryz.ntmps159
 go_wp2
 go_region
 all_goals go_wp2
 all_goals exact bodyPost_ret (v:=.agg #[.string name,.string of,.string nos,.int .i64 1,.int .i64 lo,.int .i64 hi,.slice none 0 0,.slice none 0 0]) (by simp [results,Tryz.results159,go_sem,nos]) rfl ⟨rfl,cl0⟩
theorem only_2 (name of up : ByteArray) (lo hi : Int) (wa ga : Option Addr) (nw wc ng gc : Nat) (w : World) :
  Calls Tryz.prog 159 #[.agg #[.string name,.string of,.string up,.int .i64 2,.int .i64 lo,.int .i64 hi,.slice wa nw wc,.slice ga ng gc]] w fun e w'=>e = .returned (.agg #[.string name,.string nos,.string nos,.int .i64 2,.int .i64 lo,.int .i64 hi,.slice none 0 0,.slice none 0 0]) ∧ Ex w w':=by
 go_enter Tryz.func159,Tryz.ntmps159
 go_wp2
 go_region
 all_goals go_wp2
 all_goals exact bodyPost_ret (v:=.agg #[.string name,.string nos,.string nos,.int .i64 2,.int .i64 lo,.int .i64 hi,.slice none 0 0,.slice none 0 0]) (by simp [results,Tryz.results159,go_sem,nos]) rfl ⟨rfl,cl0⟩
theorem only_3 (name of up : ByteArray) (lo hi : Int) (wa ga : Option Addr) (nw wc ng gc : Nat) (w : World) :
  Calls Tryz.prog 159 #[.agg #[.string name,.string of,.string up,.int .i64 3,.int .i64 lo,.int .i64 hi,.slice wa nw wc,.slice ga ng gc]] w fun e w'=>e = .returned (.agg #[.string name,.string nos,.string nos,.int .i64 3,.int .i64 0,.int .i64 0,.slice wa nw wc,.slice ga ng gc]) ∧ Ex w w':=by
 go_enter Tryz.func159,Tryz.ntmps159
 go_wp2
 go_region
 all_goals go_wp2
 all_goals exact bodyPost_ret (v:=.agg #[.string name,.string nos,.string nos,.int .i64 3,.int .i64 0,.int .i64 0,.slice wa nw wc,.slice ga ng gc]) (by simp [results,Tryz.results159,go_sem,nos]) rfl ⟨rfl,cl0⟩
theorem only_4 (name of up : ByteArray) (lo hi : Int) (wa ga : Option Addr) (nw wc ng gc : Nat) (w : World) :
  Calls Tryz.prog 159 #[.agg #[.string name,.string of,.string up,.int .i64 4,.int .i64 lo,.int .i64 hi,.slice wa nw wc,.slice ga ng gc]] w fun e w'=>e = .returned (.agg #[.string name,.string of,.string nos,.int .i64 4,.int .i64 lo,.int .i64 hi,.slice none 0 0,.slice none 0 0]) ∧ Ex w w':=by
 go_enter Tryz.func159,Tryz.ntmps159
 go_wp2
 go_region
 all_goals go_wp2
 all_goals exact bodyPost_ret (v:=.agg #[.string name,.string of,.string nos,.int .i64 4,.int .i64 lo,.int .i64 hi,.slice none 0 0,.slice none 0 0]) (by simp [results,Tryz.results159,go_sem,nos]) rfl ⟨rfl,cl0⟩
theorem only_5 (name of up : ByteArray) (lo hi : Int) (wa ga : Option Addr) (nw wc ng gc : Nat) (w : World) :
  Calls Tryz.prog 159 #[.agg #[.string name,.string of,.string up,.int .i64 5,.int .i64 lo,.int .i64 hi,.slice wa nw wc,.slice ga ng gc]] w fun e w'=>e = .returned (.agg #[.string name,.string of,.string nos,.int .i64 5,.int .i64 lo,.int .i64 hi,.slice none 0 0,.slice none 0 0]) ∧ Ex w w':=by
 go_enter Tryz.func159,Tryz.ntmps159
 go_wp2
 go_region
 all_goals go_wp2
 all_goals exact bodyPost_ret (v:=.agg #[.string name,.string of,.string nos,.int .i64 5,.int .i64 lo,.int .i64 hi,.slice none 0 0,.slice none 0 0]) (by simp [results,Tryz.results159,go_sem,nos]) rfl ⟨rfl,cl0⟩
theorem only_6 (name of up : ByteArray) (lo hi : Int) (wa ga : Option Addr) (nw wc ng gc : Nat) (w : World) :
  Calls Tryz.prog 159 #[.agg #[.string name,.string of,.string up,.int .i64 6,.int .i64 lo,.int .i64 hi,.slice wa nw wc,.slice ga ng gc]] w fun e w'=>e = .returned (.agg #[.string name,.string of,.string nos,.int .i64 6,.int .i64 0,.int .i64 0,.slice none 0 0,.slice none 0 0]) ∧ Ex w w':=by
 go_enter Tryz.func159,Tryz.ntmps159
 go_wp2
 all_goals exact bodyPost_ret (v:=.agg #[.string name,.string of,.string nos,.int .i64 6,.int .i64 0,.int .i64 0,.slice none 0 0,.slice none 0 0]) (by simp [results,Tryz.results159,go_sem,nos]) rfl ⟨rfl,cl0⟩
theorem only_7 (name of up : ByteArray) (lo hi : Int) (wa ga : Option Addr) (nw wc ng gc : Nat) (w : World) :
  Calls Tryz.prog 159 #[.agg #[.string name,.string of,.string up,.int .i64 7,.int .i64 lo,.int .i64 hi,.slice wa nw wc,.slice ga ng gc]] w fun e w'=>e = .returned (.agg #[.string name,.string of,.string up,.int .i64 7,.int .i64 lo,.int .i64 hi,.slice none 0 0,.slice none 0 0]) ∧ Ex w w':=by
 go_enter Tryz.func159,Tryz.ntmps159
 go_wp2
 go_region
 all_goals go_wp2
 all_goals exact bodyPost_ret (v:=.agg #[.string name,.string of,.string up,.int .i64 7,.int .i64 lo,.int .i64 hi,.slice none 0 0,.slice none 0 0]) (by simp [results,Tryz.results159,go_sem,nos]) rfl ⟨rfl,cl0⟩
theorem only_8 (name of up : ByteArray) (lo hi : Int) (wa ga : Option Addr) (nw wc ng gc : Nat) (w : World) :
  Calls Tryz.prog 159 #[.agg #[.string name,.string of,.string up,.int .i64 8,.int .i64 lo,.int .i64 hi,.slice wa nw wc,.slice ga ng gc]] w fun e w'=>e = .returned (.agg #[.string name,.string of,.string up,.int .i64 8,.int .i64 0,.int .i64 0,.slice none 0 0,.slice none 0 0]) ∧ Ex w w':=by
 go_enter Tryz.func159,Tryz.ntmps159
 go_wp2
 go_region
 all_goals go_wp2
 all_goals exact bodyPost_ret (v:=.agg #[.string name,.string of,.string up,.int .i64 8,.int .i64 0,.int .i64 0,.slice none 0 0,.slice none 0 0]) (by simp [results,Tryz.results159,go_sem,nos]) rfl ⟨rfl,cl0⟩
theorem only_no (name of up : ByteArray) (k : Int) (h0 : (k == 0) = false) (h1 : (k == 1) = false) (h2 : (k == 2) = false) (h3 : (k == 3) = false) (h4 : (k == 4) = false) (h5 : (k == 5) = false) (h6 : (k == 6) = false) (h7 : (k == 7) = false) (h8 : (k == 8) = false) (lo hi : Int) (wa ga : Option Addr) (nw wc ng gc : Nat) (w : World) :
  Calls Tryz.prog 159 #[.agg #[.string name,.string of,.string up,.int .i64 k,.int .i64 lo,.int .i64 hi,.slice wa nw wc,.slice ga ng gc]] w fun e w'=>e = .returned (.agg #[.string name,.string nos,.string nos,.int .i64 k,.int .i64 0,.int .i64 0,.slice none 0 0,.slice none 0 0]) ∧ Ex w w':=by
 go_enter Tryz.func159,Tryz.ntmps159
 go_wp2
 all_goals exact bodyPost_ret (v:=.agg #[.string name,.string nos,.string nos,.int .i64 k,.int .i64 0,.int .i64 0,.slice none 0 0,.slice none 0 0]) (by simp [results,Tryz.results159,go_sem,nos]) rfl ⟨rfl,cl0⟩
def sameB (f g : Fld) : Bool:=seq f.name g.name && (seq f.of g.of && (seq f.up g.up && (f.kind == g.kind && (f.lo == g.lo && (f.hi == g.hi && (beqOf seq f.words g.words && beqOf ieq f.weights g.weights))))))
theorem same_any (f g : Fld) (w : World) {F G : Nat → Prop} {wa ga wa' ga' : Option Addr} {wc gc wc' gc' : Nat} (hw : RStrs w F f.words wa wc) (hg : RInts w F f.weights ga gc) (hw' : RStrs w G g.words wa' wc') (hg' : RInts w G g.weights ga' gc')
  (l1 : f.words.length ≤ 1000000) (l2 : f.weights.length ≤ 1000000) (l3 : g.words.length ≤ 1000000) (l4 : g.weights.length ≤ 1000000) :
  Calls Tryz.prog 158 #[.agg #[.string f.name,.string f.of,.string f.up,.int .i64 f.kind,.int .i64 f.lo,.int .i64 f.hi,.slice wa f.words.length wc,.slice ga f.weights.length gc],
   .agg #[.string g.name,.string g.of,.string g.up,.int .i64 g.kind,.int .i64 g.lo,.int .i64 g.hi,.slice wa' g.words.length wc',.slice ga' g.weights.length gc']] w fun e w'=>e = .returned (.bool (sameB f g)) ∧ Ex w w':=by
 have HS:=Lib.hid (fun (w' : World) (he : Ex w w')=>equal_str (hw.keep (w':=w') he.same (fun _ h=>h) (fun _ _ _ h=>h)) (hw'.keep (w':=w') he.same (fun _ h=>h) (fun _ _ _ h=>h)) (by omega) (by omega))
 have HI:=Lib.hid (fun (w' : World) (he : Ex w w')=>equal_int (hg.keep (w':=w') he.same (fun _ h=>h) (fun _ _ _ h=>h)) (hg'.keep (w':=w') he.same (fun _ h=>h) (fun _ _ _ h=>h)) (by omega) (by omega))
 clear hw hg hw' hg' l1 l2 l3 l4
 obtain ⟨n1,o1,u1,k1,lo1,hi1,ws1,gs1⟩:=f
 obtain ⟨n2,o2,u2,k2,lo2,hi2,ws2,gs2⟩:=g
 simp only at *
 cases h1 : (n1.toList == n2.toList)
 ·go_enter Tryz.func158,Tryz.ntmps158;go_wp2_with (first | (go_at_call 176;refine (HS.out _ cl0).mono ?_;rintro e w1 ⟨rfl,hb1⟩;(have hq7:=ru7;(try clear hc hf);obtain ⟨hb,hc,hf,hz⟩:=hq7;(try simp only [zsz7] at hz);(try have hz0:=z07 w w1);(try have hz1:=z17 w w1);(try have hz2:=z27 w w1))) | (go_at_call 177;refine (HI.out _ cl0).mono ?_;rintro e w1 ⟨rfl,hb1⟩;(have hq7:=ru7;(try clear hc hf);obtain ⟨hb,hc,hf,hz⟩:=hq7;(try simp only [zsz7] at hz);(try have hz0:=z07 w w1);(try have hz1:=z17 w w1);(try have hz2:=z27 w w1))));go_ret
  exact ⟨ret_bool (by simp only [sameB,seq,h1,Bool.false_and]),cl0⟩
 cases h2 : (o1.toList == o2.toList)
 ·go_enter Tryz.func158,Tryz.ntmps158;go_wp2_with (first | (go_at_call 176;refine (HS.out _ cl0).mono ?_;rintro e w1 ⟨rfl,hb1⟩;(have hq7:=ru7;(try clear hc hf);obtain ⟨hb,hc,hf,hz⟩:=hq7;(try simp only [zsz7] at hz);(try have hz0:=z07 w w1);(try have hz1:=z17 w w1);(try have hz2:=z27 w w1))) | (go_at_call 177;refine (HI.out _ cl0).mono ?_;rintro e w1 ⟨rfl,hb1⟩;(have hq7:=ru7;(try clear hc hf);obtain ⟨hb,hc,hf,hz⟩:=hq7;(try simp only [zsz7] at hz);(try have hz0:=z07 w w1);(try have hz1:=z17 w w1);(try have hz2:=z27 w w1))));go_ret
  exact ⟨ret_bool (by simp only [sameB,seq,h1,h2,Bool.false_and,Bool.true_and]),cl0⟩
 cases h3 : (u1.toList == u2.toList)
 ·go_enter Tryz.func158,Tryz.ntmps158;go_wp2_with (first | (go_at_call 176;refine (HS.out _ cl0).mono ?_;rintro e w1 ⟨rfl,hb1⟩;(have hq7:=ru7;(try clear hc hf);obtain ⟨hb,hc,hf,hz⟩:=hq7;(try simp only [zsz7] at hz);(try have hz0:=z07 w w1);(try have hz1:=z17 w w1);(try have hz2:=z27 w w1))) | (go_at_call 177;refine (HI.out _ cl0).mono ?_;rintro e w1 ⟨rfl,hb1⟩;(have hq7:=ru7;(try clear hc hf);obtain ⟨hb,hc,hf,hz⟩:=hq7;(try simp only [zsz7] at hz);(try have hz0:=z07 w w1);(try have hz1:=z17 w w1);(try have hz2:=z27 w w1))));go_ret
  exact ⟨ret_bool (by simp only [sameB,seq,h1,h2,h3,Bool.false_and,Bool.true_and]),cl0⟩
 cases h4 : (k1 == k2)
 ·go_enter Tryz.func158,Tryz.ntmps158;go_wp2_with (first | (go_at_call 176;refine (HS.out _ cl0).mono ?_;rintro e w1 ⟨rfl,hb1⟩;(have hq7:=ru7;(try clear hc hf);obtain ⟨hb,hc,hf,hz⟩:=hq7;(try simp only [zsz7] at hz);(try have hz0:=z07 w w1);(try have hz1:=z17 w w1);(try have hz2:=z27 w w1))) | (go_at_call 177;refine (HI.out _ cl0).mono ?_;rintro e w1 ⟨rfl,hb1⟩;(have hq7:=ru7;(try clear hc hf);obtain ⟨hb,hc,hf,hz⟩:=hq7;(try simp only [zsz7] at hz);(try have hz0:=z07 w w1);(try have hz1:=z17 w w1);(try have hz2:=z27 w w1))));go_ret
  exact ⟨ret_bool (by simp only [sameB,seq,h1,h2,h3,h4,Bool.false_and,Bool.true_and]),cl0⟩
 cases h5 : (lo1 == lo2)
 ·go_enter Tryz.func158,Tryz.ntmps158;go_wp2_with (first | (go_at_call 176;refine (HS.out _ cl0).mono ?_;rintro e w1 ⟨rfl,hb1⟩;(have hq7:=ru7;(try clear hc hf);obtain ⟨hb,hc,hf,hz⟩:=hq7;(try simp only [zsz7] at hz);(try have hz0:=z07 w w1);(try have hz1:=z17 w w1);(try have hz2:=z27 w w1))) | (go_at_call 177;refine (HI.out _ cl0).mono ?_;rintro e w1 ⟨rfl,hb1⟩;(have hq7:=ru7;(try clear hc hf);obtain ⟨hb,hc,hf,hz⟩:=hq7;(try simp only [zsz7] at hz);(try have hz0:=z07 w w1);(try have hz1:=z17 w w1);(try have hz2:=z27 w w1))));go_ret
  exact ⟨ret_bool (by simp only [sameB,seq,h1,h2,h3,h4,h5,Bool.false_and,Bool.true_and]),cl0⟩
 cases h6 : (hi1 == hi2)
 ·go_enter Tryz.func158,Tryz.ntmps158;go_wp2_with (first | (go_at_call 176;refine (HS.out _ cl0).mono ?_;rintro e w1 ⟨rfl,hb1⟩;(have hq7:=ru7;(try clear hc hf);obtain ⟨hb,hc,hf,hz⟩:=hq7;(try simp only [zsz7] at hz);(try have hz0:=z07 w w1);(try have hz1:=z17 w w1);(try have hz2:=z27 w w1))) | (go_at_call 177;refine (HI.out _ cl0).mono ?_;rintro e w1 ⟨rfl,hb1⟩;(have hq7:=ru7;(try clear hc hf);obtain ⟨hb,hc,hf,hz⟩:=hq7;(try simp only [zsz7] at hz);(try have hz0:=z07 w w1);(try have hz1:=z17 w w1);(try have hz2:=z27 w w1))));go_ret
  exact ⟨ret_bool (by simp only [sameB,seq,h1,h2,h3,h4,h5,h6,Bool.false_and,Bool.true_and]),cl0⟩
 cases h7 : beqOf seq ws1 ws2
 ·go_enter Tryz.func158,Tryz.ntmps158;go_wp2_with (first | (go_at_call 176;refine (HS.out _ cl0).mono ?_;rintro e w1 ⟨rfl,hb1⟩;(have hq7:=ru7;(try clear hc hf);obtain ⟨hb,hc,hf,hz⟩:=hq7;(try simp only [zsz7] at hz);(try have hz0:=z07 w w1);(try have hz1:=z17 w w1);(try have hz2:=z27 w w1))) | (go_at_call 177;refine (HI.out _ cl0).mono ?_;rintro e w1 ⟨rfl,hb1⟩;(have hq7:=ru7;(try clear hc hf);obtain ⟨hb,hc,hf,hz⟩:=hq7;(try simp only [zsz7] at hz);(try have hz0:=z07 w w1);(try have hz1:=z17 w w1);(try have hz2:=z27 w w1))));go_ret
  exact ⟨ret_bool (by simp only [sameB,h7,Bool.false_and,Bool.and_false]),cl0⟩
 ·have HR : Hid (sameB ⟨n1,o1,u1,k1,lo1,hi1,ws1,gs1⟩ ⟨n2,o2,u2,k2,lo2,hi2,ws2,gs2⟩ = beqOf ieq gs1 gs2):=Lib.hid (by simp only [sameB,seq,h1,h2,h3,h4,h5,h6,Bool.true_and];simp only [show beqOf (fun a b : ByteArray=>a.toList == b.toList) ws1 ws2 = true from h7,show beqOf seq ws1 ws2 = true from h7,Bool.true_and])
  go_enter Tryz.func158,Tryz.ntmps158;go_wp2_with (first | (go_at_call 176;refine (HS.out _ cl0).mono ?_;rintro e w1 ⟨rfl,hb1⟩;(have hq7:=ru7;(try clear hc hf);obtain ⟨hb,hc,hf,hz⟩:=hq7;(try simp only [zsz7] at hz);(try have hz0:=z07 w w1);(try have hz1:=z17 w w1);(try have hz2:=z27 w w1))) | (go_at_call 177;refine (HI.out _ cl0).mono ?_;rintro e w1 ⟨rfl,hb1⟩;(have hq7:=ru7;(try clear hc hf);obtain ⟨hb,hc,hf,hz⟩:=hq7;(try simp only [zsz7] at hz);(try have hz0:=z07 w w1);(try have hz1:=z17 w w1);(try have hz2:=z27 w w1))));go_ret
  exact ⟨ret_bool HR.out.symm,cl0⟩
end
section
open Go.RowKit Go.Shelf
theorem only_any (f : Fld) (w : World) {F : Nat → Prop} {wa ga : Option Addr} {wc gc : Nat} (hw : RStrs w F f.words wa wc) (hg : RInts w F f.weights ga gc) :
  Calls Tryz.prog 159 #[.agg #[.string f.name,.string f.of,.string f.up,.int .i64 f.kind,.int .i64 f.lo,.int .i64 f.hi,.slice wa f.words.length wc,.slice ga f.weights.length gc]] w
   fun e w'=>∃ wa' wc' ga' gc',e = .returned (.agg #[.string (onlyF f).name,.string (onlyF f).of,.string (onlyF f).up,.int .i64 (onlyF f).kind,.int .i64 (onlyF f).lo,.int .i64 (onlyF f).hi,.slice wa' (onlyF f).words.length wc',.slice ga' (onlyF f).weights.length gc']) ∧
    RStrs w' F (onlyF f).words wa' wc' ∧ RInts w' F (onlyF f).weights ga' gc' ∧ Ex w w':=by
 obtain ⟨n,o,u,k,lo,hi,ws,gs⟩:=f
 simp only at *
 by_cases h0 : k = 0
 ·subst h0;exact (only_0 n o u lo hi wa ga _ wc _ gc w).mono fun e w' ⟨h1,h2⟩=>⟨_,_,_,_,h1,Row.nil,Row.nil,h2⟩
 by_cases h1 : k = 1
 ·subst h1;exact (only_1 n o u lo hi wa ga _ wc _ gc w).mono fun e w' ⟨h1,h2⟩=>⟨_,_,_,_,h1,Row.nil,Row.nil,h2⟩
 by_cases h2 : k = 2
 ·subst h2;exact (only_2 n o u lo hi wa ga _ wc _ gc w).mono fun e w' ⟨h1,h2⟩=>⟨_,_,_,_,h1,Row.nil,Row.nil,h2⟩
 by_cases h3 : k = 3
 ·subst h3;exact (only_3 n o u lo hi wa ga _ wc _ gc w).mono fun e w' ⟨h1,h2⟩=>⟨_,_,_,_,h1,hw.keep h2.same (fun _ h=>h) (fun _ _ _ h=>h),hg.keep h2.same (fun _ h=>h) (fun _ _ _ h=>h),h2⟩
 by_cases h4 : k = 4
 ·subst h4;exact (only_4 n o u lo hi wa ga _ wc _ gc w).mono fun e w' ⟨h1,h2⟩=>⟨_,_,_,_,h1,Row.nil,Row.nil,h2⟩
 by_cases h5 : k = 5
 ·subst h5;exact (only_5 n o u lo hi wa ga _ wc _ gc w).mono fun e w' ⟨h1,h2⟩=>⟨_,_,_,_,h1,Row.nil,Row.nil,h2⟩
 by_cases h6 : k = 6
 ·subst h6;exact (only_6 n o u lo hi wa ga _ wc _ gc w).mono fun e w' ⟨h1,h2⟩=>⟨_,_,_,_,h1,Row.nil,Row.nil,h2⟩
 by_cases h7 : k = 7
 ·subst h7;exact (only_7 n o u lo hi wa ga _ wc _ gc w).mono fun e w' ⟨h1,h2⟩=>⟨_,_,_,_,h1,Row.nil,Row.nil,h2⟩
 by_cases h8 : k = 8
 ·subst h8;exact (only_8 n o u lo hi wa ga _ wc _ gc w).mono fun e w' ⟨h1,h2⟩=>⟨_,_,_,_,h1,Row.nil,Row.nil,h2⟩
 have H:=only_no n o u k (by simp [h0]) (by simp [h1]) (by simp [h2]) (by simp [h3]) (by simp [h4]) (by simp [h5]) (by simp [h6]) (by simp [h7]) (by simp [h8]) lo hi wa ga ws.length wc gs.length gc w
 have e1 : onlyF ⟨n,o,u,k,lo,hi,ws,gs⟩ = ⟨n,nos,nos,k,0,0,[],[]⟩:=by simp [onlyF,usesOf,usesUp,usesLo,usesHi,usesWd, *]
 rw [e1]
 exact H.mono fun e w' ⟨h1,h2⟩=>⟨_,_,_,_,h1,Row.nil,Row.nil,h2⟩
theorem isE_seq (a : ByteArray) : seq a nos = isE a:=by
 have : seq a nos = decide (a = nos):=by
  rw [Bool.eq_iff_iff,seq_iff];simp
 rw [this,isE,ByteArray.toList_eq]
 obtain ⟨⟨l⟩⟩:=a
 cases l <;> simp [nos]
theorem beqOf_refl {α : Type} {eq : α → α → Bool} (h : ∀ a,eq a a = true) : ∀ l : List α,beqOf eq l l = true
 | []=>rfl
 | x :: l=>by simp [beqOf,h x,beqOf_refl h l]
theorem beqOf_nil {α : Type} {eq : α → α → Bool} : ∀ l : List α,beqOf eq l [] = l.isEmpty
 | []=>rfl
 | _ :: _=>rfl
theorem same_only (f : Fld) : sameB f (onlyF f) = onlyB f:=by
 obtain ⟨n,o,u,k,lo,hi,ws,gs⟩:=f
 have hs : ∀ (c : Bool) (x : ByteArray),seq x (if c = true then x else nos) = (c || isE x):=fun c x=>by cases c <;> simp [seq_refl,isE_seq]
 have hi' : ∀ (c : Bool) (x : Int),(x == (if c = true then x else 0)) = (c || x == 0):=fun c x=>by cases c <;> simp
 have hl : ∀ (c : Bool),(beqOf seq ws (if c = true then ws else []) && beqOf ieq gs (if c = true then gs else [])) = (c || (ws.isEmpty && gs.isEmpty)):=fun c=>by
  cases c <;> simp [beqOf_refl seq_refl,beqOf_refl (eq:=ieq) (by simp [ieq]),beqOf_nil]
 simp only [sameB,onlyF,onlyB,hs,hi',hl,seq_refl,Bool.true_and,beq_self_eq_true,Bool.and_assoc]
structure FieldAid (n o u : ByteArray) (k lo hi : Int) (nw ng : Nat) (sb : Bool) (w : World) (wa ga : Option Addr) (wc gc : Nat) (fo : Fld) (RW RG : World → Option Addr → Nat → Prop) : Prop where
 only : ∀ w',Ex w w' → Calls Tryz.prog 159 #[.agg #[.string n,.string o,.string u,.int .i64 k,.int .i64 lo,.int .i64 hi,.slice wa nw wc,.slice ga ng gc]] w'
   fun e w2=>∃ wa1 wc1 ga1 gc1,e = .returned (.agg #[.string fo.name,.string fo.of,.string fo.up,.int .i64 fo.kind,.int .i64 fo.lo,.int .i64 fo.hi,.slice wa1 fo.words.length wc1,.slice ga1 fo.weights.length gc1]) ∧
    Ex w' w2 ∧ Hid (RW w2 wa1 wc1 ∧ RG w2 ga1 gc1)
 same : ∀ w' wa1 wc1 ga1 gc1,Ex w w' → RW w' wa1 wc1 → RG w' ga1 gc1 → Calls Tryz.prog 158 #[.agg #[.string n,.string o,.string u,.int .i64 k,.int .i64 lo,.int .i64 hi,.slice wa nw wc,.slice ga ng gc],
   .agg #[.string fo.name,.string fo.of,.string fo.up,.int .i64 fo.kind,.int .i64 fo.lo,.int .i64 fo.hi,.slice wa1 fo.words.length wc1,.slice ga1 fo.weights.length gc1]] w' fun e w2=>e = .returned (.bool sb) ∧ Ex w' w2
 keepW : ∀ w' w2 a c,Ex w' w2 → RW w' a c → RW w2 a c
 keepG : ∀ w' w2 a c,Ex w' w2 → RG w' a c → RG w2 a c
theorem fieldAid (f : Fld) (w : World) {F : Nat → Prop} {wa ga : Option Addr} {wc gc : Nat} (hw : RStrs w F f.words wa wc) (hg : RInts w F f.weights ga gc) (hx : SmF f) :
  FieldAid f.name f.of f.up f.kind f.lo f.hi f.words.length f.weights.length (onlyB f) w wa ga wc gc (onlyF f) (fun w' a c=>RStrs w' F (onlyF f).words a c) (fun w' a c=>RInts w' F (onlyF f).weights a c):=by
 refine ⟨fun w' he=>(only_any f w' (hw.keep he.same (fun _ h=>h) (fun _ _ _ h=>h)) (hg.keep he.same (fun _ h=>h) (fun _ _ _ h=>h))).mono fun e w2 ⟨a1,a2,a3,a4,h1,h2,h3,h4⟩=>⟨a1,a2,a3,a4,h1,h4,h2,h3⟩,
  fun w' wa1 wc1 ga1 gc1 he h1 h2=>?_,fun w' w2 a c he h=>h.keep he.same (fun _ h=>h) (fun _ _ _ h=>h),fun w' w2 a c he h=>h.keep he.same (fun _ h=>h) (fun _ _ _ h=>h)⟩
 have:=same_any f (onlyF f) w' (hw.keep he.same (fun _ h=>h) (fun _ _ _ h=>h)) (hg.keep he.same (fun _ h=>h) (fun _ _ _ h=>h)) (wa':=wa1) (wc':=wc1) (ga':=ga1) (gc':=gc1) (G:=F) h1 h2 hx.nwords hx.nweights
  (by have:=hx.nwords;unfold onlyF;simp only;split <;> simp_all) (by have:=hx.nweights;unfold onlyF;simp only;split <;> simp_all)
 rw [same_only] at this
 exact this
theorem isField_1 (k : Int) (n o u : ByteArray) (lo hi : Int) (nw ng : Nat) (w : World) (wa ga : Option Addr) (cw cg : Nat) (fo : Fld) (RW RG : World → Option Addr → Nat → Prop) (hr1 : n.size ≤ 9223372036854775807) (hr2 : o.size ≤ 9223372036854775807) (hr3 : u.size ≤ 9223372036854775807) (sb : Bool) (HA : FieldAid n o u k lo hi nw ng sb w wa ga cw cg fo RW RG) (h1 : isNm n = false) :
  Calls Tryz.prog 132 #[.agg #[.string n,.string o,.string u,.int .i64 k,.int .i64 lo,.int .i64 hi,.slice wa nw cw,.slice ga ng cg]] w fun e w'=>e = .returned (.bool false) ∧ Ex w w':=by
 go_enter Tryz.func132,Tryz.ntmps132
 go_wp2
 go_region_with (first | (go_at_call 129;refine (isName_any _ _ (by first | exact hr1 | exact hr2 | exact hr3)).mono ?_;rintro e w1 ⟨rfl,hb1⟩;(have hq7:=ru7;(try clear hc hf);obtain ⟨hb,hc,hf,hz⟩:=hq7;(try simp only [zsz7] at hz);(try have hz0:=z07 w w1);(try have hz1:=z17 w w1);(try have hz2:=z27 w w1))) | (go_at_call 159;refine (HA.only _ cl0).mono ?_;rintro e w1 ⟨wa1,wc1,ga1,gc1,rfl,hb1,hw1⟩;(have hq7:=ru7;(try clear hc hf);obtain ⟨hb,hc,hf,hz⟩:=hq7;(try simp only [zsz7] at hz);(try have hz0:=z07 w w1);(try have hz1:=z17 w w1);(try have hz2:=z27 w w1))) | (go_at_call 158;refine (HA.same _ _ _ _ _ cl0 hw1.out.1 hw1.out.2).mono ?_;rintro e w1 ⟨rfl,hb1⟩;(have hq7:=ru7;(try clear hc hf);obtain ⟨hb,hc,hf,hz⟩:=hq7;(try simp only [zsz7] at hz);(try have hz0:=z07 w w1);(try have hz1:=z17 w w1);(try have hz2:=z27 w w1))))
 all_goals go_wp2
 all_goals go_ret
 all_goals exact ⟨rfl,cl0⟩
theorem isField_2 (k : Int) (n o u : ByteArray) (lo hi : Int) (nw ng : Nat) (w : World) (wa ga : Option Addr) (cw cg : Nat) (fo : Fld) (RW RG : World → Option Addr → Nat → Prop) (hr1 : n.size ≤ 9223372036854775807) (hr2 : o.size ≤ 9223372036854775807) (hr3 : u.size ≤ 9223372036854775807) (HA : FieldAid n o u k lo hi nw ng false w wa ga cw cg fo RW RG) (h1 : isNm n = true) :
  Calls Tryz.prog 132 #[.agg #[.string n,.string o,.string u,.int .i64 k,.int .i64 lo,.int .i64 hi,.slice wa nw cw,.slice ga ng cg]] w fun e w'=>e = .returned (.bool false) ∧ Ex w w':=by
 go_enter Tryz.func132,Tryz.ntmps132
 go_wp2
 go_region_with (first | (go_at_call 129;refine (isName_any _ _ (by first | exact hr1 | exact hr2 | exact hr3)).mono ?_;rintro e w1 ⟨rfl,hb1⟩;(have hq7:=ru7;(try clear hc hf);obtain ⟨hb,hc,hf,hz⟩:=hq7;(try simp only [zsz7] at hz);(try have hz0:=z07 w w1);(try have hz1:=z17 w w1);(try have hz2:=z27 w w1))) | (go_at_call 159;refine (HA.only _ cl0).mono ?_;rintro e w1 ⟨wa1,wc1,ga1,gc1,rfl,hb1,hw1⟩;(have hq7:=ru7;(try clear hc hf);obtain ⟨hb,hc,hf,hz⟩:=hq7;(try simp only [zsz7] at hz);(try have hz0:=z07 w w1);(try have hz1:=z17 w w1);(try have hz2:=z27 w w1))) | (go_at_call 158;refine (HA.same _ _ _ _ _ cl0 hw1.out.1 hw1.out.2).mono ?_;rintro e w1 ⟨rfl,hb1⟩;(have hq7:=ru7;(try clear hc hf);obtain ⟨hb,hc,hf,hz⟩:=hq7;(try simp only [zsz7] at hz);(try have hz0:=z07 w w1);(try have hz1:=z17 w w1);(try have hz2:=z27 w w1))))
 all_goals go_wp2
 all_goals go_ret
 all_goals exact ⟨rfl,cl0⟩
end
section
open Go.RowKit Go.Shelf
def kindV (k : Int) (o u : ByteArray) (lo hi : Int) (pk : Bool) : Bool:=
   if k = 0 then withinB lo (-1048576) 1048576
   else if k = 1 then isNm o && spanB lo hi 0 65536
   else if k = 2 then spanB lo hi (-1048576) 1048576
   else if k = 3 then pk
   else if k = 4 then (isE o || isNm o) && spanB lo hi (-1048576) 1048576
   else if k = 5 then isNm o && spanB lo hi 0 32
   else if k = 6 then isNm o
   else if k = 7 then isNm o && isNm u && spanB lo hi 0 1048576
   else if k = 8 then isNm o && isNm u
   else false
theorem isField_3 (k : Int) (n o u : ByteArray) (lo hi : Int) (nw ng : Nat) (w : World) (wa ga : Option Addr) (cw cg : Nat) (fo : Fld) (RW RG : World → Option Addr → Nat → Prop) (hr1 : n.size ≤ 9223372036854775807) (hr2 : o.size ≤ 9223372036854775807) (hr3 : u.size ≤ 9223372036854775807) (pk : Bool) (HP : Hid (∀ w',Ex w w' → Calls Tryz.prog 160 #[.slice wa nw cw,.slice ga ng cg] w' fun e w2=>e = .returned (.bool pk) ∧ Ex w' w2))
  (HA : FieldAid n o u k lo hi nw ng true w wa ga cw cg fo RW RG) (h1 : isNm n = true) :
  Calls Tryz.prog 132 #[.agg #[.string n,.string o,.string u,.int .i64 k,.int .i64 lo,.int .i64 hi,.slice wa nw cw,.slice ga ng cg]] w fun e w'=>e = .returned (.bool (kindV k o u lo hi pk)) ∧ Ex w w':=by
 go_enter Tryz.func132,Tryz.ntmps132
 go_upto_region 1 with fail
 go_cut [13] (fun s13 wx=>s13 = .bool false ∧ Ex (w.alloc (.cells #[.string n,.string o,.string u,.int .i64 k,.int .i64 lo,.int .i64 hi,.slice wa nw cw,.slice ga ng cg] 111)) wx)
 case first=>
  go_region_with (first | (go_at_call 129;refine (isName_any _ _ (by first | exact hr1 | exact hr2 | exact hr3)).mono ?_;rintro e w1 ⟨rfl,hb1⟩;(have hq7:=ru7;(try clear hc hf);obtain ⟨hb,hc,hf,hz⟩:=hq7;(try simp only [zsz7] at hz);(try have hz0:=z07 w w1);(try have hz1:=z17 w w1);(try have hz2:=z27 w w1))) | (go_at_call 159;refine (HA.only _ cl0).mono ?_;rintro e w1 ⟨wa1,wc1,ga1,gc1,rfl,hb1,hw1⟩;(have hq7:=ru7;(try clear hc hf);obtain ⟨hb,hc,hf,hz⟩:=hq7;(try simp only [zsz7] at hz);(try have hz0:=z07 w w1);(try have hz1:=z17 w w1);(try have hz2:=z27 w w1))) | (go_at_call 158;refine (HA.same _ _ _ _ _ cl0 hw1.out.1 hw1.out.2).mono ?_;rintro e w1 ⟨rfl,hb1⟩;(have hq7:=ru7;(try clear hc hf);obtain ⟨hb,hc,hf,hz⟩:=hq7;(try simp only [zsz7] at hz);(try have hz0:=z07 w w1);(try have hz1:=z17 w w1);(try have hz2:=z27 w w1))))
  all_goals (go_wp2_with fail;go_meet;exact ⟨rfl,cl0⟩)
 case rest=>
  obtain ⟨rfl,hb⟩:=hcut
  obtain ⟨hc,hf⟩:=hb.rules
  have hz:=hb.size
  simp only [World.size_alloc] at hz
  have hz0 : w.heap.size < wc.heap.size:=by omega
  by_cases q0 : k = 0
  ·subst q0
   go_wp2_with (first | (go_at_call 129;refine (isName_any _ _ (by first | exact hr1 | exact hr2 | exact hr3)).mono ?_;rintro e w1 ⟨rfl,hb1⟩;(have hq7:=ru7;(try clear hc hf);obtain ⟨hb,hc,hf,hz⟩:=hq7;(try simp only [zsz7] at hz);(try have hz0:=z07 w w1);(try have hz1:=z17 w w1);(try have hz2:=z27 w w1))) | (go_at_call 107;refine (within_any _ _ _ _).mono ?_;rintro e w2 ⟨rfl,rfl⟩) | (go_at_call 130;refine (span_any _ _ _ _ _).mono ?_;rintro e w2 ⟨rfl,rfl⟩));go_ret;exact ⟨ret_bool (by simp [kindV]),cl0⟩
  by_cases q1 : k = 1
  ·subst q1
   cases h2 : isNm o
   all_goals (go_wp2_with (first | (go_at_call 129;refine (isName_any _ _ (by first | exact hr1 | exact hr2 | exact hr3)).mono ?_;rintro e w1 ⟨rfl,hb1⟩;(have hq7:=ru7;(try clear hc hf);obtain ⟨hb,hc,hf,hz⟩:=hq7;(try simp only [zsz7] at hz);(try have hz0:=z07 w w1);(try have hz1:=z17 w w1);(try have hz2:=z27 w w1))) | (go_at_call 107;refine (within_any _ _ _ _).mono ?_;rintro e w2 ⟨rfl,rfl⟩) | (go_at_call 130;refine (span_any _ _ _ _ _).mono ?_;rintro e w2 ⟨rfl,rfl⟩));go_ret;exact ⟨ret_bool (by simp [kindV,h2]),cl0⟩)
  by_cases q2 : k = 2
  ·subst q2
   go_wp2_with (first | (go_at_call 129;refine (isName_any _ _ (by first | exact hr1 | exact hr2 | exact hr3)).mono ?_;rintro e w1 ⟨rfl,hb1⟩;(have hq7:=ru7;(try clear hc hf);obtain ⟨hb,hc,hf,hz⟩:=hq7;(try simp only [zsz7] at hz);(try have hz0:=z07 w w1);(try have hz1:=z17 w w1);(try have hz2:=z27 w w1))) | (go_at_call 107;refine (within_any _ _ _ _).mono ?_;rintro e w2 ⟨rfl,rfl⟩) | (go_at_call 130;refine (span_any _ _ _ _ _).mono ?_;rintro e w2 ⟨rfl,rfl⟩));go_ret;exact ⟨ret_bool (by simp [kindV]),cl0⟩
  by_cases q3 : k = 3
  ·subst q3
   go_wp2_with (first | (go_at_call 129;refine (isName_any _ _ (by first | exact hr1 | exact hr2 | exact hr3)).mono ?_;rintro e w1 ⟨rfl,hb1⟩;(have hq7:=ru7;(try clear hc hf);obtain ⟨hb,hc,hf,hz⟩:=hq7;(try simp only [zsz7] at hz);(try have hz0:=z07 w w1);(try have hz1:=z17 w w1);(try have hz2:=z27 w w1))) | (go_at_call 107;refine (within_any _ _ _ _).mono ?_;rintro e w2 ⟨rfl,rfl⟩) | (go_at_call 130;refine (span_any _ _ _ _ _).mono ?_;rintro e w2 ⟨rfl,rfl⟩) | (go_at_call 160;refine (HP.out _ cl0).mono ?_;rintro e w1 ⟨rfl,hb1⟩;(have hq7:=ru7;(try clear hc hf);obtain ⟨hb,hc,hf,hz⟩:=hq7;(try simp only [zsz7] at hz);(try have hz0:=z07 w w1);(try have hz1:=z17 w w1);(try have hz2:=z27 w w1))));go_ret;exact ⟨ret_bool (by simp [kindV]),cl0⟩
  by_cases q4 : k = 4
  ·subst q4
   cases h2 : o.toList.isEmpty
   ·cases h3 : isNm o
    all_goals (go_wp2_with (first | (go_at_call 129;refine (isName_any _ _ (by first | exact hr1 | exact hr2 | exact hr3)).mono ?_;rintro e w1 ⟨rfl,hb1⟩;(have hq7:=ru7;(try clear hc hf);obtain ⟨hb,hc,hf,hz⟩:=hq7;(try simp only [zsz7] at hz);(try have hz0:=z07 w w1);(try have hz1:=z17 w w1);(try have hz2:=z27 w w1))) | (go_at_call 107;refine (within_any _ _ _ _).mono ?_;rintro e w2 ⟨rfl,rfl⟩) | (go_at_call 130;refine (span_any _ _ _ _ _).mono ?_;rintro e w2 ⟨rfl,rfl⟩));go_ret;exact ⟨ret_bool (by simp [kindV,isE,h2,h3]),cl0⟩)
   ·go_wp2_with (first | (go_at_call 129;refine (isName_any _ _ (by first | exact hr1 | exact hr2 | exact hr3)).mono ?_;rintro e w1 ⟨rfl,hb1⟩;(have hq7:=ru7;(try clear hc hf);obtain ⟨hb,hc,hf,hz⟩:=hq7;(try simp only [zsz7] at hz);(try have hz0:=z07 w w1);(try have hz1:=z17 w w1);(try have hz2:=z27 w w1))) | (go_at_call 107;refine (within_any _ _ _ _).mono ?_;rintro e w2 ⟨rfl,rfl⟩) | (go_at_call 130;refine (span_any _ _ _ _ _).mono ?_;rintro e w2 ⟨rfl,rfl⟩));go_ret;exact ⟨ret_bool (by simp [kindV,isE,h2]),cl0⟩
  by_cases q5 : k = 5
  ·subst q5
   cases h2 : isNm o
   all_goals (go_wp2_with (first | (go_at_call 129;refine (isName_any _ _ (by first | exact hr1 | exact hr2 | exact hr3)).mono ?_;rintro e w1 ⟨rfl,hb1⟩;(have hq7:=ru7;(try clear hc hf);obtain ⟨hb,hc,hf,hz⟩:=hq7;(try simp only [zsz7] at hz);(try have hz0:=z07 w w1);(try have hz1:=z17 w w1);(try have hz2:=z27 w w1))) | (go_at_call 107;refine (within_any _ _ _ _).mono ?_;rintro e w2 ⟨rfl,rfl⟩) | (go_at_call 130;refine (span_any _ _ _ _ _).mono ?_;rintro e w2 ⟨rfl,rfl⟩));go_ret;exact ⟨ret_bool (by simp [kindV,h2]),cl0⟩)
  by_cases q6 : k = 6
  ·subst q6
   go_wp2_with (first | (go_at_call 129;refine (isName_any _ _ (by first | exact hr1 | exact hr2 | exact hr3)).mono ?_;rintro e w1 ⟨rfl,hb1⟩;(have hq7:=ru7;(try clear hc hf);obtain ⟨hb,hc,hf,hz⟩:=hq7;(try simp only [zsz7] at hz);(try have hz0:=z07 w w1);(try have hz1:=z17 w w1);(try have hz2:=z27 w w1))) | (go_at_call 107;refine (within_any _ _ _ _).mono ?_;rintro e w2 ⟨rfl,rfl⟩) | (go_at_call 130;refine (span_any _ _ _ _ _).mono ?_;rintro e w2 ⟨rfl,rfl⟩));go_ret;exact ⟨ret_bool (by simp [kindV]),cl0⟩
  by_cases q7 : k = 7
  ·subst q7
   cases h2 : isNm o
   ·go_wp2_with (first | (go_at_call 129;refine (isName_any _ _ (by first | exact hr1 | exact hr2 | exact hr3)).mono ?_;rintro e w1 ⟨rfl,hb1⟩;(have hq7:=ru7;(try clear hc hf);obtain ⟨hb,hc,hf,hz⟩:=hq7;(try simp only [zsz7] at hz);(try have hz0:=z07 w w1);(try have hz1:=z17 w w1);(try have hz2:=z27 w w1))) | (go_at_call 107;refine (within_any _ _ _ _).mono ?_;rintro e w2 ⟨rfl,rfl⟩) | (go_at_call 130;refine (span_any _ _ _ _ _).mono ?_;rintro e w2 ⟨rfl,rfl⟩));go_ret;exact ⟨ret_bool (by simp [kindV,h2]),cl0⟩
   ·cases h3 : isNm u
    all_goals (go_wp2_with (first | (go_at_call 129;refine (isName_any _ _ (by first | exact hr1 | exact hr2 | exact hr3)).mono ?_;rintro e w1 ⟨rfl,hb1⟩;(have hq7:=ru7;(try clear hc hf);obtain ⟨hb,hc,hf,hz⟩:=hq7;(try simp only [zsz7] at hz);(try have hz0:=z07 w w1);(try have hz1:=z17 w w1);(try have hz2:=z27 w w1))) | (go_at_call 107;refine (within_any _ _ _ _).mono ?_;rintro e w2 ⟨rfl,rfl⟩) | (go_at_call 130;refine (span_any _ _ _ _ _).mono ?_;rintro e w2 ⟨rfl,rfl⟩));go_ret;exact ⟨ret_bool (by simp [kindV,h2,h3]),cl0⟩)
  by_cases q8 : k = 8
  ·subst q8
   cases h2 : isNm o
   all_goals (go_wp2_with (first | (go_at_call 129;refine (isName_any _ _ (by first | exact hr1 | exact hr2 | exact hr3)).mono ?_;rintro e w1 ⟨rfl,hb1⟩;(have hq7:=ru7;(try clear hc hf);obtain ⟨hb,hc,hf,hz⟩:=hq7;(try simp only [zsz7] at hz);(try have hz0:=z07 w w1);(try have hz1:=z17 w w1);(try have hz2:=z27 w w1))) | (go_at_call 107;refine (within_any _ _ _ _).mono ?_;rintro e w2 ⟨rfl,rfl⟩) | (go_at_call 130;refine (span_any _ _ _ _ _).mono ?_;rintro e w2 ⟨rfl,rfl⟩));go_ret;exact ⟨ret_bool (by simp [kindV,h2]),cl0⟩)
  have r0 : (k == 0) = false:=by simp [q0]
  have r1 : (k == 1) = false:=by simp [q1]
  have r2 : (k == 2) = false:=by simp [q2]
  have r3 : (k == 3) = false:=by simp [q3]
  have r4 : (k == 4) = false:=by simp [q4]
  have r5 : (k == 5) = false:=by simp [q5]
  have r6 : (k == 6) = false:=by simp [q6]
  have r7 : (k == 7) = false:=by simp [q7]
  have r8 : (k == 8) = false:=by simp [q8]
  have HR : Hid (¬ k = 0 ∧ ¬ k = 1 ∧ ¬ k = 2 ∧ ¬ k = 3 ∧ ¬ k = 4 ∧ ¬ k = 5 ∧ ¬ k = 6 ∧ ¬ k = 7 ∧ ¬ k = 8):=⟨q0,q1,q2,q3,q4,q5,q6,q7,q8⟩
  clear q0 q1 q2 q3 q4 q5 q6 q7 q8
  go_wp2_with fail
  go_ret
  obtain ⟨q0,q1,q2,q3,q4,q5,q6,q7,q8⟩:=HR.out
  exact ⟨ret_bool (by simp only [kindV,q0,q1,q2,q3,q4,q5,q6,q7,q8,if_false]),cl0⟩
end
section
open Go.RowKit Go.Shelf
theorem isField_any (f : Fld) (w : World) {F : Nat → Prop} {wa ga : Option Addr} {wc gc : Nat} (hw : RStrs w F f.words wa wc) (hg : RInts w F f.weights ga gc) (hx : SmF f) :
  Calls Tryz.prog 132 #[.agg #[.string f.name,.string f.of,.string f.up,.int .i64 f.kind,.int .i64 f.lo,.int .i64 f.hi,.slice wa f.words.length wc,.slice ga f.weights.length gc]] w
   fun e w'=>e = .returned (.bool (isFieldB f)) ∧ Ex w w':=by
 have HA:=fieldAid f w hw hg hx
 cases h1 : isNm f.name with
 | false=>
  have:=isField_1 _ _ _ _ _ _ _ _ _ _ _ _ _ _ _ _ hx.name.le hx.of.le hx.up.le _ HA h1
  simpa [isFieldB,h1] using this
 | true=>
  cases h2 : onlyB f with
  | false=>
   rw [h2] at HA
   have:=isField_2 _ _ _ _ _ _ _ _ _ _ _ _ _ _ _ _ hx.name.le hx.of.le hx.up.le HA h1
   simpa [isFieldB,h1,h2] using this
  | true=>
   rw [h2] at HA
   have HP : Hid (∀ w',Ex w w' → Calls Tryz.prog 160 #[.slice wa f.words.length wc,.slice ga f.weights.length gc] w' fun e w2=>e = .returned (.bool (isPickB f.words f.weights)) ∧ Ex w' w2):=
    fun w' he=>isPick_any f.words f.weights w' (hw.keep he.same (fun _ h=>h) (fun _ _ _ h=>h)) (hg.keep he.same (fun _ h=>h) (fun _ _ _ h=>h)) (fun s hs=>(hx.words s hs).le) hx.nweights hx.nwords
   have:=isField_3 _ _ _ _ _ _ _ _ _ _ _ _ _ _ _ _ hx.name.le hx.of.le hx.up.le _ HP HA h1
   have e : isFieldB f = kindV f.kind f.of f.up f.lo f.hi (isPickB f.words f.weights):=by simp only [isFieldB,h1,h2,Bool.true_and];rfl
   rw [e];exact this
theorem isField_asks (w : World) {F : Nat → Prop} {l : List Fld} (hl : ∀ f,f ∈ l → SmF f) : Asks Tryz.prog 132 #[] w aggOf (RFld w F) l isFieldB:=by
 refine ⟨enters_of Tryz.func132 (by kernel_rfl) rfl,fun f vs W hm hr hW=>?_⟩
 obtain ⟨wa,wc,ga,gc,rfl,_,_,_,h1,h2⟩:=hr
 exact isField_any f W (h1.keep hW.same (fun _ h=>h) (fun _ _ _ h=>h)) (h2.keep hW.same (fun _ h=>h) (fun _ _ _ h=>h)) (hl f hm)
theorem Asks.rel {α : Type} {P : Program} {g : FuncId} {cb : Array Value} {w : World} {arg : List Value → Value} {R R' : α → List Value → Prop} {xs : List α} {p : α → Bool} (h : Asks P g cb w arg R xs p) (hR : ∀ x vs,R' x vs → R x vs) : Asks P g cb w arg R' xs p:=
 ⟨h.enters,fun x vs W hm hr hw=>h.says x vs W hm (hR x vs hr) hw⟩
theorem isKind_any (x : Knd) (w : World) {F : Nat → Prop} {fa : Option Addr} {fc : Nat} (hw : RFlds w F x.fields fa fc) (hx : SmK x) :
  Calls Tryz.prog 109 #[.agg #[.string x.name,.int .i64 x.lo,.int .i64 x.hi,.slice fa x.fields.length fc]] w fun e w'=>e = .returned (.bool (isKindB x)) ∧ Ex w w':=by
 have hr1:=hx.name.le
 have hl:=hx.nfields
 have HF:=Lib.hid (fun (w' : World) (he : Ex w w')=>all_fld (w0:=w) (F0:=F) (Row.keep (w':=w') hw he.same (fun _ h=>h) (fun _ _ _ h=>h)) (by omega) ((isField_asks w hx.fields).mono he))
 clear hx hw
 obtain ⟨name,lo,hi,fs⟩:=x
 simp only at *
 cases h1 : isNm name
 ·go_enter Tryz.func109,Tryz.ntmps109;go_wp2_with (first | (go_at_call 129;refine (isName_any _ _ hr1).mono ?_;rintro e w1 ⟨rfl,hb1⟩;(have hq7:=ru7;(try clear hc hf);obtain ⟨hb,hc,hf,hz⟩:=hq7;(try simp only [zsz7] at hz);(try have hz0:=z07 w w1);(try have hz1:=z17 w w1);(try have hz2:=z27 w w1))) | (go_at_call 130;refine (span_any _ _ _ _ _).mono ?_;rintro e w2 ⟨rfl,rfl⟩) | (go_at_call 131;refine (HF.out _ cl0).mono ?_;rintro e w1 ⟨rfl,hb1⟩;(have hq7:=ru7;(try clear hc hf);obtain ⟨hb,hc,hf,hz⟩:=hq7;(try simp only [zsz7] at hz);(try have hz0:=z07 w w1);(try have hz1:=z17 w w1);(try have hz2:=z27 w w1))));go_ret
  exact ⟨ret_bool (by simp [isKindB,h1]),cl0⟩
 cases h2 : spanB lo hi 0 65536
 ·go_enter Tryz.func109,Tryz.ntmps109;go_wp2_with (first | (go_at_call 129;refine (isName_any _ _ hr1).mono ?_;rintro e w1 ⟨rfl,hb1⟩;(have hq7:=ru7;(try clear hc hf);obtain ⟨hb,hc,hf,hz⟩:=hq7;(try simp only [zsz7] at hz);(try have hz0:=z07 w w1);(try have hz1:=z17 w w1);(try have hz2:=z27 w w1))) | (go_at_call 130;refine (span_any _ _ _ _ _).mono ?_;rintro e w2 ⟨rfl,rfl⟩) | (go_at_call 131;refine (HF.out _ cl0).mono ?_;rintro e w1 ⟨rfl,hb1⟩;(have hq7:=ru7;(try clear hc hf);obtain ⟨hb,hc,hf,hz⟩:=hq7;(try simp only [zsz7] at hz);(try have hz0:=z07 w w1);(try have hz1:=z17 w w1);(try have hz2:=z27 w w1))));go_ret
  exact ⟨ret_bool (by simp [isKindB,h2]),cl0⟩
 by_cases h4 : (fs.length : Int) ≤ 10
 ·have HR : Hid (isKindB ⟨name,lo,hi,fs⟩ = fs.all isFieldB):=Lib.hid (by simp [isKindB,h1,h2];intro;omega)
  go_enter Tryz.func109,Tryz.ntmps109;go_wp2_with (first | (go_at_call 129;refine (isName_any _ _ hr1).mono ?_;rintro e w1 ⟨rfl,hb1⟩;(have hq7:=ru7;(try clear hc hf);obtain ⟨hb,hc,hf,hz⟩:=hq7;(try simp only [zsz7] at hz);(try have hz0:=z07 w w1);(try have hz1:=z17 w w1);(try have hz2:=z27 w w1))) | (go_at_call 130;refine (span_any _ _ _ _ _).mono ?_;rintro e w2 ⟨rfl,rfl⟩) | (go_at_call 131;refine (HF.out _ cl0).mono ?_;rintro e w1 ⟨rfl,hb1⟩;(have hq7:=ru7;(try clear hc hf);obtain ⟨hb,hc,hf,hz⟩:=hq7;(try simp only [zsz7] at hz);(try have hz0:=z07 w w1);(try have hz1:=z17 w w1);(try have hz2:=z27 w w1))));go_ret
  exact ⟨ret_bool HR.out.symm,cl0⟩
 ·go_enter Tryz.func109,Tryz.ntmps109;go_wp2_with (first | (go_at_call 129;refine (isName_any _ _ hr1).mono ?_;rintro e w1 ⟨rfl,hb1⟩;(have hq7:=ru7;(try clear hc hf);obtain ⟨hb,hc,hf,hz⟩:=hq7;(try simp only [zsz7] at hz);(try have hz0:=z07 w w1);(try have hz1:=z17 w w1);(try have hz2:=z27 w w1))) | (go_at_call 130;refine (span_any _ _ _ _ _).mono ?_;rintro e w2 ⟨rfl,rfl⟩) | (go_at_call 131;refine (HF.out _ cl0).mono ?_;rintro e w1 ⟨rfl,hb1⟩;(have hq7:=ru7;(try clear hc hf);obtain ⟨hb,hc,hf,hz⟩:=hq7;(try simp only [zsz7] at hz);(try have hz0:=z07 w w1);(try have hz1:=z17 w w1);(try have hz2:=z27 w w1))));go_ret
  exact ⟨ret_bool (by simp [isKindB];intros;omega),cl0⟩
theorem isKind_asks (w : World) {F : Nat → Prop} {l : List Knd} (hl : ∀ k,k ∈ l → SmK k) : Asks Tryz.prog 109 #[] w aggOf (RKnd w F) l isKindB:=by
 refine ⟨enters_of Tryz.func109 (by kernel_rfl) rfl,fun k vs W hm hr hW=>?_⟩
 obtain ⟨fa,fc,rfl,_,_,h1⟩:=hr
 exact isKind_any k W (RFlds.keep hW.same (fun _ h=>h) h1) (hl k hm)
theorem isLife_asks (w : World) {F : Nat → Prop} {l : List Lif} (hl : ∀ k,k ∈ l → SmL k) : Asks Tryz.prog 111 #[] w aggOf (RLif w F) l isLifeB:=by
 refine ⟨enters_of Tryz.func111 (by kernel_rfl) rfl,fun k vs W hm hr hW=>?_⟩
 obtain ⟨sa,sc,ma,mc,rfl,h1,h2⟩:=hr
 exact isLife_any k W (h1.keep hW.same (fun _ h=>h) (fun _ _ _ h=>h)) (h2.keep hW.same (fun _ h=>h) (fun _ _ _ h=>h)) (hl k hm)
theorem isRule_asks (w : World) {l : List Rul} (hl : ∀ k,k ∈ l → SmR k) : Asks Tryz.prog 113 #[] w aggOf RRul l isRuleB:=by
 refine ⟨enters_of Tryz.func113 (by kernel_rfl) rfl,fun k vs W hm hr hW=>?_⟩
 obtain ⟨rfl,h1⟩:=hr
 exact isRule_any k W (hl k hm)
end
section
open Go.RowKit Go.Shelf
theorem kindB_range {f : Fld} (h : kindB f = true) : 0 ≤ f.kind ∧ f.kind ≤ 8:=by
 unfold kindB at h
 repeat' split at h
 all_goals first | omega | simp at h
theorem pick_len {ws : List ByteArray} {gs : List Int} (h : isPickB ws gs = true) : ws.length = gs.length ∧ ws.length ≤ 12:=by
 simp only [isPickB,Bool.and_eq_true,withinB,decide_eq_true_eq] at h
 omega
theorem field_any (f : Fld) (w : World) {F : Nat → Prop} {wa ga : Option Addr} {wc gc : Nat} (hw : RStrs w F f.words wa wc) (hg : RInts w F f.weights ga gc) (hlo : I64 f.lo) (hhi : I64 f.hi) (hx : SmF f) (hv : isFieldB f = true) (hb : fieldB f ≤ 1000000) (hp : Pow10 w) (hwd : WordsAt w) :
  Calls Tryz.prog 140 #[.agg #[.string f.name,.string f.of,.string f.up,.int .i64 f.kind,.int .i64 f.lo,.int .i64 f.hi,.slice wa f.words.length wc,.slice ga f.weights.length gc]] w
   fun e w'=>∃ s : ByteArray,e = .returned (.string s) ∧ s.size ≤ fieldB f ∧ Ex w w':=by
 have hk : kindB f = true:=by simp only [isFieldB,Bool.and_eq_true] at hv;exact hv.2
 have hr:=kindB_range hk
 obtain ⟨n,o,u,k,lo,hi,ws,gs⟩:=f
 have h1:=hx.name;have h2:=hx.of;have h3:=hx.up
 unfold SmS at h1 h2 h3
 simp only at *
 have key : ∀ s : ByteArray,s.size ≤ 16 + n.size + o.size + u.size + intB lo + intB hi → s.size ≤ fieldB ⟨n,o,u,k,lo,hi,ws,gs⟩:=fun s hs=>by unfold fieldB;simp only;omega
 by_cases k3 : k = 3
 ·subst k3
  have hpk : isPickB ws gs = true:=by simpa [kindB] using hk
  obtain ⟨hl,h12⟩:=pick_len hpk
  have hpb:=pairsOf_B ws gs hl
  unfold fieldB at hb
  simp only at hb
  refine (field_3 n o u lo hi ws gs w wa ga wc gc hw hg hl (by omega) h1 (by omega) hp hwd).mono ?_
  rintro e w' ⟨s,he,hs,hex⟩
  refine ⟨s,he,?_,hex⟩
  unfold fieldB;simp only;omega
 have h : k = 0 ∨ k = 1 ∨ k = 2 ∨ k = 4 ∨ k = 5 ∨ k = 6 ∨ k = 7 ∨ k = 8:=by omega
 rcases h with rfl | rfl | rfl | rfl | rfl | rfl | rfl | rfl
 ·exact (field_0 n o u lo hi _ _ w wa ga wc gc h1 h2 h3 hlo hhi hp hwd).mono fun e w' ⟨s,he,hs,hex⟩=>⟨s,he,key s hs,hex⟩
 ·exact (field_1 n o u lo hi _ _ w wa ga wc gc h1 h2 h3 hlo hhi hp hwd).mono fun e w' ⟨s,he,hs,hex⟩=>⟨s,he,key s hs,hex⟩
 ·exact (field_2 n o u lo hi _ _ w wa ga wc gc h1 h2 h3 hlo hhi hp hwd).mono fun e w' ⟨s,he,hs,hex⟩=>⟨s,he,key s hs,hex⟩
 ·exact (field_4 n o u lo hi _ _ w wa ga wc gc h1 h2 h3 hlo hhi hp hwd).mono fun e w' ⟨s,he,hs,hex⟩=>⟨s,he,key s hs,hex⟩
 ·exact (field_5 n o u lo hi _ _ w wa ga wc gc h1 h2 h3 hlo hhi hp hwd).mono fun e w' ⟨s,he,hs,hex⟩=>⟨s,he,key s hs,hex⟩
 ·exact (field_6 n o u lo hi _ _ w wa ga wc gc h1 h2 h3 hlo hhi hp hwd).mono fun e w' ⟨s,he,hs,hex⟩=>⟨s,he,key s hs,hex⟩
 ·exact (field_7 n o u lo hi _ _ w wa ga wc gc h1 h2 h3 hlo hhi hp hwd).mono fun e w' ⟨s,he,hs,hex⟩=>⟨s,he,key s hs,hex⟩
 ·exact (field_8 n o u lo hi _ _ w wa ga wc gc h1 h2 h3 hlo hhi hp hwd).mono fun e w' ⟨s,he,hs,hex⟩=>⟨s,he,key s hs,hex⟩
theorem Wrote.ex' {w wr w' : World} {B b n n' : Nat} {O : Option Nat} (hB0 : w.heap.size ≤ B) (he : Ex w wr) (hb : Bld wr B b n O) (hw : Wrote wr w' B b n' O) : Ex w w':=by
 obtain ⟨hk,_⟩:=hw
 obtain ⟨l,p,v,_,_,hB,_,hown,hO,_⟩:=hb
 refine ⟨hk.os.trans (Keep.os he),hk.tape.trans (Keep.tape he),hk.output.trans (Keep.output he),Nat.le_trans he.size hk.size,fun x hx _=>?_⟩
 rw [hk.block x (Nat.lt_of_lt_of_le hx he.size) ?_]
 ·exact he.block x hx
 ·rintro (rfl | h)
  ·omega
  ·have:=(hown.lt x (by rw [hO,h])).1;omega
theorem Bld.own_lt {w : World} {B b n : Nat} {O : Option Nat} (h : Bld w B b n O) : ∀ x,O = some x → x < w.heap.size:=by
 obtain ⟨l,p,v,_,_,hB,_,hown,hO,_⟩:=h
 intro x hx
 exact (hown.lt x (by rw [hO,hx])).2
theorem Wrote.cell {w w' : World} {B b n N i : Nat} {O : Option Nat} {v : Value} (hw : Wrote w w' B b n O) (hc : w.cell? ⟨N,i,none⟩ = some v) (h1 : N ≠ b) (h2 : O ≠ some N) : w'.cell? ⟨N,i,none⟩ = some v:=
 hw.1.cell hc (by rintro (h | h);exact h1 h;exact h2 h.symm)
end
end Go.Proofs.YtjbbmjjildhfbaaGreatDoor
