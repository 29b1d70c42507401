/- A part of the proof: SchemaD SchemaE SchemaF SchemaG SrcE SrcF Valid Br Sj. -/
import Derived.Test.YtlcfiilejnnlnaaGreatDoorK14
import Derived.Test.YtlcfiilejnnlnaaGreatDoorK22
import Derived.BigRegion
import Derived.Deep.DeepCutAuto
set_option maxRecDepth 100000
set_option maxHeartbeats 20000000
set_option linter.all false
namespace Go.Proofs.YtlcfiilejnnlnaaGreatDoor
open Tryz
section
open Go.RowKit Go.Shelf
def nos:ByteArray:=⟨#[]⟩
def av9 (f:Fld):Fld:=⟨f.name,if ae1 f.kind then f.of else nos,if ae0 f.kind then f.up else nos,f.kind,if ae3 f.kind then f.lo else 0,if ae2 f.kind then f.hi else 0,if ac5 f.kind then f.words else [],if ac5 f.kind then f.wz else []⟩
theorem co5 (name of up:ByteArray) (lo hi:Int) (wa ga:Option Addr) (nw wc ng gc:Nat) (w:World) :
  Calls prog 255 #[.agg #[.string name,.string of,.string up,.int .i64 0,.int .i64 lo,.int .i64 hi,.slice wa nw wc,.slice ga ng gc]] w fun e w'=>e = .returned (.agg #[.string name,.string nos,.string nos,.int .i64 0,.int .i64 lo,.int .i64 0,.slice none 0 0,.slice none 0 0])/\Ex w w':=by
 go_enter func255,ntmps255
 go_wp2
 all_goals exact bodyPost_ret (v:=.agg #[.string name,.string nos,.string nos,.int .i64 0,.int .i64 lo,.int .i64 0,.slice none 0 0,.slice none 0 0]) (by simp [results,results255,go_sem,nos]) rfl ⟨rfl,cl0⟩
theorem co4 (name of up:ByteArray) (lo hi:Int) (wa ga:Option Addr) (nw wc ng gc:Nat) (w:World) :
  Calls prog 255 #[.agg #[.string name,.string of,.string up,.int .i64 1,.int .i64 lo,.int .i64 hi,.slice wa nw wc,.slice ga ng gc]] w fun e w'=>e = .returned (.agg #[.string name,.string of,.string nos,.int .i64 1,.int .i64 lo,.int .i64 hi,.slice none 0 0,.slice none 0 0])/\Ex w w':=by
 go_enter func255,ntmps255
 go_wp2
 go_region
 all_goals go_wp2
 all_goals exact bodyPost_ret (v:=.agg #[.string name,.string of,.string nos,.int .i64 1,.int .i64 lo,.int .i64 hi,.slice none 0 0,.slice none 0 0]) (by simp [results,results255,go_sem,nos]) rfl ⟨rfl,cl0⟩
theorem co3 (name of up:ByteArray) (lo hi:Int) (wa ga:Option Addr) (nw wc ng gc:Nat) (w:World) :
  Calls prog 255 #[.agg #[.string name,.string of,.string up,.int .i64 2,.int .i64 lo,.int .i64 hi,.slice wa nw wc,.slice ga ng gc]] w fun e w'=>e = .returned (.agg #[.string name,.string nos,.string nos,.int .i64 2,.int .i64 lo,.int .i64 hi,.slice none 0 0,.slice none 0 0])/\Ex w w':=by
 go_enter func255,ntmps255
 go_wp2
 go_region
 all_goals go_wp2
 all_goals exact bodyPost_ret (v:=.agg #[.string name,.string nos,.string nos,.int .i64 2,.int .i64 lo,.int .i64 hi,.slice none 0 0,.slice none 0 0]) (by simp [results,results255,go_sem,nos]) rfl ⟨rfl,cl0⟩
theorem co2 (name of up:ByteArray) (lo hi:Int) (wa ga:Option Addr) (nw wc ng gc:Nat) (w:World) :
  Calls prog 255 #[.agg #[.string name,.string of,.string up,.int .i64 3,.int .i64 lo,.int .i64 hi,.slice wa nw wc,.slice ga ng gc]] w fun e w'=>e = .returned (.agg #[.string name,.string nos,.string nos,.int .i64 3,.int .i64 0,.int .i64 0,.slice wa nw wc,.slice ga ng gc])/\Ex w w':=by
 go_enter func255,ntmps255
 go_wp2
 go_region
 all_goals go_wp2
 all_goals exact bodyPost_ret (v:=.agg #[.string name,.string nos,.string nos,.int .i64 3,.int .i64 0,.int .i64 0,.slice wa nw wc,.slice ga ng gc]) (by simp [results,results255,go_sem,nos]) rfl ⟨rfl,cl0⟩
theorem co1 (name of up:ByteArray) (lo hi:Int) (wa ga:Option Addr) (nw wc ng gc:Nat) (w:World) :
  Calls prog 255 #[.agg #[.string name,.string of,.string up,.int .i64 4,.int .i64 lo,.int .i64 hi,.slice wa nw wc,.slice ga ng gc]] w fun e w'=>e = .returned (.agg #[.string name,.string of,.string nos,.int .i64 4,.int .i64 lo,.int .i64 hi,.slice none 0 0,.slice none 0 0])/\Ex w w':=by
 go_enter func255,ntmps255
 go_wp2
 go_region
 all_goals go_wp2
 all_goals exact bodyPost_ret (v:=.agg #[.string name,.string of,.string nos,.int .i64 4,.int .i64 lo,.int .i64 hi,.slice none 0 0,.slice none 0 0]) (by simp [results,results255,go_sem,nos]) rfl ⟨rfl,cl0⟩
theorem co0 (name of up:ByteArray) (lo hi:Int) (wa ga:Option Addr) (nw wc ng gc:Nat) (w:World) :
  Calls prog 255 #[.agg #[.string name,.string of,.string up,.int .i64 5,.int .i64 lo,.int .i64 hi,.slice wa nw wc,.slice ga ng gc]] w fun e w'=>e = .returned (.agg #[.string name,.string of,.string nos,.int .i64 5,.int .i64 lo,.int .i64 hi,.slice none 0 0,.slice none 0 0])/\Ex w w':=by
 go_enter func255,ntmps255
 go_wp2
 go_region
 all_goals go_wp2
 all_goals exact bodyPost_ret (v:=.agg #[.string name,.string of,.string nos,.int .i64 5,.int .i64 lo,.int .i64 hi,.slice none 0 0,.slice none 0 0]) (by simp [results,results255,go_sem,nos]) rfl ⟨rfl,cl0⟩
theorem cn9 (name of up:ByteArray) (lo hi:Int) (wa ga:Option Addr) (nw wc ng gc:Nat) (w:World) :
  Calls prog 255 #[.agg #[.string name,.string of,.string up,.int .i64 6,.int .i64 lo,.int .i64 hi,.slice wa nw wc,.slice ga ng gc]] w fun e w'=>e = .returned (.agg #[.string name,.string of,.string nos,.int .i64 6,.int .i64 0,.int .i64 0,.slice none 0 0,.slice none 0 0])/\Ex w w':=by
 go_enter func255,ntmps255
 go_wp2
 all_goals exact bodyPost_ret (v:=.agg #[.string name,.string of,.string nos,.int .i64 6,.int .i64 0,.int .i64 0,.slice none 0 0,.slice none 0 0]) (by simp [results,results255,go_sem,nos]) rfl ⟨rfl,cl0⟩
theorem cn8 (name of up:ByteArray) (lo hi:Int) (wa ga:Option Addr) (nw wc ng gc:Nat) (w:World) :
  Calls prog 255 #[.agg #[.string name,.string of,.string up,.int .i64 7,.int .i64 lo,.int .i64 hi,.slice wa nw wc,.slice ga ng gc]] w fun e w'=>e = .returned (.agg #[.string name,.string of,.string up,.int .i64 7,.int .i64 lo,.int .i64 hi,.slice none 0 0,.slice none 0 0])/\Ex w w':=by
 go_enter func255,ntmps255
 go_wp2
 go_region
 all_goals go_wp2
 all_goals exact bodyPost_ret (v:=.agg #[.string name,.string of,.string up,.int .i64 7,.int .i64 lo,.int .i64 hi,.slice none 0 0,.slice none 0 0]) (by simp [results,results255,go_sem,nos]) rfl ⟨rfl,cl0⟩
theorem cn7 (name of up:ByteArray) (lo hi:Int) (wa ga:Option Addr) (nw wc ng gc:Nat) (w:World) :
  Calls prog 255 #[.agg #[.string name,.string of,.string up,.int .i64 8,.int .i64 lo,.int .i64 hi,.slice wa nw wc,.slice ga ng gc]] w fun e w'=>e = .returned (.agg #[.string name,.string of,.string up,.int .i64 8,.int .i64 0,.int .i64 0,.slice none 0 0,.slice none 0 0])/\Ex w w':=by
 go_enter func255,ntmps255
 go_wp2
 go_region
 all_goals go_wp2
 all_goals exact bodyPost_ret (v:=.agg #[.string name,.string of,.string up,.int .i64 8,.int .i64 0,.int .i64 0,.slice none 0 0,.slice none 0 0]) (by simp [results,results255,go_sem,nos]) rfl ⟨rfl,cl0⟩
theorem cc9 (name of up:ByteArray) (k:Int) (h0:(k==0)=false) (h1:(k==1)=false) (h2:(k==2)=false) (h3:(k==3)=false) (h4:(k==4)=false) (h5:(k==5)=false) (h6:(k==6)=false) (h7:(k==7)=false) (h8:(k==8)=false) (lo hi:Int) (wa ga:Option Addr) (nw wc ng gc:Nat) (w:World) :
  Calls prog 255 #[.agg #[.string name,.string of,.string up,.int .i64 k,.int .i64 lo,.int .i64 hi,.slice wa nw wc,.slice ga ng gc]] w fun e w'=>e = .returned (.agg #[.string name,.string nos,.string nos,.int .i64 k,.int .i64 0,.int .i64 0,.slice none 0 0,.slice none 0 0])/\Ex w w':=by
 go_enter func255,ntmps255
 go_wp2
 all_goals exact bodyPost_ret (v:=.agg #[.string name,.string nos,.string nos,.int .i64 k,.int .i64 0,.int .i64 0,.slice none 0 0,.slice none 0 0]) (by simp [results,results255,go_sem,nos]) rfl ⟨rfl,cl0⟩
def aK0 (f g:Fld):Bool:=seq f.name g.name&&(seq f.of g.of&&(seq f.up g.up&&(f.kind==g.kind&&(f.lo==g.lo&&(f.hi==g.hi&&(av4 seq f.words g.words&&av4 ieq f.wz g.wz))))))
theorem bL4 (f g:Fld) (w:World) {F G:Nat->Prop} {wa ga wa' ga':Option Addr} {wc gc wc' gc':Nat} (hw:ay5 w F f.words wa wc) (hg:RInts w F f.wz ga gc) (hw':ay5 w G g.words wa' wc') (hg':RInts w G g.wz ga' gc')
  (l1:f.words.length<=1000000) (l2:f.wz.length<=1000000) (l3:g.words.length<=1000000) (l4:g.wz.length<=1000000) :
  Calls prog 254 #[.agg #[.string f.name,.string f.of,.string f.up,.int .i64 f.kind,.int .i64 f.lo,.int .i64 f.hi,.slice wa f.words.length wc,.slice ga f.wz.length gc],
   .agg #[.string g.name,.string g.of,.string g.up,.int .i64 g.kind,.int .i64 g.lo,.int .i64 g.hi,.slice wa' g.words.length wc',.slice ga' g.wz.length gc']] w fun e w'=>e = .returned (.bool (aK0 f g))/\Ex w w':=by
 have HS:=Lib.hid (fun (w':World) (he:Ex w w')=>bH4 (hw.keep (w':=w') he.same (fun _ h=>h) (fun _ _ _ h=>h)) (hw'.keep (w':=w') he.same (fun _ h=>h) (fun _ _ _ h=>h)) (by omega) (by omega));have HI:=Lib.hid (fun (w':World) (he:Ex w w')=>bH5 (hg.keep (w':=w') he.same (fun _ h=>h) (fun _ _ _ h=>h)) (hg'.keep (w':=w') he.same (fun _ h=>h) (fun _ _ _ h=>h)) (by omega) (by omega));clear hw hg hw' hg' l1 l2 l3 l4;obtain⟨n1,o1,u1,k1,lo1,hi1,ws1,gs1⟩:=f;obtain⟨n2,o2,u2,k2,lo2,hi2,ws2,gs2⟩:=g;simp only at *
 cases h1:(n1.toList==n2.toList)
 ·go_enter func254,ntmps254;go_wp2_with (first|(go_at_call 263;refine (HS.out _ cl0).mono ?_;rintro e w1 ⟨rfl,hb1⟩;(have hq7:=ru7;(try clear hc hf);obtain⟨hb,hc,hf,hz⟩:=hq7;(try simp only [zsz7] at hz);(try have hz0:=z07 w w1);(try have hz1:=z17 w w1);(try have hz2:=z27 w w1)))|(go_at_call 47;refine (HI.out _ cl0).mono ?_;rintro e w1 ⟨rfl,hb1⟩;(have hq7:=ru7;(try clear hc hf);obtain⟨hb,hc,hf,hz⟩:=hq7;(try simp only [zsz7] at hz);(try have hz0:=z07 w w1);(try have hz1:=z17 w w1);(try have hz2:=z27 w w1))));go_ret
  exact⟨ab3 (by simp only [aK0,seq,h1,Bool.false_and]),cl0⟩
 cases h2:(o1.toList==o2.toList)
 ·go_enter func254,ntmps254;go_wp2_with (first|(go_at_call 263;refine (HS.out _ cl0).mono ?_;rintro e w1 ⟨rfl,hb1⟩;(have hq7:=ru7;(try clear hc hf);obtain⟨hb,hc,hf,hz⟩:=hq7;(try simp only [zsz7] at hz);(try have hz0:=z07 w w1);(try have hz1:=z17 w w1);(try have hz2:=z27 w w1)))|(go_at_call 47;refine (HI.out _ cl0).mono ?_;rintro e w1 ⟨rfl,hb1⟩;(have hq7:=ru7;(try clear hc hf);obtain⟨hb,hc,hf,hz⟩:=hq7;(try simp only [zsz7] at hz);(try have hz0:=z07 w w1);(try have hz1:=z17 w w1);(try have hz2:=z27 w w1))));go_ret
  exact⟨ab3 (by simp only [aK0,seq,h1,h2,Bool.false_and,Bool.true_and]),cl0⟩
 cases h3:(u1.toList==u2.toList)
 ·go_enter func254,ntmps254;go_wp2_with (first|(go_at_call 263;refine (HS.out _ cl0).mono ?_;rintro e w1 ⟨rfl,hb1⟩;(have hq7:=ru7;(try clear hc hf);obtain⟨hb,hc,hf,hz⟩:=hq7;(try simp only [zsz7] at hz);(try have hz0:=z07 w w1);(try have hz1:=z17 w w1);(try have hz2:=z27 w w1)))|(go_at_call 47;refine (HI.out _ cl0).mono ?_;rintro e w1 ⟨rfl,hb1⟩;(have hq7:=ru7;(try clear hc hf);obtain⟨hb,hc,hf,hz⟩:=hq7;(try simp only [zsz7] at hz);(try have hz0:=z07 w w1);(try have hz1:=z17 w w1);(try have hz2:=z27 w w1))));go_ret
  exact⟨ab3 (by simp only [aK0,seq,h1,h2,h3,Bool.false_and,Bool.true_and]),cl0⟩
 cases h4:(k1==k2)
 ·go_enter func254,ntmps254;go_wp2_with (first|(go_at_call 263;refine (HS.out _ cl0).mono ?_;rintro e w1 ⟨rfl,hb1⟩;(have hq7:=ru7;(try clear hc hf);obtain⟨hb,hc,hf,hz⟩:=hq7;(try simp only [zsz7] at hz);(try have hz0:=z07 w w1);(try have hz1:=z17 w w1);(try have hz2:=z27 w w1)))|(go_at_call 47;refine (HI.out _ cl0).mono ?_;rintro e w1 ⟨rfl,hb1⟩;(have hq7:=ru7;(try clear hc hf);obtain⟨hb,hc,hf,hz⟩:=hq7;(try simp only [zsz7] at hz);(try have hz0:=z07 w w1);(try have hz1:=z17 w w1);(try have hz2:=z27 w w1))));go_ret
  exact⟨ab3 (by simp only [aK0,seq,h1,h2,h3,h4,Bool.false_and,Bool.true_and]),cl0⟩
 cases h5:(lo1==lo2)
 ·go_enter func254,ntmps254;go_wp2_with (first|(go_at_call 263;refine (HS.out _ cl0).mono ?_;rintro e w1 ⟨rfl,hb1⟩;(have hq7:=ru7;(try clear hc hf);obtain⟨hb,hc,hf,hz⟩:=hq7;(try simp only [zsz7] at hz);(try have hz0:=z07 w w1);(try have hz1:=z17 w w1);(try have hz2:=z27 w w1)))|(go_at_call 47;refine (HI.out _ cl0).mono ?_;rintro e w1 ⟨rfl,hb1⟩;(have hq7:=ru7;(try clear hc hf);obtain⟨hb,hc,hf,hz⟩:=hq7;(try simp only [zsz7] at hz);(try have hz0:=z07 w w1);(try have hz1:=z17 w w1);(try have hz2:=z27 w w1))));go_ret
  exact⟨ab3 (by simp only [aK0,seq,h1,h2,h3,h4,h5,Bool.false_and,Bool.true_and]),cl0⟩
 cases h6:(hi1==hi2)
 ·go_enter func254,ntmps254;go_wp2_with (first|(go_at_call 263;refine (HS.out _ cl0).mono ?_;rintro e w1 ⟨rfl,hb1⟩;(have hq7:=ru7;(try clear hc hf);obtain⟨hb,hc,hf,hz⟩:=hq7;(try simp only [zsz7] at hz);(try have hz0:=z07 w w1);(try have hz1:=z17 w w1);(try have hz2:=z27 w w1)))|(go_at_call 47;refine (HI.out _ cl0).mono ?_;rintro e w1 ⟨rfl,hb1⟩;(have hq7:=ru7;(try clear hc hf);obtain⟨hb,hc,hf,hz⟩:=hq7;(try simp only [zsz7] at hz);(try have hz0:=z07 w w1);(try have hz1:=z17 w w1);(try have hz2:=z27 w w1))));go_ret
  exact⟨ab3 (by simp only [aK0,seq,h1,h2,h3,h4,h5,h6,Bool.false_and,Bool.true_and]),cl0⟩
 cases h7:av4 seq ws1 ws2
 ·go_enter func254,ntmps254;go_wp2_with (first|(go_at_call 263;refine (HS.out _ cl0).mono ?_;rintro e w1 ⟨rfl,hb1⟩;(have hq7:=ru7;(try clear hc hf);obtain⟨hb,hc,hf,hz⟩:=hq7;(try simp only [zsz7] at hz);(try have hz0:=z07 w w1);(try have hz1:=z17 w w1);(try have hz2:=z27 w w1)))|(go_at_call 47;refine (HI.out _ cl0).mono ?_;rintro e w1 ⟨rfl,hb1⟩;(have hq7:=ru7;(try clear hc hf);obtain⟨hb,hc,hf,hz⟩:=hq7;(try simp only [zsz7] at hz);(try have hz0:=z07 w w1);(try have hz1:=z17 w w1);(try have hz2:=z27 w w1))));go_ret
  exact⟨ab3 (by simp only [aK0,h7,Bool.false_and,wW]),cl0⟩
 ·have HR:Hid (aK0 ⟨n1,o1,u1,k1,lo1,hi1,ws1,gs1⟩ ⟨n2,o2,u2,k2,lo2,hi2,ws2,gs2⟩=av4 ieq gs1 gs2):=Lib.hid (by simp only [aK0,seq,h1,h2,h3,h4,h5,h6,Bool.true_and];simp only [show av4 (fun a b:ByteArray=>a.toList==b.toList) ws1 ws2=true from h7,show av4 seq ws1 ws2=true from h7,Bool.true_and])
  go_enter func254,ntmps254;go_wp2_with (first|(go_at_call 263;refine (HS.out _ cl0).mono ?_;rintro e w1 ⟨rfl,hb1⟩;(have hq7:=ru7;(try clear hc hf);obtain⟨hb,hc,hf,hz⟩:=hq7;(try simp only [zsz7] at hz);(try have hz0:=z07 w w1);(try have hz1:=z17 w w1);(try have hz2:=z27 w w1)))|(go_at_call 47;refine (HI.out _ cl0).mono ?_;rintro e w1 ⟨rfl,hb1⟩;(have hq7:=ru7;(try clear hc hf);obtain⟨hb,hc,hf,hz⟩:=hq7;(try simp only [zsz7] at hz);(try have hz0:=z07 w w1);(try have hz1:=z17 w w1);(try have hz2:=z27 w w1))));go_ret
  exact⟨ab3 HR.out.symm,cl0⟩
end
section
open Go.RowKit Go.Shelf
theorem bN8 (f:Fld) (w:World) {F:Nat->Prop} {wa ga:Option Addr} {wc gc:Nat} (hw:ay5 w F f.words wa wc) (hg:RInts w F f.wz ga gc) :
  Calls prog 255 #[.agg #[.string f.name,.string f.of,.string f.up,.int .i64 f.kind,.int .i64 f.lo,.int .i64 f.hi,.slice wa f.words.length wc,.slice ga f.wz.length gc]] w
   fun e w'=>∃ wa' wc' ga' gc',e = .returned (.agg #[.string (av9 f).name,.string (av9 f).of,.string (av9 f).up,.int .i64 (av9 f).kind,.int .i64 (av9 f).lo,.int .i64 (av9 f).hi,.slice wa' (av9 f).words.length wc',.slice ga' (av9 f).wz.length gc']) /\
    ay5 w' F (av9 f).words wa' wc'/\RInts w' F (av9 f).wz ga' gc'/\Ex w w':=by
 obtain⟨n,o,u,k,lo,hi,ws,gs⟩:=f;simp only at *;by_cases h0:k=0
 ·subst h0;exact (co5 n o u lo hi wa ga _ wc _ gc w).mono fun e w' ⟨h1,h2⟩=>⟨_,_,_,_,h1,Row.nil,Row.nil,h2⟩
 by_cases h1:k=1
 ·subst h1;exact (co4 n o u lo hi wa ga _ wc _ gc w).mono fun e w' ⟨h1,h2⟩=>⟨_,_,_,_,h1,Row.nil,Row.nil,h2⟩
 by_cases h2:k=2
 ·subst h2;exact (co3 n o u lo hi wa ga _ wc _ gc w).mono fun e w' ⟨h1,h2⟩=>⟨_,_,_,_,h1,Row.nil,Row.nil,h2⟩
 by_cases h3:k=3
 ·subst h3;exact (co2 n o u lo hi wa ga _ wc _ gc w).mono fun e w' ⟨h1,h2⟩=>⟨_,_,_,_,h1,hw.keep h2.same (fun _ h=>h) (fun _ _ _ h=>h),hg.keep h2.same (fun _ h=>h) (fun _ _ _ h=>h),h2⟩
 by_cases h4:k=4
 ·subst h4;exact (co1 n o u lo hi wa ga _ wc _ gc w).mono fun e w' ⟨h1,h2⟩=>⟨_,_,_,_,h1,Row.nil,Row.nil,h2⟩
 by_cases h5:k=5
 ·subst h5;exact (co0 n o u lo hi wa ga _ wc _ gc w).mono fun e w' ⟨h1,h2⟩=>⟨_,_,_,_,h1,Row.nil,Row.nil,h2⟩
 by_cases h6:k=6
 ·subst h6;exact (cn9 n o u lo hi wa ga _ wc _ gc w).mono fun e w' ⟨h1,h2⟩=>⟨_,_,_,_,h1,Row.nil,Row.nil,h2⟩
 by_cases h7:k=7
 ·subst h7;exact (cn8 n o u lo hi wa ga _ wc _ gc w).mono fun e w' ⟨h1,h2⟩=>⟨_,_,_,_,h1,Row.nil,Row.nil,h2⟩
 by_cases h8:k=8
 ·subst h8;exact (cn7 n o u lo hi wa ga _ wc _ gc w).mono fun e w' ⟨h1,h2⟩=>⟨_,_,_,_,h1,Row.nil,Row.nil,h2⟩
 have H:=cc9 n o u k (by simp [h0]) (by simp [h1]) (by simp [h2]) (by simp [h3]) (by simp [h4]) (by simp [h5]) (by simp [h6]) (by simp [h7]) (by simp [h8]) lo hi wa ga ws.length wc gs.length gc w;have e1:av9 ⟨n,o,u,k,lo,hi,ws,gs⟩=⟨n,nos,nos,k,0,0,[],[]⟩:=by simp [av9,ae1,ae0,ae3,ae2,ac5, *]
 rw [e1];exact H.mono fun e w' ⟨h1,h2⟩=>⟨_,_,_,_,h1,Row.nil,Row.nil,h2⟩
theorem ce3 (a:ByteArray):seq a nos=isE a:=by
 have:seq a nos=decide (a=nos):=by
  rw [Bool.eq_iff_iff,aC5];simp
 rw [this,isE,ByteArray.toList_eq];obtain⟨⟨l⟩⟩:=a
 cases l<;>simp [nos]
theorem aI4 {α:Type} {eq:α->α->Bool} (h:∀ a,eq a a=true):∀ l:List α,av4 eq l l=true
 | []=>rfl
 | x::l=>by simp [av4,h x,aI4 h l]
theorem bI4 {α:Type} {eq:α->α->Bool}:∀ l:List α,av4 eq l []=l.isEmpty
 | []=>rfl
 | _::_=>rfl
theorem bC0 (f:Fld):aK0 f (av9 f)=ap3 f:=by
 obtain⟨n,o,u,k,lo,hi,ws,gs⟩:=f;have hs:∀ (c:Bool) (x:ByteArray),seq x (if c=true then x else nos)=(c||isE x):=fun c x=>by cases c<;>simp [as3,ce3]
 have hi':∀ (c:Bool) (x:Int),(x==(if c=true then x else 0))=(c||x==0):=fun c x=>by cases c<;>simp
 have hl:∀ (c:Bool),(av4 seq ws (if c=true then ws else [])&&av4 ieq gs (if c=true then gs else []))=(c||(ws.isEmpty&&gs.isEmpty)):=fun c=>by
  cases c<;>simp [aI4 as3,aI4 (eq:=ieq) (by simp [ieq]),bI4]
 simp only [aK0,av9,ap3,hs,hi',hl,as3,Bool.true_and,wP,Bool.and_assoc]
structure aM3 (n o u:ByteArray) (k lo hi:Int) (nw ng:Nat) (sb:Bool) (w:World) (wa ga:Option Addr) (wc gc:Nat) (fo:Fld) (RW RG:World->Option Addr->Nat->Prop):Prop where
 only:∀ w',Ex w w'->Calls prog 255 #[.agg #[.string n,.string o,.string u,.int .i64 k,.int .i64 lo,.int .i64 hi,.slice wa nw wc,.slice ga ng gc]] w'
   fun e w2=>∃ wa1 wc1 ga1 gc1,e = .returned (.agg #[.string fo.name,.string fo.of,.string fo.up,.int .i64 fo.kind,.int .i64 fo.lo,.int .i64 fo.hi,.slice wa1 fo.words.length wc1,.slice ga1 fo.wz.length gc1]) /\
    Ex w' w2/\Hid (RW w2 wa1 wc1/\RG w2 ga1 gc1)
 same:∀ w' wa1 wc1 ga1 gc1,Ex w w'->RW w' wa1 wc1->RG w' ga1 gc1->Calls prog 254 #[.agg #[.string n,.string o,.string u,.int .i64 k,.int .i64 lo,.int .i64 hi,.slice wa nw wc,.slice ga ng gc],
   .agg #[.string fo.name,.string fo.of,.string fo.up,.int .i64 fo.kind,.int .i64 fo.lo,.int .i64 fo.hi,.slice wa1 fo.words.length wc1,.slice ga1 fo.wz.length gc1]] w' fun e w2=>e = .returned (.bool sb)/\Ex w' w2
 keepW:∀ w' w2 a c,Ex w' w2->RW w' a c->RW w2 a c
 keepG:∀ w' w2 a c,Ex w' w2->RG w' a c->RG w2 a c
theorem bQ5 (f:Fld) (w:World) {F:Nat->Prop} {wa ga:Option Addr} {wc gc:Nat} (hw:ay5 w F f.words wa wc) (hg:RInts w F f.wz ga gc) (hx:SmF f) :
  aM3 f.name f.of f.up f.kind f.lo f.hi f.words.length f.wz.length (ap3 f) w wa ga wc gc (av9 f) (fun w' a c=>ay5 w' F (av9 f).words a c) (fun w' a c=>RInts w' F (av9 f).wz a c):=by
 refine⟨fun w' he=>(bN8 f w' (hw.keep he.same (fun _ h=>h) (fun _ _ _ h=>h)) (hg.keep he.same (fun _ h=>h) (fun _ _ _ h=>h))).mono fun e w2 ⟨a1,a2,a3,a4,h1,h2,h3,h4⟩=>⟨a1,a2,a3,a4,h1,h4,h2,h3⟩,
  fun w' wa1 wc1 ga1 gc1 he h1 h2=>?_,fun w' w2 a c he h=>h.keep he.same (fun _ h=>h) (fun _ _ _ h=>h),fun w' w2 a c he h=>h.keep he.same (fun _ h=>h) (fun _ _ _ h=>h)⟩
 have:=bL4 f (av9 f) w' (hw.keep he.same (fun _ h=>h) (fun _ _ _ h=>h)) (hg.keep he.same (fun _ h=>h) (fun _ _ _ h=>h)) (wa':=wa1) (wc':=wc1) (ga':=ga1) (gc':=gc1) (G:=F) h1 h2 hx.nwords hx.nweights
  (by have:=hx.nwords;unfold av9;simp only;split<;>simp_all) (by have:=hx.nweights;unfold av9;simp only;split<;>simp_all)
 rw [bC0] at this;exact this
theorem bG3 (k:Int) (n o u:ByteArray) (lo hi:Int) (nw ng:Nat) (w:World) (wa ga:Option Addr) (cw cg:Nat) (fo:Fld) (RW RG:World->Option Addr->Nat->Prop) (hr1:n.size<=9223372036854775807) (hr2:o.size<=9223372036854775807) (hr3:u.size<=9223372036854775807) (sb:Bool) (HA:aM3 n o u k lo hi nw ng sb w wa ga cw cg fo RW RG) (h1:isNm n=false) :
  Calls prog 228 #[.agg #[.string n,.string o,.string u,.int .i64 k,.int .i64 lo,.int .i64 hi,.slice wa nw cw,.slice ga ng cg]] w fun e w'=>e = .returned (.bool false)/\Ex w w':=by
 go_enter func228,ntmps228
 go_wp2
 go_region_with (first|(go_at_call 225;refine (ab9 _ _ (by first|exact hr1|exact hr2|exact hr3)).mono ?_;rintro e w1 ⟨rfl,hb1⟩;(have hq7:=ru7;(try clear hc hf);obtain⟨hb,hc,hf,hz⟩:=hq7;(try simp only [zsz7] at hz);(try have hz0:=z07 w w1);(try have hz1:=z17 w w1);(try have hz2:=z27 w w1)))|(go_at_call 255;refine (HA.only _ cl0).mono ?_;rintro e w1 ⟨wa1,wc1,ga1,gc1,rfl,hb1,hw1⟩;(have hq7:=ru7;(try clear hc hf);obtain⟨hb,hc,hf,hz⟩:=hq7;(try simp only [zsz7] at hz);(try have hz0:=z07 w w1);(try have hz1:=z17 w w1);(try have hz2:=z27 w w1)))|(go_at_call 254;refine (HA.same _ _ _ _ _ cl0 hw1.out.1 hw1.out.2).mono ?_;rintro e w1 ⟨rfl,hb1⟩;(have hq7:=ru7;(try clear hc hf);obtain⟨hb,hc,hf,hz⟩:=hq7;(try simp only [zsz7] at hz);(try have hz0:=z07 w w1);(try have hz1:=z17 w w1);(try have hz2:=z27 w w1))))
 all_goals go_wp2
 all_goals go_ret
 all_goals exact⟨rfl,cl0⟩
theorem bG2 (k:Int) (n o u:ByteArray) (lo hi:Int) (nw ng:Nat) (w:World) (wa ga:Option Addr) (cw cg:Nat) (fo:Fld) (RW RG:World->Option Addr->Nat->Prop) (hr1:n.size<=9223372036854775807) (hr2:o.size<=9223372036854775807) (hr3:u.size<=9223372036854775807) (HA:aM3 n o u k lo hi nw ng false w wa ga cw cg fo RW RG) (h1:isNm n=true) :
  Calls prog 228 #[.agg #[.string n,.string o,.string u,.int .i64 k,.int .i64 lo,.int .i64 hi,.slice wa nw cw,.slice ga ng cg]] w fun e w'=>e = .returned (.bool false)/\Ex w w':=by
 go_enter func228,ntmps228
 go_wp2
 go_region_with (first|(go_at_call 225;refine (ab9 _ _ (by first|exact hr1|exact hr2|exact hr3)).mono ?_;rintro e w1 ⟨rfl,hb1⟩;(have hq7:=ru7;(try clear hc hf);obtain⟨hb,hc,hf,hz⟩:=hq7;(try simp only [zsz7] at hz);(try have hz0:=z07 w w1);(try have hz1:=z17 w w1);(try have hz2:=z27 w w1)))|(go_at_call 255;refine (HA.only _ cl0).mono ?_;rintro e w1 ⟨wa1,wc1,ga1,gc1,rfl,hb1,hw1⟩;(have hq7:=ru7;(try clear hc hf);obtain⟨hb,hc,hf,hz⟩:=hq7;(try simp only [zsz7] at hz);(try have hz0:=z07 w w1);(try have hz1:=z17 w w1);(try have hz2:=z27 w w1)))|(go_at_call 254;refine (HA.same _ _ _ _ _ cl0 hw1.out.1 hw1.out.2).mono ?_;rintro e w1 ⟨rfl,hb1⟩;(have hq7:=ru7;(try clear hc hf);obtain⟨hb,hc,hf,hz⟩:=hq7;(try simp only [zsz7] at hz);(try have hz0:=z07 w w1);(try have hz1:=z17 w w1);(try have hz2:=z27 w w1))))
 all_goals go_wp2
 all_goals go_ret
 all_goals exact⟨rfl,cl0⟩
end
section
open Go.RowKit Go.Shelf
def aF2 (k:Int) (o u:ByteArray) (lo hi:Int) (pk:Bool):Bool:=
   if k=0 then aa3 lo (-1048576) 1048576
   else if k=1 then isNm o&&ap2 lo hi 0 65536
   else if k=2 then ap2 lo hi (-1048576) 1048576
   else if k=3 then pk
   else if k=4 then (isE o||isNm o)&&ap2 lo hi (-1048576) 1048576
   else if k=5 then isNm o&&ap2 lo hi 0 32
   else if k=6 then isNm o
   else if k=7 then isNm o&&isNm u&&ap2 lo hi 0 1048576
   else if k=8 then isNm o&&isNm u
   else false
theorem bG1 (k:Int) (n o u:ByteArray) (lo hi:Int) (nw ng:Nat) (w:World) (wa ga:Option Addr) (cw cg:Nat) (fo:Fld) (RW RG:World->Option Addr->Nat->Prop) (hr1:n.size<=9223372036854775807) (hr2:o.size<=9223372036854775807) (hr3:u.size<=9223372036854775807) (pk:Bool) (HP:Hid (∀ w',Ex w w'->Calls prog 256 #[.slice wa nw cw,.slice ga ng cg] w' fun e w2=>e = .returned (.bool pk)/\Ex w' w2))
  (HA:aM3 n o u k lo hi nw ng true w wa ga cw cg fo RW RG) (h1:isNm n=true) :
  Calls prog 228 #[.agg #[.string n,.string o,.string u,.int .i64 k,.int .i64 lo,.int .i64 hi,.slice wa nw cw,.slice ga ng cg]] w fun e w'=>e = .returned (.bool (aF2 k o u lo hi pk))/\Ex w w':=by
 go_enter func228,ntmps228
 go_upto_region 1 with fail
 go_cut [13] (fun s13 wx=>s13 = .bool false/\Ex (w.alloc (.cells #[.string n,.string o,.string u,.int .i64 k,.int .i64 lo,.int .i64 hi,.slice wa nw cw,.slice ga ng cg] 97)) wx)
 case first=>
  go_region_with (first|(go_at_call 225;refine (ab9 _ _ (by first|exact hr1|exact hr2|exact hr3)).mono ?_;rintro e w1 ⟨rfl,hb1⟩;(have hq7:=ru7;(try clear hc hf);obtain⟨hb,hc,hf,hz⟩:=hq7;(try simp only [zsz7] at hz);(try have hz0:=z07 w w1);(try have hz1:=z17 w w1);(try have hz2:=z27 w w1)))|(go_at_call 255;refine (HA.only _ cl0).mono ?_;rintro e w1 ⟨wa1,wc1,ga1,gc1,rfl,hb1,hw1⟩;(have hq7:=ru7;(try clear hc hf);obtain⟨hb,hc,hf,hz⟩:=hq7;(try simp only [zsz7] at hz);(try have hz0:=z07 w w1);(try have hz1:=z17 w w1);(try have hz2:=z27 w w1)))|(go_at_call 254;refine (HA.same _ _ _ _ _ cl0 hw1.out.1 hw1.out.2).mono ?_;rintro e w1 ⟨rfl,hb1⟩;(have hq7:=ru7;(try clear hc hf);obtain⟨hb,hc,hf,hz⟩:=hq7;(try simp only [zsz7] at hz);(try have hz0:=z07 w w1);(try have hz1:=z17 w w1);(try have hz2:=z27 w w1))))
  all_goals (go_wp2_with fail;go_meet;exact⟨rfl,cl0⟩)
 case rest=>
  obtain⟨rfl,hb⟩:=hcut;obtain⟨hc,hf⟩:=hb.rules;have hz:=hb.size;simp only [World.size_alloc] at hz;have hz0:w.heap.size<wc.heap.size:=by omega
  by_cases q0:k=0
  ·subst q0
   go_wp2_with (first|(go_at_call 225;refine (ab9 _ _ (by first|exact hr1|exact hr2|exact hr3)).mono ?_;rintro e w1 ⟨rfl,hb1⟩;(have hq7:=ru7;(try clear hc hf);obtain⟨hb,hc,hf,hz⟩:=hq7;(try simp only [zsz7] at hz);(try have hz0:=z07 w w1);(try have hz1:=z17 w w1);(try have hz2:=z27 w w1)))|(go_at_call 189;refine (ab6 _ _ _ _).mono ?_;rintro e w2 ⟨rfl,rfl⟩)|(go_at_call 226;refine (aj8 _ _ _ _ _).mono ?_;rintro e w2 ⟨rfl,rfl⟩));go_ret;exact⟨ab3 (by simp [aF2]),cl0⟩
  by_cases q1:k=1
  ·subst q1
   cases h2:isNm o
   all_goals (go_wp2_with (first|(go_at_call 225;refine (ab9 _ _ (by first|exact hr1|exact hr2|exact hr3)).mono ?_;rintro e w1 ⟨rfl,hb1⟩;(have hq7:=ru7;(try clear hc hf);obtain⟨hb,hc,hf,hz⟩:=hq7;(try simp only [zsz7] at hz);(try have hz0:=z07 w w1);(try have hz1:=z17 w w1);(try have hz2:=z27 w w1)))|(go_at_call 189;refine (ab6 _ _ _ _).mono ?_;rintro e w2 ⟨rfl,rfl⟩)|(go_at_call 226;refine (aj8 _ _ _ _ _).mono ?_;rintro e w2 ⟨rfl,rfl⟩));go_ret;exact⟨ab3 (by simp [aF2,h2]),cl0⟩)
  by_cases q2:k=2
  ·subst q2
   go_wp2_with (first|(go_at_call 225;refine (ab9 _ _ (by first|exact hr1|exact hr2|exact hr3)).mono ?_;rintro e w1 ⟨rfl,hb1⟩;(have hq7:=ru7;(try clear hc hf);obtain⟨hb,hc,hf,hz⟩:=hq7;(try simp only [zsz7] at hz);(try have hz0:=z07 w w1);(try have hz1:=z17 w w1);(try have hz2:=z27 w w1)))|(go_at_call 189;refine (ab6 _ _ _ _).mono ?_;rintro e w2 ⟨rfl,rfl⟩)|(go_at_call 226;refine (aj8 _ _ _ _ _).mono ?_;rintro e w2 ⟨rfl,rfl⟩));go_ret;exact⟨ab3 (by simp [aF2]),cl0⟩
  by_cases q3:k=3
  ·subst q3
   go_wp2_with (first|(go_at_call 225;refine (ab9 _ _ (by first|exact hr1|exact hr2|exact hr3)).mono ?_;rintro e w1 ⟨rfl,hb1⟩;(have hq7:=ru7;(try clear hc hf);obtain⟨hb,hc,hf,hz⟩:=hq7;(try simp only [zsz7] at hz);(try have hz0:=z07 w w1);(try have hz1:=z17 w w1);(try have hz2:=z27 w w1)))|(go_at_call 189;refine (ab6 _ _ _ _).mono ?_;rintro e w2 ⟨rfl,rfl⟩)|(go_at_call 226;refine (aj8 _ _ _ _ _).mono ?_;rintro e w2 ⟨rfl,rfl⟩)|(go_at_call 256;refine (HP.out _ cl0).mono ?_;rintro e w1 ⟨rfl,hb1⟩;(have hq7:=ru7;(try clear hc hf);obtain⟨hb,hc,hf,hz⟩:=hq7;(try simp only [zsz7] at hz);(try have hz0:=z07 w w1);(try have hz1:=z17 w w1);(try have hz2:=z27 w w1))));go_ret;exact⟨ab3 (by simp [aF2]),cl0⟩
  by_cases q4:k=4
  ·subst q4
   cases h2:o.toList.isEmpty
   ·cases h3:isNm o
    all_goals (go_wp2_with (first|(go_at_call 225;refine (ab9 _ _ (by first|exact hr1|exact hr2|exact hr3)).mono ?_;rintro e w1 ⟨rfl,hb1⟩;(have hq7:=ru7;(try clear hc hf);obtain⟨hb,hc,hf,hz⟩:=hq7;(try simp only [zsz7] at hz);(try have hz0:=z07 w w1);(try have hz1:=z17 w w1);(try have hz2:=z27 w w1)))|(go_at_call 189;refine (ab6 _ _ _ _).mono ?_;rintro e w2 ⟨rfl,rfl⟩)|(go_at_call 226;refine (aj8 _ _ _ _ _).mono ?_;rintro e w2 ⟨rfl,rfl⟩));go_ret;exact⟨ab3 (by simp [aF2,isE,h2,h3]),cl0⟩)
   ·go_wp2_with (first|(go_at_call 225;refine (ab9 _ _ (by first|exact hr1|exact hr2|exact hr3)).mono ?_;rintro e w1 ⟨rfl,hb1⟩;(have hq7:=ru7;(try clear hc hf);obtain⟨hb,hc,hf,hz⟩:=hq7;(try simp only [zsz7] at hz);(try have hz0:=z07 w w1);(try have hz1:=z17 w w1);(try have hz2:=z27 w w1)))|(go_at_call 189;refine (ab6 _ _ _ _).mono ?_;rintro e w2 ⟨rfl,rfl⟩)|(go_at_call 226;refine (aj8 _ _ _ _ _).mono ?_;rintro e w2 ⟨rfl,rfl⟩));go_ret;exact⟨ab3 (by simp [aF2,isE,h2]),cl0⟩
  by_cases q5:k=5
  ·subst q5
   cases h2:isNm o
   all_goals (go_wp2_with (first|(go_at_call 225;refine (ab9 _ _ (by first|exact hr1|exact hr2|exact hr3)).mono ?_;rintro e w1 ⟨rfl,hb1⟩;(have hq7:=ru7;(try clear hc hf);obtain⟨hb,hc,hf,hz⟩:=hq7;(try simp only [zsz7] at hz);(try have hz0:=z07 w w1);(try have hz1:=z17 w w1);(try have hz2:=z27 w w1)))|(go_at_call 189;refine (ab6 _ _ _ _).mono ?_;rintro e w2 ⟨rfl,rfl⟩)|(go_at_call 226;refine (aj8 _ _ _ _ _).mono ?_;rintro e w2 ⟨rfl,rfl⟩));go_ret;exact⟨ab3 (by simp [aF2,h2]),cl0⟩)
  by_cases q6:k=6
  ·subst q6
   go_wp2_with (first|(go_at_call 225;refine (ab9 _ _ (by first|exact hr1|exact hr2|exact hr3)).mono ?_;rintro e w1 ⟨rfl,hb1⟩;(have hq7:=ru7;(try clear hc hf);obtain⟨hb,hc,hf,hz⟩:=hq7;(try simp only [zsz7] at hz);(try have hz0:=z07 w w1);(try have hz1:=z17 w w1);(try have hz2:=z27 w w1)))|(go_at_call 189;refine (ab6 _ _ _ _).mono ?_;rintro e w2 ⟨rfl,rfl⟩)|(go_at_call 226;refine (aj8 _ _ _ _ _).mono ?_;rintro e w2 ⟨rfl,rfl⟩));go_ret;exact⟨ab3 (by simp [aF2]),cl0⟩
  by_cases q7:k=7
  ·subst q7
   cases h2:isNm o
   ·go_wp2_with (first|(go_at_call 225;refine (ab9 _ _ (by first|exact hr1|exact hr2|exact hr3)).mono ?_;rintro e w1 ⟨rfl,hb1⟩;(have hq7:=ru7;(try clear hc hf);obtain⟨hb,hc,hf,hz⟩:=hq7;(try simp only [zsz7] at hz);(try have hz0:=z07 w w1);(try have hz1:=z17 w w1);(try have hz2:=z27 w w1)))|(go_at_call 189;refine (ab6 _ _ _ _).mono ?_;rintro e w2 ⟨rfl,rfl⟩)|(go_at_call 226;refine (aj8 _ _ _ _ _).mono ?_;rintro e w2 ⟨rfl,rfl⟩));go_ret;exact⟨ab3 (by simp [aF2,h2]),cl0⟩
   ·cases h3:isNm u
    all_goals (go_wp2_with (first|(go_at_call 225;refine (ab9 _ _ (by first|exact hr1|exact hr2|exact hr3)).mono ?_;rintro e w1 ⟨rfl,hb1⟩;(have hq7:=ru7;(try clear hc hf);obtain⟨hb,hc,hf,hz⟩:=hq7;(try simp only [zsz7] at hz);(try have hz0:=z07 w w1);(try have hz1:=z17 w w1);(try have hz2:=z27 w w1)))|(go_at_call 189;refine (ab6 _ _ _ _).mono ?_;rintro e w2 ⟨rfl,rfl⟩)|(go_at_call 226;refine (aj8 _ _ _ _ _).mono ?_;rintro e w2 ⟨rfl,rfl⟩));go_ret;exact⟨ab3 (by simp [aF2,h2,h3]),cl0⟩)
  by_cases q8:k=8
  ·subst q8
   cases h2:isNm o
   all_goals (go_wp2_with (first|(go_at_call 225;refine (ab9 _ _ (by first|exact hr1|exact hr2|exact hr3)).mono ?_;rintro e w1 ⟨rfl,hb1⟩;(have hq7:=ru7;(try clear hc hf);obtain⟨hb,hc,hf,hz⟩:=hq7;(try simp only [zsz7] at hz);(try have hz0:=z07 w w1);(try have hz1:=z17 w w1);(try have hz2:=z27 w w1)))|(go_at_call 189;refine (ab6 _ _ _ _).mono ?_;rintro e w2 ⟨rfl,rfl⟩)|(go_at_call 226;refine (aj8 _ _ _ _ _).mono ?_;rintro e w2 ⟨rfl,rfl⟩));go_ret;exact⟨ab3 (by simp [aF2,h2]),cl0⟩)
  have r0:(k==0)=false:=by simp [q0]
  have r1:(k==1)=false:=by simp [q1]
  have r2:(k==2)=false:=by simp [q2]
  have r3:(k==3)=false:=by simp [q3]
  have r4:(k==4)=false:=by simp [q4]
  have r5:(k==5)=false:=by simp [q5]
  have r6:(k==6)=false:=by simp [q6]
  have r7:(k==7)=false:=by simp [q7]
  have r8:(k==8)=false:=by simp [q8]
  have HR:Hid (¬ k=0/\¬ k=1/\¬ k=2/\¬ k=3/\¬ k=4/\¬ k=5/\¬ k=6/\¬ k=7/\¬ k=8):=⟨q0,q1,q2,q3,q4,q5,q6,q7,q8⟩
  clear q0 q1 q2 q3 q4 q5 q6 q7 q8
  go_wp2_with fail
  go_ret
  obtain⟨q0,q1,q2,q3,q4,q5,q6,q7,q8⟩:=HR.out;exact⟨ab3 (by simp only [aF2,q0,q1,q2,q3,q4,q5,q6,q7,q8,uC]),cl0⟩
end
section
open Go.RowKit Go.Shelf
theorem bl0 (f:Fld) (w:World) {F:Nat->Prop} {wa ga:Option Addr} {wc gc:Nat} (hw:ay5 w F f.words wa wc) (hg:RInts w F f.wz ga gc) (hx:SmF f) :
  Calls prog 228 #[.agg #[.string f.name,.string f.of,.string f.up,.int .i64 f.kind,.int .i64 f.lo,.int .i64 f.hi,.slice wa f.words.length wc,.slice ga f.wz.length gc]] w
   fun e w'=>e = .returned (.bool (ab2 f))/\Ex w w':=by
 have HA:=bQ5 f w hw hg hx
 cases h1:isNm f.name with
 | false=>
  have:=bG3 _ _ _ _ _ _ _ _ _ _ _ _ _ _ _ _ hx.name.le hx.of.le hx.up.le _ HA h1
  simpa [ab2,h1] using this
 | true=>
  cases h2:ap3 f with
  | false=>
   rw [h2] at HA;have:=bG2 _ _ _ _ _ _ _ _ _ _ _ _ _ _ _ _ hx.name.le hx.of.le hx.up.le HA h1
   simpa [ab2,h1,h2] using this
  | true=>
   rw [h2] at HA;have HP:Hid (∀ w',Ex w w'->Calls prog 256 #[.slice wa f.words.length wc,.slice ga f.wz.length gc] w' fun e w2=>e = .returned (.bool (ag1 f.words f.wz))/\Ex w' w2):=
    fun w' he=>bx4 f.words f.wz w' (hw.keep he.same (fun _ h=>h) (fun _ _ _ h=>h)) (hg.keep he.same (fun _ h=>h) (fun _ _ _ h=>h)) (fun s hs=>(hx.words s hs).le) hx.nweights hx.nwords
   have:=bG1 _ _ _ _ _ _ _ _ _ _ _ _ _ _ _ _ hx.name.le hx.of.le hx.up.le _ HP HA h1;have e:ab2 f=aF2 f.kind f.of f.up f.lo f.hi (ag1 f.words f.wz):=by simp only [ab2,h1,h2,Bool.true_and];rfl
   rw [e];exact this
theorem bf5 (w:World) {F:Nat->Prop} {l:List Fld} (hl:∀ f,f∈l->SmF f):Asks prog 228 #[] w ai4 (RFld w F) l ab2:=by
 refine⟨enters_of func228 (by kernel_rfl) rfl,fun f vs W hm hr hW=>?_⟩;obtain⟨wa,wc,ga,gc,rfl,_,_,_,h1,h2⟩:=hr;exact bl0 f W (h1.keep hW.same (fun _ h=>h) (fun _ _ _ h=>h)) (h2.keep hW.same (fun _ h=>h) (fun _ _ _ h=>h)) (hl f hm)
theorem Asks.rel {α:Type} {P:Program} {g:FuncId} {cb:Array Value} {w:World} {arg:List Value->Value} {R R':α->List Value->Prop} {xs:List α} {p:α->Bool} (h:Asks P g cb w arg R xs p) (hR:∀ x vs,R' x vs->R x vs):Asks P g cb w arg R' xs p:=
 ⟨h.enters,fun x vs W hm hr hw=>h.says x vs W hm (hR x vs hr) hw⟩
theorem bx6 (x:Knd) (w:World) {F:Nat->Prop} {fa:Option Addr} {fc:Nat} (hw:RFlds w F x.fields fa fc) (hx:SmK x) :
  Calls prog 191 #[.agg #[.string x.name,.int .i64 x.lo,.int .i64 x.hi,.slice fa x.fields.length fc]] w fun e w'=>e = .returned (.bool (ag5 x))/\Ex w w':=by
 have hr1:=hx.name.le;have hl:=hx.nfields;have HF:=Lib.hid (fun (w':World) (he:Ex w w')=>ci4 (w0:=w) (F0:=F) (Row.keep (w':=w') hw he.same (fun _ h=>h) (fun _ _ _ h=>h)) (by omega) ((bf5 w hx.fields).mono he));clear hx hw;obtain⟨name,lo,hi,fs⟩:=x;simp only at *
 cases h1:isNm name
 ·go_enter func191,ntmps191;go_wp2_with (first|(go_at_call 225;refine (ab9 _ _ hr1).mono ?_;rintro e w1 ⟨rfl,hb1⟩;(have hq7:=ru7;(try clear hc hf);obtain⟨hb,hc,hf,hz⟩:=hq7;(try simp only [zsz7] at hz);(try have hz0:=z07 w w1);(try have hz1:=z17 w w1);(try have hz2:=z27 w w1)))|(go_at_call 226;refine (aj8 _ _ _ _ _).mono ?_;rintro e w2 ⟨rfl,rfl⟩)|(go_at_call 227;refine (HF.out _ cl0).mono ?_;rintro e w1 ⟨rfl,hb1⟩;(have hq7:=ru7;(try clear hc hf);obtain⟨hb,hc,hf,hz⟩:=hq7;(try simp only [zsz7] at hz);(try have hz0:=z07 w w1);(try have hz1:=z17 w w1);(try have hz2:=z27 w w1))));go_ret
  exact⟨ab3 (by simp [ag5,h1]),cl0⟩
 cases h2:ap2 lo hi 0 65536
 ·go_enter func191,ntmps191;go_wp2_with (first|(go_at_call 225;refine (ab9 _ _ hr1).mono ?_;rintro e w1 ⟨rfl,hb1⟩;(have hq7:=ru7;(try clear hc hf);obtain⟨hb,hc,hf,hz⟩:=hq7;(try simp only [zsz7] at hz);(try have hz0:=z07 w w1);(try have hz1:=z17 w w1);(try have hz2:=z27 w w1)))|(go_at_call 226;refine (aj8 _ _ _ _ _).mono ?_;rintro e w2 ⟨rfl,rfl⟩)|(go_at_call 227;refine (HF.out _ cl0).mono ?_;rintro e w1 ⟨rfl,hb1⟩;(have hq7:=ru7;(try clear hc hf);obtain⟨hb,hc,hf,hz⟩:=hq7;(try simp only [zsz7] at hz);(try have hz0:=z07 w w1);(try have hz1:=z17 w w1);(try have hz2:=z27 w w1))));go_ret
  exact⟨ab3 (by simp [ag5,h2]),cl0⟩
 by_cases h4:(fs.length:Int)<=10
 ·have HR:Hid (ag5 ⟨name,lo,hi,fs⟩=fs.all ab2):=Lib.hid (by simp [ag5,h1,h2];intro;omega)
  go_enter func191,ntmps191;go_wp2_with (first|(go_at_call 225;refine (ab9 _ _ hr1).mono ?_;rintro e w1 ⟨rfl,hb1⟩;(have hq7:=ru7;(try clear hc hf);obtain⟨hb,hc,hf,hz⟩:=hq7;(try simp only [zsz7] at hz);(try have hz0:=z07 w w1);(try have hz1:=z17 w w1);(try have hz2:=z27 w w1)))|(go_at_call 226;refine (aj8 _ _ _ _ _).mono ?_;rintro e w2 ⟨rfl,rfl⟩)|(go_at_call 227;refine (HF.out _ cl0).mono ?_;rintro e w1 ⟨rfl,hb1⟩;(have hq7:=ru7;(try clear hc hf);obtain⟨hb,hc,hf,hz⟩:=hq7;(try simp only [zsz7] at hz);(try have hz0:=z07 w w1);(try have hz1:=z17 w w1);(try have hz2:=z27 w w1))));go_ret
  exact⟨ab3 HR.out.symm,cl0⟩
 ·go_enter func191,ntmps191;go_wp2_with (first|(go_at_call 225;refine (ab9 _ _ hr1).mono ?_;rintro e w1 ⟨rfl,hb1⟩;(have hq7:=ru7;(try clear hc hf);obtain⟨hb,hc,hf,hz⟩:=hq7;(try simp only [zsz7] at hz);(try have hz0:=z07 w w1);(try have hz1:=z17 w w1);(try have hz2:=z27 w w1)))|(go_at_call 226;refine (aj8 _ _ _ _ _).mono ?_;rintro e w2 ⟨rfl,rfl⟩)|(go_at_call 227;refine (HF.out _ cl0).mono ?_;rintro e w1 ⟨rfl,hb1⟩;(have hq7:=ru7;(try clear hc hf);obtain⟨hb,hc,hf,hz⟩:=hq7;(try simp only [zsz7] at hz);(try have hz0:=z07 w w1);(try have hz1:=z17 w w1);(try have hz2:=z27 w w1))));go_ret
  exact⟨ab3 (by simp [ag5];intros;omega),cl0⟩
theorem bk9 (w:World) {F:Nat->Prop} {l:List Knd} (hl:∀ k,k∈l->SmK k):Asks prog 191 #[] w ai4 (RKnd w F) l ag5:=by
 refine⟨enters_of func191 (by kernel_rfl) rfl,fun k vs W hm hr hW=>?_⟩;obtain⟨fa,fc,rfl,_,_,h1⟩:=hr;exact bx6 k W (RFlds.keep hW.same (fun _ h=>h) h1) (hl k hm)
theorem bk8 (w:World) {F:Nat->Prop} {l:List Lif} (hl:∀ k,k∈l->SmL k):Asks prog 193 #[] w ai4 (RLif w F) l ag2:=by
 refine⟨enters_of func193 (by kernel_rfl) rfl,fun k vs W hm hr hW=>?_⟩;obtain⟨sa,sc,ma,mc,rfl,h1,h2⟩:=hr;exact bx5 k W (h1.keep hW.same (fun _ h=>h) (fun _ _ _ h=>h)) (h2.keep hW.same (fun _ h=>h) (fun _ _ _ h=>h)) (hl k hm)
theorem bk7 (w:World) {l:List Rul} (hl:∀ k,k∈l->SmR k):Asks prog 195 #[] w ai4 RRul l an5:=by
 refine⟨enters_of func195 (by kernel_rfl) rfl,fun k vs W hm hr hW=>?_⟩;obtain⟨rfl,h1⟩:=hr;exact bx3 k W (hl k hm)
end
section
open Go.RowKit Go.Shelf
theorem bk4 {f:Fld} (h:am4 f=true):0<=f.kind/\f.kind<=8:=by
 unfold am4 at h
 repeat' split at h
 all_goals first|omega|simp at h
theorem bN4 {ws:List ByteArray} {gs:List Int} (h:ag1 ws gs=true):ws.length=gs.length/\ws.length<=12:=by
 simp only [ag1,zJ,aa3,zQ] at h;omega
theorem bH2 (f:Fld) (w:World) {F:Nat->Prop} {wa ga:Option Addr} {wc gc:Nat} (hw:ay5 w F f.words wa wc) (hg:RInts w F f.wz ga gc) (hlo:I64 f.lo) (hhi:I64 f.hi) (hx:SmF f) (hv:ab2 f=true) (hb:ai6 f<=1000000) (hp:Pow10 w) (hwd:WordsAt w) :
  Calls prog 235 #[.agg #[.string f.name,.string f.of,.string f.up,.int .i64 f.kind,.int .i64 f.lo,.int .i64 f.hi,.slice wa f.words.length wc,.slice ga f.wz.length gc]] w
   fun e w'=>∃ s:ByteArray,e = .returned (.string s)/\s.size<=ai6 f/\Ex w w':=by
 have hk:am4 f=true:=by simp only [ab2,zJ] at hv;exact hv.2
 have hr:=bk4 hk;obtain⟨n,o,u,k,lo,hi,ws,gs⟩:=f;have h1:=hx.name;have h2:=hx.of;have h3:=hx.up;unfold SmS at h1 h2 h3;simp only at *;have key:∀ s:ByteArray,s.size<=16+n.size+o.size+u.size+intB lo+intB hi->s.size<=ai6 ⟨n,o,u,k,lo,hi,ws,gs⟩:=fun s hs=>by unfold ai6;simp only;omega
 by_cases k3:k=3
 ·subst k3;have hpk:ag1 ws gs=true:=by simpa [am4] using hk
  obtain⟨hl,h12⟩:=bN4 hpk;have hpb:=be0 ws gs hl;unfold ai6 at hb;simp only at hb;refine (cg2 n o u lo hi ws gs w wa ga wc gc hw hg hl (by omega) h1 (by omega) hp hwd).mono ?_;rintro e w' ⟨s,he,hs,hex⟩;refine⟨s,he,?_,hex⟩;unfold ai6;simp only;omega
 have h:k=0\/k=1\/k=2\/k=4\/k=5\/k=6\/k=7\/k=8:=by omega
 rcases h with rfl|rfl|rfl|rfl|rfl|rfl|rfl|rfl
 ·exact (cg5 n o u lo hi _ _ w wa ga wc gc h1 h2 h3 hlo hhi hp hwd).mono fun e w' ⟨s,he,hs,hex⟩=>⟨s,he,key s hs,hex⟩
 ·exact (cg4 n o u lo hi _ _ w wa ga wc gc h1 h2 h3 hlo hhi hp hwd).mono fun e w' ⟨s,he,hs,hex⟩=>⟨s,he,key s hs,hex⟩
 ·exact (cg3 n o u lo hi _ _ w wa ga wc gc h1 h2 h3 hlo hhi hp hwd).mono fun e w' ⟨s,he,hs,hex⟩=>⟨s,he,key s hs,hex⟩
 ·exact (cg1 n o u lo hi _ _ w wa ga wc gc h1 h2 h3 hlo hhi hp hwd).mono fun e w' ⟨s,he,hs,hex⟩=>⟨s,he,key s hs,hex⟩
 ·exact (cg0 n o u lo hi _ _ w wa ga wc gc h1 h2 h3 hlo hhi hp hwd).mono fun e w' ⟨s,he,hs,hex⟩=>⟨s,he,key s hs,hex⟩
 ·exact (cf9 n o u lo hi _ _ w wa ga wc gc h1 h2 h3 hlo hhi hp hwd).mono fun e w' ⟨s,he,hs,hex⟩=>⟨s,he,key s hs,hex⟩
 ·exact (cf8 n o u lo hi _ _ w wa ga wc gc h1 h2 h3 hlo hhi hp hwd).mono fun e w' ⟨s,he,hs,hex⟩=>⟨s,he,key s hs,hex⟩
 ·exact (cf7 n o u lo hi _ _ w wa ga wc gc h1 h2 h3 hlo hhi hp hwd).mono fun e w' ⟨s,he,hs,hex⟩=>⟨s,he,key s hs,hex⟩
theorem Wrote.ex' {w wr w':World} {B b n n':Nat} {O:Option Nat} (hB0:w.heap.size<=B) (he:Ex w wr) (hb:Bld wr B b n O) (hw:Wrote wr w' B b n' O):Ex w w':=by
 obtain⟨hk,_⟩:=hw;obtain⟨l,p,v,_,_,hB,_,hown,hO,_⟩:=hb;refine⟨hk.os.trans (Keep.os he),hk.tape.trans (Keep.tape he),hk.output.trans (Keep.output he),xH he.size hk.size,fun x hx _=>?_⟩;rw [hk.block x (yI hx he.size) ?_]
 ·exact he.block x hx
 ·rintro (rfl|h)
  ·omega
  ·have:=(hown.lt x (by rw [hO,h])).1;omega
theorem Bld.own_lt {w:World} {B b n:Nat} {O:Option Nat} (h:Bld w B b n O):∀ x,O=some x->x<w.heap.size:=by
 obtain⟨l,p,v,_,_,hB,_,hown,hO,_⟩:=h;intro x hx;exact (hown.lt x (by rw [hO,hx])).2
theorem Wrote.cell {w w':World} {B b n N i:Nat} {O:Option Nat} {v:Value} (hw:Wrote w w' B b n O) (hc:w.cell? ⟨N,i,none⟩=some v) (h1:N≠b) (h2:O≠some N):w'.cell? ⟨N,i,none⟩=some v:=
 hw.1.cell hc (by rintro (h|h);exact h1 h;exact h2 h.symm)
end
section
open Go.RowKit Go.Shelf
def SrcAt (W1:World) (B:Nat) (m:Nat) (wr:World):Prop:=Ex W1 wr/\∃ n O,Bld wr B B n O/\n<=m
theorem SrcAt.ex {W1 wr w':World} {B m:Nat} (h:SrcAt W1 B m wr) (he:Ex wr w'):SrcAt W1 B m w':=by
 obtain⟨h1,n,O,h2,h3⟩:=h;exact⟨h1.trans he,n,O,h2.ex he,h3⟩
theorem SrcAt.mono {W1 wr:World} {B m m':Nat} (h:SrcAt W1 B m wr) (hm:m<=m'):SrcAt W1 B m' wr:=by
 obtain⟨h1,n,O,h2,h3⟩:=h;exact⟨h1,n,O,h2,by omega⟩
theorem aN1 {W1 wr:World} {B m:Nat} (h:SrcAt W1 B m wr) (hB:W1.heap.size<=B) (s:ByteArray) (hm:m+s.size<=1000000000) :
  Calls prog 163 #[.pointer (some ⟨B,0,none⟩),.string s] wr fun e w'=>e = .returned (.tuple #[.int .i64 s.size,.nilIface])/\SrcAt W1 B (m+s.size) w'/\wr.heap.size<=w'.heap.size:=by
 obtain⟨h1,n,O,h2,h3⟩:=h;refine (al3 h2 s (by omega)).mono ?_;rintro e w' ⟨rfl,hw⟩;obtain⟨O',hb'⟩:=hw.bld;exact⟨rfl,⟨Wrote.ex' hB h1 h2 hw,_,O',hb',by omega⟩,hw.1.size⟩
theorem au8 {W1 wr wn:World} {B m N:Nat} (h:SrcAt W1 B m wr) (hB:W1.heap.size<=B) (s:ByteArray) (hm:m+s.size<=1000000000) (hN:wr.heap.size<=N) (he:Ex wr wn) (hne:N≠B) :
  Calls prog 163 #[.pointer (some ⟨B,0,none⟩),.string s] wn fun e w'=>e = .returned (.tuple #[.int .i64 s.size,.nilIface])/\SrcAt W1 B (m+s.size) w'/\wn.heap.size<=w'.heap.size/\∀ i v,wn.cell? ⟨N,i,none⟩=some v->w'.cell? ⟨N,i,none⟩=some v:=by
 obtain⟨h1,n,O,h2,h3⟩:=h;have h2':=h2.ex he;refine (al3 h2' s (by omega)).mono ?_;rintro e w' ⟨rfl,hw⟩;obtain⟨O',hb'⟩:=hw.bld;exact⟨rfl,⟨Wrote.ex' hB (h1.trans he) h2' hw,_,O',hb',by omega⟩,hw.1.size,fun i v hc=>hw.cell hc hne (fun e=>by have:=h2.own_lt N e;omega)⟩
def al2 (nm:ByteArray) (ss:List ByteArray) (j:Nat):List (Int ⊕ ByteArray):=Sum.inr nm::Sum.inl (ss.length:Int)::(ss.take j).map Sum.inr
theorem aP8 (nm:ByteArray) (ss:List ByteArray) (j:Nat) (h:j<=ss.length):(al2 nm ss j).length=2+j:=by simp [al2];omega
theorem ba4 (nm:ByteArray) (ss:List ByteArray) (j:Nat) (s:ByteArray) (h:ss[j]?=some s):al2 nm ss (j+1)=al2 nm ss j++[.inr s]:=by simp [al2,xC,h]
theorem bx0 (nm:ByteArray) (ss:List ByteArray):ac0 (al2 nm ss ss.length)=2+nm.size+intB ss.length+sumB (fun s=>1+s.size) ss:=by
 simp only [al2,yL (zT _),ac0,List.map_cons,List.sum_cons,au0,vA,sumB];have:(au0 ∘ (Sum.inr:ByteArray->Int ⊕ ByteArray))=fun s=>1+s.size:=by funext s;rfl
 rw [this];omega
theorem cd0 (a:Int ⊕ ByteArray):∀ u∈[anyV a],u.oneCell'=true:=by cases a<;>simp [anyV,Value.oneCell']
theorem bu3 (x:Sch) (w:World) {F:Nat->Prop} {ka la ra:Option Addr} {kc lc rc:Nat} (hver:I64 x.vz) (hk:RKnds w F x.kz ka kc) (hl:RLifs w F x.lz la lc) (hr:RRuls w F x.rules ra rc) (hx:ci9 x) (hv:ag8 x=true) (hb:srcB x<=1000000) (hp:Pow10 w) (hwd:WordsAt w) :
  Calls prog 196 #[.agg #[.int .i64 x.vz,.slice ka x.kz.length kc,.slice la x.lz.length lc,.slice ra x.rules.length rc]] w
   fun e w'=>∃ s:ByteArray,e = .returned (.string s)/\s.size<=srcB x/\Ex w w':=by
 obtain⟨ver,kz,lz,rules⟩:=x;simp only at *;have hlk:=hx.nkinds;have hll:=hx.nlives;have hlr:=hx.nrules;simp only at hlk hll hlr;obtain⟨W1,HW⟩:∃ W1:World,Hid (W1=w.alloc (.cells #[.int .i64 ver,.slice ka kz.length kc,.slice la lz.length lc,.slice ra rules.length rc] 28)):=⟨_,rfl⟩
 have b1:W1.cell? ⟨w.heap.size,1,none⟩=some (.slice ka kz.length kc):=by rw [HW.out];simp
 have b2:W1.cell? ⟨w.heap.size,2,none⟩=some (.slice la lz.length lc):=by rw [HW.out];simp
 have b3:W1.cell? ⟨w.heap.size,3,none⟩=some (.slice ra rules.length rc):=by rw [HW.out];simp
 have bz:W1.heap.size<=w.heap.size+1:=by rw [HW.out];simp
 have bz0:w.heap.size<W1.heap.size:=by rw [HW.out];simp
 have hsrc0:SrcAt W1 (w.heap.size+1) 0 ((w.alloc (.cells #[.int .i64 ver,.slice ka kz.length kc,.slice la lz.length lc,.slice ra rules.length rc] 28)).alloc (.cells #[.pointer none,.slice none 0 0] 266)):=by
  rw [HW.out];refine⟨(Ex.refl _).alloc,0,none,?_,zT _⟩;have:=Bld.fresh (w.alloc (.cells #[.int .i64 ver,.slice ka kz.length kc,.slice la lz.length lc,.slice ra rules.length rc] 28)) (w.heap.size+1) (by simp)
  simpa using this
 have hbx:Ex w W1:=by rw [HW.out];exact (Ex.refl _).alloc
 have HL0:Hid (∀ (W:World) (N:Nat),Ex w W->N=W.heap.size->Calls prog 234 #[.string ⟨#[115,99,104,101,109,97]⟩,.slice (some ⟨N,0,none⟩) 1 1] (W.alloc (.cells #[.iface 3 (.int .i64 ver)] 20)) fun e w'=>∃ s:ByteArray,e = .returned (.string s)/\s.size<=29/\Ex W w'):=Lib.hid (by
  intro W N he hN;subst hN;have i1:=af5 ver;have hB:ac0 [.inl ver]=1+intB ver:=by simp [ac0,au0]
  refine (am8 ⟨#[115,99,104,101,109,97]⟩ [.inl ver] W (by simp [hver]) (hp.ex he) (by simp) (by rw [hB];show 6+_<=_;omega)).mono ?_;rintro e w' ⟨s,h1,h2,h3⟩;refine⟨s,h1,?_,h3⟩;have h2':s.size<=6+ac0 [.inl ver]+1:=h2;omega)
 have HL1:Hid (∀ (W:World) (N:Nat) (nm:ByteArray) (lo hi:Int),I64 lo->I64 hi->nm.size<=1000000->Ex w W->N=W.heap.size->Calls prog 234 #[.string ⟨#[107,105,110,100]⟩,.slice (some ⟨N,0,none⟩) 3 3] (W.alloc (.cells #[.iface 9 (.string nm),.iface 3 (.int .i64 lo),.iface 3 (.int .i64 hi)] 20)) fun e w'=>∃ s:ByteArray,e = .returned (.string s)/\s.size<=8+nm.size+intB lo+intB hi/\Ex W w'):=Lib.hid (by
  intro W N nm lo hi hlo hhi hnm he hN;subst hN;have i1:=af5 lo;have i2:=af5 hi;have hB:ac0 [.inr nm,.inl lo,.inl hi]=3+nm.size+intB lo+intB hi:=by simp [ac0,au0];omega
  refine (am8 ⟨#[107,105,110,100]⟩ [.inr nm,.inl lo,.inl hi] W (by simp [hlo,hhi]) (hp.ex he) (by simp) (by rw [hB];show 4+_<=_;omega)).mono ?_;rintro e w' ⟨s,h1,h2,h3⟩;refine⟨s,h1,?_,h3⟩;have h2':s.size<=4+ac0 [.inr nm,.inl lo,.inl hi]+1:=h2;omega)
 have HL5:Hid (∀ (W:World) (N:Nat) (lo hi:Int),I64 lo->I64 hi->Ex w W->N=W.heap.size->Calls prog 234 #[.string ⟨#[109,111,118,101]⟩,.slice (some ⟨N,0,none⟩) 2 2] (W.alloc (.cells #[.iface 3 (.int .i64 lo),.iface 3 (.int .i64 hi)] 20)) fun e w'=>∃ s:ByteArray,e = .returned (.string s)/\s.size<=7+intB lo+intB hi/\Ex W w'):=Lib.hid (by
  intro W N lo hi hlo hhi he hN;subst hN;have i1:=af5 lo;have i2:=af5 hi;have hB:ac0 [.inl lo,.inl hi]=2+intB lo+intB hi:=by simp [ac0,au0];omega
  refine (am8 ⟨#[109,111,118,101]⟩ [.inl lo,.inl hi] W (by simp [hlo,hhi]) (hp.ex he) (by simp) (by rw [hB];show 4+_<=_;omega)).mono ?_;rintro e w' ⟨s,h1,h2,h3⟩;refine⟨s,h1,?_,h3⟩;have h2':s.size<=4+ac0 [.inl lo,.inl hi]+1:=h2;omega)
 have HL6:Hid (∀ (W:World) (N:Nat) (nm kd a b:ByteArray) (n:Int),I64 n->nm.size+kd.size+a.size+b.size<=10000000->Ex w W->N=W.heap.size->Calls prog 234 #[.string ⟨#[114,117,108,101]⟩,.slice (some ⟨N,0,none⟩) 5 5] (W.alloc (.cells #[.iface 9 (.string nm),.iface 9 (.string kd),.iface 9 (.string a),.iface 9 (.string b),.iface 3 (.int .i64 n)] 20)) fun e w'=>∃ s:ByteArray,e = .returned (.string s)/\s.size<=10+nm.size+kd.size+a.size+b.size+intB n/\Ex W w'):=Lib.hid (by
  intro W N nm kd a b n hn hsz he hN;subst hN;have i1:=af5 n;have hB:ac0 [.inr nm,.inr kd,.inr a,.inr b,.inl n]=5+nm.size+kd.size+a.size+b.size+intB n:=by simp [ac0,au0];omega
  refine (am8 ⟨#[114,117,108,101]⟩ [.inr nm,.inr kd,.inr a,.inr b,.inl n] W (by simp [hn]) (hp.ex he) (by simp) (by rw [hB];show 4+_<=_;omega)).mono ?_;rintro e w' ⟨s,h1,h2,h3⟩;refine⟨s,h1,?_,h3⟩;have h2':s.size<=4+ac0 [.inr nm,.inr kd,.inr a,.inr b,.inl n]+1:=h2;omega)
 have hsb:29+sumB kndB kz+sumB lifB lz+sumB rulB rules<=1000000:=hb;have HX:=Lib.hid hx;have HV:=Lib.hid hv;clear hx hv hb
 go_enter func196,ntmps196
 go_wp2_with fail
 refine (HL0.out _ _ cl0 (by simp)).mono ?_;rintro e w1 ⟨s,rfl,hs,he1⟩;have hsrc1:=hsrc0.ex he1;clear hsrc0 he1
 go_wp2_with fail
 refine (aN1 hsrc1 bz s (by omega)).mono ?_;rintro e w2 ⟨rfl,hsrc2,_⟩;have hsrc:=hsrc2.mono (m':=29) (by omega);clear hsrc1 hsrc2;obtain⟨hc,hf⟩:=hsrc.1.rules
 go_wp2
 clear hc hf
 go_loopw [26] (fun i wr=>∃ j:Nat,j<=kz.length/\i = .int .i64 j/\Hid (SrcAt W1 (w.heap.size+1) (29+sumB kndB (kz.take j)) wr)) (fun i _=>kz.length-(intOf i).toNat)
 case atStart=>exact⟨0,by omega,rfl,by simpa [sumB,Hid] using hsrc⟩
 case round=>
  obtain⟨wo,hwo⟩:∃ wo:World,wo=wr:=⟨_,rfl⟩
  subst hwo;obtain⟨j,hj,rfl,hs1⟩:=hrel;clear hsrc;by_cases hlt:j<kz.length
  ·have hexo:=hbx.trans hs1.out.1;obtain⟨y,b,off,fa,fc,hy,rfl,_,c0,c1,c2,c3,hry⟩:=bf0 hk hexo.same hlt;have hym:=zG hy.out;have hyS:=HX.out.kz y hym;have hyV:ag5 y=true:=by
    have:=HV.out;simp only [ag8,zJ,yA] at this;exact this.1.1.2 y hym
   have hny:=hyS.name;unfold SmS at hny;obtain⟨fa',fc',hvs,hlo,hhi,hfl⟩:=hry.out
   cases hvs
   clear hry;have Hk1:=Lib.hid (al4 kndB kz j y hy.out);have Hk2:=Lib.hid (ak9 kndB kz (j+1));have hkb:29+sumB kndB (kz.take j)+kndB y<=1000000:=by have h1:=Hk1.out;have h2:=Hk2.out;omega
   have hkb':kndB y=8+y.name.size+intB y.lo+intB y.hi+sumB ai6 y.fields:=rfl;have hnf:=hyS.nfields
   go_wp2_with fail
   refine (HL1.out _ _ _ _ _ hlo hhi hny cl0 (by simp)).mono ?_;rintro e w1 ⟨s1,rfl,hs',he1⟩
   go_wp2_with fail
   refine (au8 hs1.out bz s1 (by omega) (zT wo.heap.size) cl0 (by have:=hs1.out.1.size;obtain⟨_,n',O',hb',_⟩:=hs1.out;have:=hb'.lt;omega)).mono ?_;rintro e w2' ⟨rfl,hsrc2,hz2,hkeep⟩;have d3:=hkeep 3 (.slice fa y.fields.length fc) (he1.cell (by simp));have hsA:=Lib.hid (hsrc2.mono (m':=29+sumB kndB (kz.take j)+(8+y.name.size+intB y.lo+intB y.hi)) (by omega));clear hsrc2 hkeep he1 c0 c1 c2 c3 hz2
   go_wp2
   clear d3
   go_loopw [45] (fun i wr=>∃ q:Nat,q<=y.fields.length/\i = .int .i64 q/\Hid (SrcAt W1 (w.heap.size+1) (29+sumB kndB (kz.take j)+(8+y.name.size+intB y.lo+intB y.hi)+sumB ai6 (y.fields.take q)) wr)) (fun i _=>y.fields.length-(intOf i).toNat)
   case atStart=>exact⟨0,by omega,rfl,by simpa [sumB,Hid] using hsA⟩
   case round=>
    obtain⟨q,hq,rfl,hs2⟩:=hrel;clear hsA;by_cases hlt2:q<y.fields.length
    ·have hexr:=hbx.trans hs2.out.1;obtain⟨f,b2,off2,wa,wc,ga,gc,hf,rfl,_,e0,e1,e2,e3,e4,e5,e6,e7,hrf⟩:=bf8 hfl hexr.same hlt2;have hfm:=zG hf.out;have hfS:=hyS.fields f hfm;have hfV:ab2 f=true:=by
      have:=hyV;simp only [ag5,zJ,yA] at this;exact this.2 f hfm
     obtain⟨wa',wc',ga',gc',hvs,hkk,hlo2,hhi2,hws,hgs⟩:=hrf.out
     cases hvs
     clear hrf;have Hf1:=Lib.hid (al4 ai6 y.fields q f hf.out);have Hf2:=Lib.hid (ak9 ai6 y.fields (q+1));have hfb:sumB ai6 (y.fields.take q)+ai6 f<=sumB ai6 y.fields:=by have h1:=Hf1.out;have h2:=Hf2.out;omega
     have HFc:=Lib.hid (fun (W:World) (he:Ex w W)=>bH2 f W (hws.keep he.same (fun _ h=>h) (fun _ _ _ h=>h)) (hgs.keep he.same (fun _ h=>h) (fun _ _ _ h=>h)) hlo2 hhi2 hfS hfV (by omega) (hp.ex he) (hwd.ex he));clear hws hgs hfV hfS
     go_wp2_with fail
     refine (HFc.out _ cl0).mono ?_;rintro e w3 ⟨s2,rfl,hs2',he3⟩;have hsB:=hs2.out.ex ((Ex.refl _).alloc.trans he3);clear he3 e0 e1 e2 e3 e4 e5 e6 e7
     go_wp2_with fail
     refine (aN1 hsB bz s2 (by omega)).mono ?_;rintro e w4 ⟨rfl,hsC,_⟩;have hsD:=Lib.hid (hsC.mono (m':=29+sumB kndB (kz.take j)+(8+y.name.size+intB y.lo+intB y.hi)+sumB ai6 (y.fields.take (q+1))) (by have h1:=Hf1.out;omega));clear hsB hsC
     go_wp2
     go_roundw
     case rel=>exact⟨q+1,by omega,by go_num,hsD⟩
     case measure=>simp [intOf];omega
    ·have hsE:=Lib.hid (hs2.out.mono (m':=29+sumB kndB (kz.take (j+1))) (by have h1:=Hk1.out;have e:y.fields.take q=y.fields:=yL (by omega);rw [e];omega))
     go_wp2
     go_roundw
     case rel=>exact⟨j+1,by omega,by go_num,hsE⟩
     case measure=>simp [intOf];omega
  ·have hs3:=Lib.hid (hs1.out.mono (m':=29+sumB kndB kz) (by have e:kz.take j=kz:=yL (by omega);rw [e];omega));clear hs1;obtain⟨hc,hf⟩:=hs3.out.1.rules
   go_wp2
   clear hc hf
   go_loopw [57] (fun i wr=>∃ j:Nat,j<=lz.length/\i = .int .i64 j/\Hid (SrcAt W1 (w.heap.size+1) (29+sumB kndB kz+sumB lifB (lz.take j)) wr)) (fun i _=>lz.length-(intOf i).toNat)
   case atStart=>exact⟨0,by omega,rfl,by simpa [sumB,Hid] using hs3.out⟩
   case round=>
    obtain⟨wp,hwp⟩:∃ wp:World,wp=wr:=⟨_,rfl⟩
    subst hwp;obtain⟨j3,hj3,rfl,hs1⟩:=hrel;clear hs3;by_cases hlt3:j3<lz.length
    ·have hexo:=hbx.trans hs1.out.1;obtain⟨y,b,off,sa,sc,ma,mc,hy,rfl,_,c0,c1,c2,hry⟩:=be7 hl hexo.same hlt3;have hym:=zG hy.out;have hyS:=HX.out.lz y hym;have hny:=hyS.name;unfold SmS at hny;obtain⟨sa',sc',ma',mc',hvs,hst,hmv⟩:=hry.out
     cases hvs
     clear hry;have Hk1:=Lib.hid (al4 lifB lz j3 y hy.out);have Hk2:=Lib.hid (ak9 lifB lz (j3+1));have hkb:29+sumB kndB kz+sumB lifB (lz.take j3)+lifB y<=1000000:=by have h1:=Hk1.out;have h2:=Hk2.out;omega
     have hkb':lifB y=7+y.name.size+intB y.tz.length+sumB (fun s=>1+s.size) y.tz+sumB movB y.mz:=rfl;have hns:y.tz.length<=12:=by
      have:=HV.out;simp only [ag8,zJ,yA] at this;have h2:=this.1.2 y hym;simp only [ag2,aa3,zJ,zQ] at h2;omega
     have hnm:=hyS.nmoves;obtain⟨i0,hiA,hzA,hz1,hz2⟩:=info_parts bG6
     go_wp2
     go_loopw [10,72] (fun s10 i wr=>∃ q:Nat,q<=y.tz.length/\i = .int .i64 q/\Hid (Ex (wp.alloc (.cells #[.string y.name,.slice sa y.tz.length sc,.slice ma y.mz.length mc] 89)) wr)/\Hid (wr.ownsRow (wp.heap.size+1) 20 1 s10 (2+q) ((al2 y.name y.tz q).map anyV))) (fun _ i _=>y.tz.length-(intOf i).toNat)
     case atStart=>
      refine⟨0,by omega,rfl,cl0,?_⟩;have:=World.ownsRow_lit (base:=wp.heap.size+1) (e:=20) (size:=1) (wp.alloc (.cells #[.string y.name,.slice sa y.tz.length sc,.slice ma y.mz.length mc] 89)) #[anyV (.inr y.name),anyV (.inl y.tz.length)] 2 (by simp) (by decide) rfl
      simpa [al2,Hid,anyV] using this
     case round=>
      obtain⟨q,hq,rfl,hex4,hown⟩:=hrel;have hz4:=hex4.out.size;simp only [World.size_alloc] at hz4;have hexw:=(hexo.alloc (o:=.cells #[.string y.name,.slice sa y.tz.length sc,.slice ma y.mz.length mc] 89)).trans hex4.out;obtain⟨a4,cap4,rfl⟩:=aA8 hown.out;by_cases hlt4:q<y.tz.length
      ·obtain⟨st,b5,off5,hs5,rfl,_,d1,_⟩:=av6 hst hexw.same hlt4;have Hs:=Lib.hid (ba4 y.name y.tz q st hs5.out)
       go_wp2_with (at_builtin;refine wpList_append_own_at _ rfl _ _ 320 rfl (wp.heap.size+1) 20 i0 .nilIface 1 16 underlying320 hiA hzA hz1 hz2 rfl (by decide) (.slice a4 (2+q) cap4) _ _ rfl (hown.out.alloc _) ⟨wr.heap.size,0,none⟩ 1 1 [anyV (.inr st)] rfl rfl ?c1 ?c2 ?c3 ?c4 ?c5 ?_)
       case c1=>exact cell_one_new _ _ _
       case c2=>exact cd0 _
       case c3=>unfold maxLen;omega
       case c4=>omega
       case c5=>simp;omega
       intro v' w5 hown' hgrow _ hat;have hex5:=Lib.hid (Ex.appended (hex4.out.alloc (o:=.cells #[anyV (.inr st)] 20)) (hown.out.alloc _) (by simp) hgrow);have HO:Hid (w5.ownsRow (wp.heap.size+1) 20 1 v' (2+(q+1)) ((al2 y.name y.tz (q+1)).map anyV)):=by
        unfold Hid;rw [Hs.out,yB];exact hown'
       clear hown' hgrow hat hown;obtain⟨a5,cap5,rfl⟩:=aA8 HO.out
       go_wp2
       go_roundw
       case rel=>exact⟨q+1,by omega,by go_num,hex5,HO⟩
       case measure=>simp [intOf];omega
      ·obtain rfl:q=y.tz.length:=by omega
       have hpl:=aP8 y.name y.tz y.tz.length (zT _);have hi64:∀ m,Sum.inl m∈al2 y.name y.tz y.tz.length->I64 m:=by
        intro m hm;simp only [al2,zU,xM] at hm;rcases hm with h|h|⟨_,_,h⟩
        ·cases h
        ·cases h;unfold I64;omega
        ·cases h
       obtain⟨a6,cap6,hv6,hrow⟩:=aO0 (C:=fun x=>[anyV x]) (R:=RAny) (xs:=al2 y.name y.tz y.tz.length) hpl.symm (by rw [aV4];exact hown.out) (fun _ _=>rfl) (fun x hx=>by
        cases x with
        | inl m=>exact⟨rfl,hi64 m hx⟩
        | inr t=>rfl)
       rw [hpl] at hv6
       cases hv6
       have hB:=bx0 y.name y.tz;have hib:=af5 (y.tz.length:Int);have HLn:=Lib.hid (ba3 ⟨#[108,105,102,101]⟩ (al2 y.name y.tz y.tz.length) wr hrow (hp.ex hexw) (by rw [hpl];omega) (by rw [hB];show 4+_<=_;omega));rw [hpl,hB] at HLn;clear hpl hi64 hrow hB hown
       go_wp2_with fail
       refine HLn.out.mono ?_;rintro e w6 ⟨s6,rfl,hs6,he6⟩;have hs6':s6.size<=4+(2+y.name.size+intB y.tz.length+sumB (fun s=>1+s.size) y.tz)+1:=hs6
       go_wp2_with fail
       refine (au8 hs1.out bz s6 (by omega) (zT wp.heap.size) (((Ex.refl wp).alloc.trans hex4.out).trans he6) (by have:=hs1.out.1.size;obtain⟨_,n',O',hb',_⟩:=hs1.out;have:=hb'.lt;omega)).mono ?_;rintro e w7 ⟨rfl,hsrc7,hz7,hkeep⟩;have d3:=hkeep 2 (.slice ma y.mz.length mc) (he6.cell (hex4.out.cell (by simp)));have hsA:=Lib.hid (hsrc7.mono (m':=29+sumB kndB kz+sumB lifB (lz.take j3)+(7+y.name.size+intB y.tz.length+sumB (fun s=>1+s.size) y.tz)) (by omega));clear hsrc7 hkeep hex4 hexw he6 hs6
       go_wp2
       clear d3
       go_loopw [88] (fun i wr=>∃ q:Nat,q<=y.mz.length/\i = .int .i64 q/\Hid (SrcAt W1 (w.heap.size+1) (29+sumB kndB kz+sumB lifB (lz.take j3)+(7+y.name.size+intB y.tz.length+sumB (fun s=>1+s.size) y.tz)+sumB movB (y.mz.take q)) wr)) (fun i _=>y.mz.length-(intOf i).toNat)
       case atStart=>exact⟨0,by omega,rfl,by simpa [sumB,Hid] using hsA⟩
       case round=>
        obtain⟨q,hq,rfl,hs2⟩:=hrel;clear hsA;by_cases hlt2:q<y.mz.length
        ·have hexr:=hbx.trans hs2.out.1;obtain⟨mv,b2,off2,hf,rfl,_,e0,e1,hrf⟩:=bc2 hmv hexr.same hlt2;obtain⟨_,hm1,hm2⟩:=hrf.out;have Hf1:=Lib.hid (al4 movB y.mz q mv hf.out);have Hf2:=Lib.hid (ak9 movB y.mz (q+1));have hfb:sumB movB (y.mz.take q)+movB mv<=sumB movB y.mz:=by have h1:=Hf1.out;have h2:=Hf2.out;omega
         have hmb:movB mv=7+intB mv.1+intB mv.2:=rfl
         go_wp2_with fail
         refine (HL5.out _ _ _ _ hm1 hm2 cl0 (by simp)).mono ?_;rintro e w3 ⟨s2,rfl,hs2',he3⟩;have hsB:=hs2.out.ex ((Ex.refl _).alloc.trans he3);clear he3 e0 e1
         go_wp2_with fail
         refine (aN1 hsB bz s2 (by omega)).mono ?_;rintro e w4 ⟨rfl,hsC,_⟩;have hsD:=Lib.hid (hsC.mono (m':=29+sumB kndB kz+sumB lifB (lz.take j3)+(7+y.name.size+intB y.tz.length+sumB (fun s=>1+s.size) y.tz)+sumB movB (y.mz.take (q+1))) (by have h1:=Hf1.out;omega));clear hsB hsC
         go_wp2
         go_roundw
         case rel=>exact⟨q+1,by omega,by go_num,hsD⟩
         case measure=>simp [intOf];omega
        ·have hsE:=Lib.hid (hs2.out.mono (m':=29+sumB kndB kz+sumB lifB (lz.take (j3+1))) (by have h1:=Hk1.out;have e:y.mz.take q=y.mz:=yL (by omega);rw [e];omega))
         go_wp2
         go_roundw
         case rel=>exact⟨j3+1,by omega,by go_num,hsE⟩
         case measure=>simp [intOf];omega
    ·have hs4:=Lib.hid (hs1.out.mono (m':=29+sumB kndB kz+sumB lifB lz) (by have e:lz.take j3=lz:=yL (by omega);rw [e];omega));clear hs1;obtain⟨hc,hf⟩:=hs4.out.1.rules
     go_wp2
     clear hc hf
     go_loopw [106] (fun i wr=>∃ j:Nat,j<=rules.length/\i = .int .i64 j/\Hid (SrcAt W1 (w.heap.size+1) (29+sumB kndB kz+sumB lifB lz+sumB rulB (rules.take j)) wr)) (fun i _=>rules.length-(intOf i).toNat)
     case atStart=>exact⟨0,by omega,rfl,by simpa [sumB,Hid] using hs4.out⟩
     case round=>
      obtain⟨j6,hj6,rfl,hs1⟩:=hrel;clear hs4;by_cases hlt6:j6<rules.length
      ·have hexo:=hbx.trans hs1.out.1;obtain⟨y,b,off,hy,rfl,_,c0,c1,c2,c3,c4,hry⟩:=bc6 hr hexo.same hlt6;have hym:=zG hy.out;have hyS:=HX.out.rules y hym;have hn1:=hyS.name;have hn2:=hyS.kind;have hn3:=hyS.a;have hn4:=hyS.b;unfold SmS at hn1 hn2 hn3 hn4;obtain⟨_,hyn⟩:=hry.out;have Hk1:=Lib.hid (al4 rulB rules j6 y hy.out);have Hk2:=Lib.hid (ak9 rulB rules (j6+1));have hkb:29+sumB kndB kz+sumB lifB lz+sumB rulB (rules.take j6)+rulB y<=1000000:=by have h1:=Hk1.out;have h2:=Hk2.out;omega
       have hkb':rulB y=12+y.name.size+y.kind.size+y.a.size+y.b.size+intB y.n:=rfl;have hneB:wr.heap.size≠w.heap.size+1:=by obtain⟨_,n',O',hb',_⟩:=hs1.out;have:=hb'.lt;omega
       go_wp2
       go_region_held3 (fun W=>W.cell? ⟨wr.heap.size,0,none⟩=some (.string y.name)/\W.cell? ⟨wr.heap.size,1,none⟩=some (.string y.kind)/\W.cell? ⟨wr.heap.size,2,none⟩=some (.string y.a)/\W.cell? ⟨wr.heap.size,3,none⟩=some (.string y.b)/\W.cell? ⟨wr.heap.size,4,none⟩=some (.int .i64 y.n)) (go_keep)
        (first
         | (go_at_call 236;refine (aE5 _ _).mono ?_;rintro e w1 ⟨t,rfl,ht,hb1⟩;(have hq7:=ru7;(try clear hc hf);obtain⟨hb,hc,hf,hz⟩:=hq7;(try simp only [zsz7] at hz);(try have hz0:=z07 w w1);(try have hz1:=z17 w w1);(try have hz2:=z27 w w1)))
         | (go_at_call 234;refine (HL6.out _ _ _ _ _ _ _ hyn (by omega) cl0 (by first|rfl|simp)).mono ?_;rintro e w1 ⟨s6,rfl,hs6,hb1⟩;(have hq7:=ru7;(try clear hc hf);obtain⟨hb,hc,hf,hz⟩:=hq7;(try simp only [zsz7] at hz);(try have hz0:=z07 w w1);(try have hz1:=z17 w w1);(try have hz2:=z27 w w1)))
         | (go_at_call 163;refine (au8 hs1.out bz s6 (by omega) (zT wr.heap.size) cl0 hneB).mono ?_;rintro e w1 ⟨rfl,hsrc7,hz7,hkeep⟩;have k0:=hkeep 0 (.string y.name) (by rw [hc _ _ (by simp)];simp);have k1:=hkeep 1 (.string y.kind) (by rw [hc _ _ (by simp)];simp);have k2:=hkeep 2 (.string y.a) (by rw [hc _ _ (by simp)];simp);have k3:=hkeep 3 (.string y.b) (by rw [hc _ _ (by simp)];simp);have k4:=hkeep 4 (.int .i64 y.n) (by rw [hc _ _ (by simp)];simp);clear hkeep))
       all_goals
        have hsE:=Lib.hid (hsrc7.mono (m':=29+sumB kndB kz+sumB lifB lz+sumB rulB (rules.take (j6+1))) (by have h1:=Hk1.out;omega))
        go_wp2
        go_roundw
        case rel=>exact⟨j6+1,by omega,by go_num,hsE⟩
        case measure=>simp [intOf];omega
      ·have hs7:=Lib.hid (hs1.out.mono (m':=29+sumB kndB kz+sumB lifB lz+sumB rulB rules) (by have e:rules.take j6=rules:=yL (by omega);rw [e];omega));clear hs1;obtain⟨hex',n,O,⟨l,p,v,hl',hpp,hB,hbk,hown,hO,hne⟩,hnm⟩:=hs7.out;have hib:Lib.IsBuilder 266 5 (w.heap.size+1) (w.heap.size+1) (Lib.byteCells l) wr:=by
        rcases hpp with rfl|rfl
        ·exact .inl ⟨hB,v,hbk,by rw [an2];exact hown,by rw [hO];exact hne⟩
        ·exact .inr ⟨hB,v,hbk,by rw [an2];exact hown,by rw [hO];exact hne⟩
       have hexw:=hbx.trans hex';have HSt:=Lib.hid (Builder_String_any (w.heap.size+1) (w.heap.size+1) l wr hib (by have:=ax2 hbk;omega));have HL:=Lib.hid hl';clear hbk hown hO hib hpp hl'
       go_wp2_with fail
       refine HSt.out.mono ?_;rintro e w8 ⟨rfl,hb8⟩;have hex8:Ex w w8:=pA0 ⟨hb8.os.trans (Keep.os hexw),hb8.tape.trans (Keep.tape hexw),hb8.output.trans (Keep.output hexw),xH hexw.size hb8.size,fun k hk=>(hb8.block k (by omega)).trans (hexw.block k hk)⟩
       go_wp2
       go_ret
       refine⟨_,rfl,?_,hex8⟩;have h1:=HL.out
       show l.toArray.size<=srcB _;unfold srcB;simp only [List.size_toArray];omega
end
section
open Go.RowKit Go.Shelf
structure Laid (w:World):Prop where
 pow:Pow10 w
 words:WordsAt w
theorem Laid.ex {w w':World} (h:Laid w) (he:Ex w w'):Laid w':=⟨h.pow.ex he,h.words.ex he⟩
theorem bz7 (x:Sch) (w:World) {F:Nat->Prop} {ka la ra:Option Addr} {kc lc rc:Nat} (hver:I64 x.vz) (hk:RKnds w F x.kz ka kc) (hl:RLifs w F x.lz la lc) (hr:RRuls w F x.rules ra rc) (hx:ci9 x) (hsm:ag8 x=true->srcB x<=8192) (hg:Laid w) :
  Calls prog 143 #[.agg #[.int .i64 x.vz,.slice ka x.kz.length kc,.slice la x.lz.length lc,.slice ra x.rules.length rc]] w
   fun e w'=>e = .returned (.int .i64 (ad4 x))/\Ex w w':=by
 have hlk:=hx.nkinds;have hll:=hx.nlives;have hlr:=hx.nrules;have HK:=Lib.hid (fun (w':World) (he:Ex w w')=>ci3 (w0:=w) (F0:=F) (Row.keep (w':=w') hk he.same (fun _ h=>h) (fun _ _ _ h=>h)) (by omega) ((bk9 w hx.kz).mono he));have HL:=Lib.hid (fun (w':World) (he:Ex w w')=>ci2 (w0:=w) (F0:=F) (Row.keep (w':=w') hl he.same (fun _ h=>h) (fun _ _ _ h=>h)) (by omega) ((bk8 w hx.lz).mono he));have HR:=Lib.hid (fun (w':World) (he:Ex w w')=>ci1 (Row.keep (w':=w') hr he.same (fun _ h=>h) (fun _ _ _ h=>h)) (by omega) ((bk7 w hx.rules).mono he));have HV:=Lib.hid (fun h=>hsm h);have HS0:=Lib.hid (fun (hv:ag8 x=true) (w':World) (he:Ex w w')=>bu3 x w' hver (RKnds.keep he.same (fun _ h=>h) hk) (RLifs.keep he.same (fun _ h=>h) hl) (RRuls.keep he.same (fun _ h=>h) hr) hx hv (by have:=hsm hv;omega) (hg.pow.ex he) (hg.words.ex he));clear hx hsm hk hl hr;obtain⟨ver,kz,lz,rules⟩:=x;simp only at *
 cases h1:aa3 ver 0 1048576
 ·go_enter func143,ntmps143;go_wp2_with (first|(go_at_call 189;refine (ab6 _ _ _ _).mono ?_;rintro e w2 ⟨rfl,rfl⟩)|(go_at_call 190;refine (HK.out _ cl0).mono ?_;rintro e w1 ⟨rfl,hb1⟩;(have hq7:=ru7;(try clear hc hf);obtain⟨hb,hc,hf,hz⟩:=hq7;(try simp only [zsz7] at hz);(try have hz0:=z07 w w1);(try have hz1:=z17 w w1);(try have hz2:=z27 w w1)))|(go_at_call 192;refine (HL.out _ cl0).mono ?_;rintro e w1 ⟨rfl,hb1⟩;(have hq7:=ru7;(try clear hc hf);obtain⟨hb,hc,hf,hz⟩:=hq7;(try simp only [zsz7] at hz);(try have hz0:=z07 w w1);(try have hz1:=z17 w w1);(try have hz2:=z27 w w1)))|(go_at_call 194;refine (HR.out _ cl0).mono ?_;rintro e w1 ⟨rfl,hb1⟩;(have hq7:=ru7;(try clear hc hf);obtain⟨hb,hc,hf,hz⟩:=hq7;(try simp only [zsz7] at hz);(try have hz0:=z07 w w1);(try have hz1:=z17 w w1);(try have hz2:=z27 w w1)))|(go_at_call 196;refine (HS.out _ cl0).mono ?_;rintro e w1 ⟨s,rfl,hs,hb1⟩;(have hq7:=ru7;(try clear hc hf);obtain⟨hb,hc,hf,hz⟩:=hq7;(try simp only [zsz7] at hz);(try have hz0:=z07 w w1);(try have hz1:=z17 w w1);(try have hz2:=z27 w w1))));go_ret
  exact⟨az2 (by simp [ad4,ag8,h1]),cl0⟩
 by_cases h2:(kz.length:Int)<=6
 case neg=>
  go_enter func143,ntmps143;go_wp2_with (first|(go_at_call 189;refine (ab6 _ _ _ _).mono ?_;rintro e w2 ⟨rfl,rfl⟩)|(go_at_call 190;refine (HK.out _ cl0).mono ?_;rintro e w1 ⟨rfl,hb1⟩;(have hq7:=ru7;(try clear hc hf);obtain⟨hb,hc,hf,hz⟩:=hq7;(try simp only [zsz7] at hz);(try have hz0:=z07 w w1);(try have hz1:=z17 w w1);(try have hz2:=z27 w w1)))|(go_at_call 192;refine (HL.out _ cl0).mono ?_;rintro e w1 ⟨rfl,hb1⟩;(have hq7:=ru7;(try clear hc hf);obtain⟨hb,hc,hf,hz⟩:=hq7;(try simp only [zsz7] at hz);(try have hz0:=z07 w w1);(try have hz1:=z17 w w1);(try have hz2:=z27 w w1)))|(go_at_call 194;refine (HR.out _ cl0).mono ?_;rintro e w1 ⟨rfl,hb1⟩;(have hq7:=ru7;(try clear hc hf);obtain⟨hb,hc,hf,hz⟩:=hq7;(try simp only [zsz7] at hz);(try have hz0:=z07 w w1);(try have hz1:=z17 w w1);(try have hz2:=z27 w w1)))|(go_at_call 196;refine (HS.out _ cl0).mono ?_;rintro e w1 ⟨s,rfl,hs,hb1⟩;(have hq7:=ru7;(try clear hc hf);obtain⟨hb,hc,hf,hz⟩:=hq7;(try simp only [zsz7] at hz);(try have hz0:=z07 w w1);(try have hz1:=z17 w w1);(try have hz2:=z27 w w1))));go_ret
  exact⟨az2 (by simp [ad4,ag8];intros;omega),cl0⟩
 by_cases h3:(lz.length:Int)<=6
 case neg=>
  go_enter func143,ntmps143;go_wp2_with (first|(go_at_call 189;refine (ab6 _ _ _ _).mono ?_;rintro e w2 ⟨rfl,rfl⟩)|(go_at_call 190;refine (HK.out _ cl0).mono ?_;rintro e w1 ⟨rfl,hb1⟩;(have hq7:=ru7;(try clear hc hf);obtain⟨hb,hc,hf,hz⟩:=hq7;(try simp only [zsz7] at hz);(try have hz0:=z07 w w1);(try have hz1:=z17 w w1);(try have hz2:=z27 w w1)))|(go_at_call 192;refine (HL.out _ cl0).mono ?_;rintro e w1 ⟨rfl,hb1⟩;(have hq7:=ru7;(try clear hc hf);obtain⟨hb,hc,hf,hz⟩:=hq7;(try simp only [zsz7] at hz);(try have hz0:=z07 w w1);(try have hz1:=z17 w w1);(try have hz2:=z27 w w1)))|(go_at_call 194;refine (HR.out _ cl0).mono ?_;rintro e w1 ⟨rfl,hb1⟩;(have hq7:=ru7;(try clear hc hf);obtain⟨hb,hc,hf,hz⟩:=hq7;(try simp only [zsz7] at hz);(try have hz0:=z07 w w1);(try have hz1:=z17 w w1);(try have hz2:=z27 w w1)))|(go_at_call 196;refine (HS.out _ cl0).mono ?_;rintro e w1 ⟨s,rfl,hs,hb1⟩;(have hq7:=ru7;(try clear hc hf);obtain⟨hb,hc,hf,hz⟩:=hq7;(try simp only [zsz7] at hz);(try have hz0:=z07 w w1);(try have hz1:=z17 w w1);(try have hz2:=z27 w w1))));go_ret
  exact⟨az2 (by simp [ad4,ag8];intros;omega),cl0⟩
 by_cases h4:(rules.length:Int)<=16
 case neg=>
  go_enter func143,ntmps143;go_wp2_with (first|(go_at_call 189;refine (ab6 _ _ _ _).mono ?_;rintro e w2 ⟨rfl,rfl⟩)|(go_at_call 190;refine (HK.out _ cl0).mono ?_;rintro e w1 ⟨rfl,hb1⟩;(have hq7:=ru7;(try clear hc hf);obtain⟨hb,hc,hf,hz⟩:=hq7;(try simp only [zsz7] at hz);(try have hz0:=z07 w w1);(try have hz1:=z17 w w1);(try have hz2:=z27 w w1)))|(go_at_call 192;refine (HL.out _ cl0).mono ?_;rintro e w1 ⟨rfl,hb1⟩;(have hq7:=ru7;(try clear hc hf);obtain⟨hb,hc,hf,hz⟩:=hq7;(try simp only [zsz7] at hz);(try have hz0:=z07 w w1);(try have hz1:=z17 w w1);(try have hz2:=z27 w w1)))|(go_at_call 194;refine (HR.out _ cl0).mono ?_;rintro e w1 ⟨rfl,hb1⟩;(have hq7:=ru7;(try clear hc hf);obtain⟨hb,hc,hf,hz⟩:=hq7;(try simp only [zsz7] at hz);(try have hz0:=z07 w w1);(try have hz1:=z17 w w1);(try have hz2:=z27 w w1)))|(go_at_call 196;refine (HS.out _ cl0).mono ?_;rintro e w1 ⟨s,rfl,hs,hb1⟩;(have hq7:=ru7;(try clear hc hf);obtain⟨hb,hc,hf,hz⟩:=hq7;(try simp only [zsz7] at hz);(try have hz0:=z07 w w1);(try have hz1:=z17 w w1);(try have hz2:=z27 w w1))));go_ret
  exact⟨az2 (by simp [ad4,ag8];intros;omega),cl0⟩
 cases h5:kz.all ag5
 ·go_enter func143,ntmps143;go_wp2_with (first|(go_at_call 189;refine (ab6 _ _ _ _).mono ?_;rintro e w2 ⟨rfl,rfl⟩)|(go_at_call 190;refine (HK.out _ cl0).mono ?_;rintro e w1 ⟨rfl,hb1⟩;(have hq7:=ru7;(try clear hc hf);obtain⟨hb,hc,hf,hz⟩:=hq7;(try simp only [zsz7] at hz);(try have hz0:=z07 w w1);(try have hz1:=z17 w w1);(try have hz2:=z27 w w1)))|(go_at_call 192;refine (HL.out _ cl0).mono ?_;rintro e w1 ⟨rfl,hb1⟩;(have hq7:=ru7;(try clear hc hf);obtain⟨hb,hc,hf,hz⟩:=hq7;(try simp only [zsz7] at hz);(try have hz0:=z07 w w1);(try have hz1:=z17 w w1);(try have hz2:=z27 w w1)))|(go_at_call 194;refine (HR.out _ cl0).mono ?_;rintro e w1 ⟨rfl,hb1⟩;(have hq7:=ru7;(try clear hc hf);obtain⟨hb,hc,hf,hz⟩:=hq7;(try simp only [zsz7] at hz);(try have hz0:=z07 w w1);(try have hz1:=z17 w w1);(try have hz2:=z27 w w1)))|(go_at_call 196;refine (HS.out _ cl0).mono ?_;rintro e w1 ⟨s,rfl,hs,hb1⟩;(have hq7:=ru7;(try clear hc hf);obtain⟨hb,hc,hf,hz⟩:=hq7;(try simp only [zsz7] at hz);(try have hz0:=z07 w w1);(try have hz1:=z17 w w1);(try have hz2:=z27 w w1))));go_ret
  exact⟨az2 (by simp [ad4,ag8,h5]),cl0⟩
 cases h6:lz.all ag2
 ·go_enter func143,ntmps143;go_wp2_with (first|(go_at_call 189;refine (ab6 _ _ _ _).mono ?_;rintro e w2 ⟨rfl,rfl⟩)|(go_at_call 190;refine (HK.out _ cl0).mono ?_;rintro e w1 ⟨rfl,hb1⟩;(have hq7:=ru7;(try clear hc hf);obtain⟨hb,hc,hf,hz⟩:=hq7;(try simp only [zsz7] at hz);(try have hz0:=z07 w w1);(try have hz1:=z17 w w1);(try have hz2:=z27 w w1)))|(go_at_call 192;refine (HL.out _ cl0).mono ?_;rintro e w1 ⟨rfl,hb1⟩;(have hq7:=ru7;(try clear hc hf);obtain⟨hb,hc,hf,hz⟩:=hq7;(try simp only [zsz7] at hz);(try have hz0:=z07 w w1);(try have hz1:=z17 w w1);(try have hz2:=z27 w w1)))|(go_at_call 194;refine (HR.out _ cl0).mono ?_;rintro e w1 ⟨rfl,hb1⟩;(have hq7:=ru7;(try clear hc hf);obtain⟨hb,hc,hf,hz⟩:=hq7;(try simp only [zsz7] at hz);(try have hz0:=z07 w w1);(try have hz1:=z17 w w1);(try have hz2:=z27 w w1)))|(go_at_call 196;refine (HS.out _ cl0).mono ?_;rintro e w1 ⟨s,rfl,hs,hb1⟩;(have hq7:=ru7;(try clear hc hf);obtain⟨hb,hc,hf,hz⟩:=hq7;(try simp only [zsz7] at hz);(try have hz0:=z07 w w1);(try have hz1:=z17 w w1);(try have hz2:=z27 w w1))));go_ret
  exact⟨az2 (by simp [ad4,ag8,h6]),cl0⟩
 cases h7:rules.all an5
 ·go_enter func143,ntmps143;go_wp2_with (first|(go_at_call 189;refine (ab6 _ _ _ _).mono ?_;rintro e w2 ⟨rfl,rfl⟩)|(go_at_call 190;refine (HK.out _ cl0).mono ?_;rintro e w1 ⟨rfl,hb1⟩;(have hq7:=ru7;(try clear hc hf);obtain⟨hb,hc,hf,hz⟩:=hq7;(try simp only [zsz7] at hz);(try have hz0:=z07 w w1);(try have hz1:=z17 w w1);(try have hz2:=z27 w w1)))|(go_at_call 192;refine (HL.out _ cl0).mono ?_;rintro e w1 ⟨rfl,hb1⟩;(have hq7:=ru7;(try clear hc hf);obtain⟨hb,hc,hf,hz⟩:=hq7;(try simp only [zsz7] at hz);(try have hz0:=z07 w w1);(try have hz1:=z17 w w1);(try have hz2:=z27 w w1)))|(go_at_call 194;refine (HR.out _ cl0).mono ?_;rintro e w1 ⟨rfl,hb1⟩;(have hq7:=ru7;(try clear hc hf);obtain⟨hb,hc,hf,hz⟩:=hq7;(try simp only [zsz7] at hz);(try have hz0:=z07 w w1);(try have hz1:=z17 w w1);(try have hz2:=z27 w w1)))|(go_at_call 196;refine (HS.out _ cl0).mono ?_;rintro e w1 ⟨s,rfl,hs,hb1⟩;(have hq7:=ru7;(try clear hc hf);obtain⟨hb,hc,hf,hz⟩:=hq7;(try simp only [zsz7] at hz);(try have hz0:=z07 w w1);(try have hz1:=z17 w w1);(try have hz2:=z27 w w1))));go_ret
  exact⟨az2 (by simp [ad4,ag8,h7]),cl0⟩
 have hv:ag8 ⟨ver,kz,lz,rules⟩=true:=by
  simp only [ag8,h1,h5,h6,h7,Bool.true_and,Bool.and_true,zJ,zQ];omega
 have HS:=Lib.hid (HS0.out hv);have hsm:=HV.out hv;have HVv:=Lib.hid hv;clear HS0 HV hv
 go_enter func143,ntmps143;go_wp2_with (first|(go_at_call 189;refine (ab6 _ _ _ _).mono ?_;rintro e w2 ⟨rfl,rfl⟩)|(go_at_call 190;refine (HK.out _ cl0).mono ?_;rintro e w1 ⟨rfl,hb1⟩;(have hq7:=ru7;(try clear hc hf);obtain⟨hb,hc,hf,hz⟩:=hq7;(try simp only [zsz7] at hz);(try have hz0:=z07 w w1);(try have hz1:=z17 w w1);(try have hz2:=z27 w w1)))|(go_at_call 192;refine (HL.out _ cl0).mono ?_;rintro e w1 ⟨rfl,hb1⟩;(have hq7:=ru7;(try clear hc hf);obtain⟨hb,hc,hf,hz⟩:=hq7;(try simp only [zsz7] at hz);(try have hz0:=z07 w w1);(try have hz1:=z17 w w1);(try have hz2:=z27 w w1)))|(go_at_call 194;refine (HR.out _ cl0).mono ?_;rintro e w1 ⟨rfl,hb1⟩;(have hq7:=ru7;(try clear hc hf);obtain⟨hb,hc,hf,hz⟩:=hq7;(try simp only [zsz7] at hz);(try have hz0:=z07 w w1);(try have hz1:=z17 w w1);(try have hz2:=z27 w w1)))|(go_at_call 196;refine (HS.out _ cl0).mono ?_;rintro e w1 ⟨s,rfl,hs,hb1⟩;(have hq7:=ru7;(try clear hc hf);obtain⟨hb,hc,hf,hz⟩:=hq7;(try simp only [zsz7] at hz);(try have hz0:=z07 w w1);(try have hz1:=z17 w w1);(try have hz2:=z27 w w1))));go_ret
 exact⟨az2 (by simp [ad4,HVv.out]),cl0⟩
end
section
open Go
theorem aO1 {α:Type} {k:Nat} {g:α->List D} {R:α->List Value->Prop} {w:World} {O:Nat->Prop} {xs:List α} {v:Value} (h:Rd w O (.sl k (xs.map g)) v)
  (hR:∀ x∈xs,∀ us,RdL w O (g x) us->R x us):∃ a cap,v = .slice a xs.length cap/\Row k R w (fun _=>True) xs a cap:=by
 obtain⟨a,cap,vs,rfl,hle,hk,hc,hr⟩:=h.sl_inv;rw [zL] at hle ⊢;refine⟨a,cap,rfl,⟨hle,fun i x hx=>?_⟩⟩;have hgx:(xs.map g)[i]?=some (g x):=by rw [zP,hx];rfl
 obtain⟨b,off,ha,_,_,hcell⟩:=hc i _ hgx;have hl:(g x).length=k:=hk _ (zG hgx);refine⟨b,off,ha,trivial,(List.range k).map (vs i),by simp,hR x (zG hx) _ ⟨by simp [hl],fun j d u h1 h2=>?_⟩,fun j u hu=>?_⟩
 ·have hj:j<k:=by rw [← hl];exact (zE.1 h1).1
  simp [hj] at h2;subst h2;exact hr i _ hgx j d h1
 ·have hj:j<k:=by have:=(zE.1 hu).1;simpa using this
  simp [hj] at hu;subst hu;exact hcell j hj
theorem aB9 {n:Int} (h:-9223372036854775807<=n/\n<=9223372036854775807):I64 n:=⟨by omega,by omega⟩
variable {w:World} {O:Nat->Prop}
theorem bU6 {xs:List ByteArray} {v:Value} (h:Rd w O (slS xs) v):∃ a cap,v = .slice a xs.length cap/\ay5 w (fun _=>True) xs a cap:=
 aO1 h fun x _ us hu=>by
  obtain⟨u,us',rfl,h1,h2⟩:=ad6 hu;rw [av1 h2,h1.val rfl];rfl
theorem cr6 {xs:List Int} {v:Value} (hs:∀ n∈xs,-9223372036854775807<=n/\n<=9223372036854775807) (h:Rd w O (slI xs) v):∃ a cap,v = .slice a xs.length cap/\RInts w (fun _=>True) xs a cap:=
 aO1 h fun x hx us hu=>by
  obtain⟨u,us',rfl,h1,h2⟩:=ad6 hu;rw [av1 h2,h1.val rfl];exact⟨rfl,aB9 (hs x hx)⟩
theorem ct7 {f:Fld} {us:List Value} (hs:aB5 f) (hk:-9223372036854775807<=f.kind/\f.kind<=9223372036854775807) (h:RdL w O (fldC f) us):RFld w (fun _=>True) f us:=by
 obtain⟨u1,t1,rfl,h1,h⟩:=ad6 h;obtain⟨u2,t2,rfl,h2,h⟩:=ad6 h;obtain⟨u3,t3,rfl,h3,h⟩:=ad6 h;obtain⟨u4,t4,rfl,h4,h⟩:=ad6 h;obtain⟨u5,t5,rfl,h5,h⟩:=ad6 h;obtain⟨u6,t6,rfl,h6,h⟩:=ad6 h;obtain⟨u7,t7,rfl,h7,h⟩:=ad6 h;obtain⟨u8,t8,rfl,h8,hz⟩:=ad6 h;obtain rfl:=av1 hz;obtain⟨wa,wc,rfl,hw⟩:=bU6 h7;obtain⟨ga,gc,rfl,hg⟩:=cr6 hs.ws h8;rw [h1.val rfl,h2.val rfl,h3.val rfl,h4.val rfl,h5.val rfl,h6.val rfl];exact⟨wa,wc,ga,gc,rfl,aB9 hk,aB9 hs.lo,aB9 hs.hi,hw,hg⟩
theorem cr1 {k:Knd} {us:List Value} (hs:∀ f∈k.fields,aB5 f/\(-9223372036854775807<=f.kind/\f.kind<=9223372036854775807)) (hk:(-9223372036854775807<=k.lo/\k.lo<=9223372036854775807)/\(-9223372036854775807<=k.hi/\k.hi<=9223372036854775807)) (h:RdL w O (kndC k) us):RKnd w (fun _=>True) k us:=by
 obtain⟨u1,t1,rfl,h1,h⟩:=ad6 h;obtain⟨u2,t2,rfl,h2,h⟩:=ad6 h;obtain⟨u3,t3,rfl,h3,h⟩:=ad6 h;obtain⟨u4,t4,rfl,h4,hz⟩:=ad6 h;obtain rfl:=av1 hz;obtain⟨fa,fc,rfl,hf⟩:=aO1 (R:=RFld w (fun _=>True)) h4 fun f hf us hu=>ct7 (hs f hf).1 (hs f hf).2 hu;rw [h1.val rfl,h2.val rfl,h3.val rfl];exact⟨fa,fc,rfl,aB9 hk.1,aB9 hk.2,hf⟩
theorem cq1 {x:Lif} {us:List Value} (hm:∀ m∈x.mz,(-9223372036854775807<=m.1/\m.1<=9223372036854775807)/\(-9223372036854775807<=m.2/\m.2<=9223372036854775807)) (h:RdL w O (lifC x) us):RLif w (fun _=>True) x us:=by
 obtain⟨u1,t1,rfl,h1,h⟩:=ad6 h;obtain⟨u2,t2,rfl,h2,h⟩:=ad6 h;obtain⟨u3,t3,rfl,h3,hz⟩:=ad6 h;obtain rfl:=av1 hz;obtain⟨sa,sc,rfl,hs⟩:=bU6 h2;obtain⟨ma,mc,rfl,hmv⟩:=aO1 (R:=RTwo) h3 fun m hmm us hu=>by
  obtain⟨a,t,rfl,g1,hu⟩:=ad6 hu;obtain⟨b,t,rfl,g2,hu⟩:=ad6 hu;rw [av1 hu,g1.val rfl,g2.val rfl];exact⟨rfl,aB9 (hm m hmm).1,aB9 (hm m hmm).2⟩
 rw [h1.val rfl];exact⟨sa,sc,ma,mc,rfl,hs,hmv⟩
theorem cm4 {r:Rul} {us:List Value} (hn:-9223372036854775807<=r.n/\r.n<=9223372036854775807) (h:RdL w O (rulC r) us):RRul r us:=by
 obtain⟨u1,t1,rfl,h1,h⟩:=ad6 h;obtain⟨u2,t2,rfl,h2,h⟩:=ad6 h;obtain⟨u3,t3,rfl,h3,h⟩:=ad6 h;obtain⟨u4,t4,rfl,h4,h⟩:=ad6 h;obtain⟨u5,t5,rfl,h5,h⟩:=ad6 h;obtain rfl:=av1 h;rw [h1.val rfl,h2.val rfl,h3.val rfl,h4.val rfl,h5.val rfl];exact⟨rfl,aB9 hn⟩
theorem aN8 (x:Sch) (g:Good x):APure prog 143 [schD x] (iD (ad4 x)):=by
 refine⟨enters_of func143 (by kernel_rfl) rfl,fun w O vs hv hg=>?_⟩;obtain⟨v,t,rfl,h1,h⟩:=ad6 hv;rw [av1 h];obtain⟨us,rfl,hu⟩:=h1.agg_inv;obtain⟨u1,t1,rfl,k1,hu⟩:=ad6 hu;obtain⟨u2,t2,rfl,k2,hu⟩:=ad6 hu;obtain⟨u3,t3,rfl,k3,hu⟩:=ad6 hu;obtain⟨u4,t4,rfl,k4,hu⟩:=ad6 hu;rw [av1 hu,k1.val rfl];obtain⟨ka,kc,rfl,hk⟩:=aO1 (R:=RKnd w (fun _=>True)) k2 fun k hk us hu=>cr1 (g.fsane k hk) (g.ksane k hk) hu;obtain⟨la,lc,rfl,hl⟩:=aO1 (R:=RLif w (fun _=>True)) k3 fun k hk us hu=>cq1 (g.msane k hk) hu;obtain⟨ra,rc,rfl,hr⟩:=aO1 (R:=RRul) k4 fun k hk us hu=>cm4 (g.rsane k hk) hu;exact (bz7 x w (aB9 g.ver) hk hl hr g.sm g.src ⟨hg.pow,hg.words⟩).mono fun e w' ⟨e1,e2⟩=>⟨_,e1,.v _,e2⟩
end
end Go.Proofs.YtlcfiilejnnlnaaGreatDoor
