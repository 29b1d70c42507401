/- A part of the proof: Valid Br Eq So R09h Wv Pl Wg Ws Ww Su. -/
import Derived.Test.YtjbbmjjildhfbaaGreatDoorW24
import Derived.Laws.StructEq
import Derived.ChangeKeysEq
set_option maxRecDepth 100000
set_option maxHeartbeats 4000000
set_option linter.unusedVariables false
set_option linter.unusedSimpArgs false
namespace Go.Proofs.YtjbbmjjildhfbaaGreatDoor
section
open Go.RowKit Go.Shelf
structure Laid (w:World):Prop where
 pow:Pow10 w
 words:WordsAt w
theorem Laid.ex {w w':World} (h:Laid w) (he:Ex w w'):Laid w':=⟨h.pow.ex he,h.words.ex he⟩
theorem valid_any (x:Sch) (w:World) {F:Nat→Prop} {ka la ra:Option Addr} {kc lc rc:Nat} (hver:I64 x.version) (hk:RKnds w F x.kinds ka kc) (hl:RLifs w F x.lives la lc) (hr:RRuls w F x.rules ra rc) (hx:SmSch x) (hsm:ag5 x=true→srcB x≤8192) (hg:Laid w) :
  Calls Tryz.prog 81 #[.agg #[.int .i64 x.version,.slice ka x.kinds.length kc,.slice la x.lives.length lc,.slice ra x.rules.length rc]] w
   fun e w'=>e = .returned (.int .i64 (ac9 x))∧Ex w w':=by
 have hlk:=hx.nkinds
 have hll:=hx.nlives
 have hlr:=hx.nrules
 have HK:=Lib.hid (fun (w':World) (he:Ex w w')=>all_knd (w0:=w) (F0:=F) (Row.keep (w':=w') hk he.same (fun _ h=>h) (fun _ _ _ h=>h)) (by omega) ((isKind_asks w hx.kinds).mono he))
 have HL:=Lib.hid (fun (w':World) (he:Ex w w')=>all_lif (w0:=w) (F0:=F) (Row.keep (w':=w') hl he.same (fun _ h=>h) (fun _ _ _ h=>h)) (by omega) ((isLife_asks w hx.lives).mono he))
 have HR:=Lib.hid (fun (w':World) (he:Ex w w')=>all_rul (Row.keep (w':=w') hr he.same (fun _ h=>h) (fun _ _ _ h=>h)) (by omega) ((isRule_asks w hx.rules).mono he))
 have HV:=Lib.hid (fun h=>hsm h)
 have HS0:=Lib.hid (fun (hv:ag5 x=true) (w':World) (he:Ex w w')=>source_any x w' hver (RKnds.keep he.same (fun _ h=>h) hk) (RLifs.keep he.same (fun _ h=>h) hl) (RRuls.keep he.same (fun _ h=>h) hr) hx hv (by have:=hsm hv;omega) (hg.pow.ex he) (hg.words.ex he))
 clear hx hsm hk hl hr
 obtain ⟨ver,kinds,lives,rules⟩:=x
 simp only at *
 cases h1:ab5 ver 0 1048576
 ·go_enter Tryz.func81,Tryz.ntmps81;go_wp2_with (first|(go_at_call 107;refine (ab1 _ _ _ _).mono ?_;rintro e w2 ⟨rfl,rfl⟩)|(go_at_call 108;refine (HK.out _ cl0).mono ?_;rintro e w1 ⟨rfl,hb1⟩;(have hq7:=ru7;(try clear hc hf);obtain ⟨hb,hc,hf,hz⟩:=hq7;(try simp only [zsz7] at hz);(try have hz0:=z07 w w1);(try have hz1:=z17 w w1);(try have hz2:=z27 w w1)))|(go_at_call 110;refine (HL.out _ cl0).mono ?_;rintro e w1 ⟨rfl,hb1⟩;(have hq7:=ru7;(try clear hc hf);obtain ⟨hb,hc,hf,hz⟩:=hq7;(try simp only [zsz7] at hz);(try have hz0:=z07 w w1);(try have hz1:=z17 w w1);(try have hz2:=z27 w w1)))|(go_at_call 112;refine (HR.out _ cl0).mono ?_;rintro e w1 ⟨rfl,hb1⟩;(have hq7:=ru7;(try clear hc hf);obtain ⟨hb,hc,hf,hz⟩:=hq7;(try simp only [zsz7] at hz);(try have hz0:=z07 w w1);(try have hz1:=z17 w w1);(try have hz2:=z27 w w1)))|(go_at_call 114;refine (HS.out _ cl0).mono ?_;rintro e w1 ⟨s,rfl,hs,hb1⟩;(have hq7:=ru7;(try clear hc hf);obtain ⟨hb,hc,hf,hz⟩:=hq7;(try simp only [zsz7] at hz);(try have hz0:=z07 w w1);(try have hz1:=z17 w w1);(try have hz2:=z27 w w1))));go_ret
  exact ⟨az9 (by simp [ac9,ag5,h1]),cl0⟩
 by_cases h2:(kinds.length:Int)≤6
 case neg=>
  go_enter Tryz.func81,Tryz.ntmps81;go_wp2_with (first|(go_at_call 107;refine (ab1 _ _ _ _).mono ?_;rintro e w2 ⟨rfl,rfl⟩)|(go_at_call 108;refine (HK.out _ cl0).mono ?_;rintro e w1 ⟨rfl,hb1⟩;(have hq7:=ru7;(try clear hc hf);obtain ⟨hb,hc,hf,hz⟩:=hq7;(try simp only [zsz7] at hz);(try have hz0:=z07 w w1);(try have hz1:=z17 w w1);(try have hz2:=z27 w w1)))|(go_at_call 110;refine (HL.out _ cl0).mono ?_;rintro e w1 ⟨rfl,hb1⟩;(have hq7:=ru7;(try clear hc hf);obtain ⟨hb,hc,hf,hz⟩:=hq7;(try simp only [zsz7] at hz);(try have hz0:=z07 w w1);(try have hz1:=z17 w w1);(try have hz2:=z27 w w1)))|(go_at_call 112;refine (HR.out _ cl0).mono ?_;rintro e w1 ⟨rfl,hb1⟩;(have hq7:=ru7;(try clear hc hf);obtain ⟨hb,hc,hf,hz⟩:=hq7;(try simp only [zsz7] at hz);(try have hz0:=z07 w w1);(try have hz1:=z17 w w1);(try have hz2:=z27 w w1)))|(go_at_call 114;refine (HS.out _ cl0).mono ?_;rintro e w1 ⟨s,rfl,hs,hb1⟩;(have hq7:=ru7;(try clear hc hf);obtain ⟨hb,hc,hf,hz⟩:=hq7;(try simp only [zsz7] at hz);(try have hz0:=z07 w w1);(try have hz1:=z17 w w1);(try have hz2:=z27 w w1))));go_ret
  exact ⟨az9 (by simp [ac9,ag5];intros;omega),cl0⟩
 by_cases h3:(lives.length:Int)≤6
 case neg=>
  go_enter Tryz.func81,Tryz.ntmps81;go_wp2_with (first|(go_at_call 107;refine (ab1 _ _ _ _).mono ?_;rintro e w2 ⟨rfl,rfl⟩)|(go_at_call 108;refine (HK.out _ cl0).mono ?_;rintro e w1 ⟨rfl,hb1⟩;(have hq7:=ru7;(try clear hc hf);obtain ⟨hb,hc,hf,hz⟩:=hq7;(try simp only [zsz7] at hz);(try have hz0:=z07 w w1);(try have hz1:=z17 w w1);(try have hz2:=z27 w w1)))|(go_at_call 110;refine (HL.out _ cl0).mono ?_;rintro e w1 ⟨rfl,hb1⟩;(have hq7:=ru7;(try clear hc hf);obtain ⟨hb,hc,hf,hz⟩:=hq7;(try simp only [zsz7] at hz);(try have hz0:=z07 w w1);(try have hz1:=z17 w w1);(try have hz2:=z27 w w1)))|(go_at_call 112;refine (HR.out _ cl0).mono ?_;rintro e w1 ⟨rfl,hb1⟩;(have hq7:=ru7;(try clear hc hf);obtain ⟨hb,hc,hf,hz⟩:=hq7;(try simp only [zsz7] at hz);(try have hz0:=z07 w w1);(try have hz1:=z17 w w1);(try have hz2:=z27 w w1)))|(go_at_call 114;refine (HS.out _ cl0).mono ?_;rintro e w1 ⟨s,rfl,hs,hb1⟩;(have hq7:=ru7;(try clear hc hf);obtain ⟨hb,hc,hf,hz⟩:=hq7;(try simp only [zsz7] at hz);(try have hz0:=z07 w w1);(try have hz1:=z17 w w1);(try have hz2:=z27 w w1))));go_ret
  exact ⟨az9 (by simp [ac9,ag5];intros;omega),cl0⟩
 by_cases h4:(rules.length:Int)≤16
 case neg=>
  go_enter Tryz.func81,Tryz.ntmps81;go_wp2_with (first|(go_at_call 107;refine (ab1 _ _ _ _).mono ?_;rintro e w2 ⟨rfl,rfl⟩)|(go_at_call 108;refine (HK.out _ cl0).mono ?_;rintro e w1 ⟨rfl,hb1⟩;(have hq7:=ru7;(try clear hc hf);obtain ⟨hb,hc,hf,hz⟩:=hq7;(try simp only [zsz7] at hz);(try have hz0:=z07 w w1);(try have hz1:=z17 w w1);(try have hz2:=z27 w w1)))|(go_at_call 110;refine (HL.out _ cl0).mono ?_;rintro e w1 ⟨rfl,hb1⟩;(have hq7:=ru7;(try clear hc hf);obtain ⟨hb,hc,hf,hz⟩:=hq7;(try simp only [zsz7] at hz);(try have hz0:=z07 w w1);(try have hz1:=z17 w w1);(try have hz2:=z27 w w1)))|(go_at_call 112;refine (HR.out _ cl0).mono ?_;rintro e w1 ⟨rfl,hb1⟩;(have hq7:=ru7;(try clear hc hf);obtain ⟨hb,hc,hf,hz⟩:=hq7;(try simp only [zsz7] at hz);(try have hz0:=z07 w w1);(try have hz1:=z17 w w1);(try have hz2:=z27 w w1)))|(go_at_call 114;refine (HS.out _ cl0).mono ?_;rintro e w1 ⟨s,rfl,hs,hb1⟩;(have hq7:=ru7;(try clear hc hf);obtain ⟨hb,hc,hf,hz⟩:=hq7;(try simp only [zsz7] at hz);(try have hz0:=z07 w w1);(try have hz1:=z17 w w1);(try have hz2:=z27 w w1))));go_ret
  exact ⟨az9 (by simp [ac9,ag5];intros;omega),cl0⟩
 cases h5:kinds.all ag2
 ·go_enter Tryz.func81,Tryz.ntmps81;go_wp2_with (first|(go_at_call 107;refine (ab1 _ _ _ _).mono ?_;rintro e w2 ⟨rfl,rfl⟩)|(go_at_call 108;refine (HK.out _ cl0).mono ?_;rintro e w1 ⟨rfl,hb1⟩;(have hq7:=ru7;(try clear hc hf);obtain ⟨hb,hc,hf,hz⟩:=hq7;(try simp only [zsz7] at hz);(try have hz0:=z07 w w1);(try have hz1:=z17 w w1);(try have hz2:=z27 w w1)))|(go_at_call 110;refine (HL.out _ cl0).mono ?_;rintro e w1 ⟨rfl,hb1⟩;(have hq7:=ru7;(try clear hc hf);obtain ⟨hb,hc,hf,hz⟩:=hq7;(try simp only [zsz7] at hz);(try have hz0:=z07 w w1);(try have hz1:=z17 w w1);(try have hz2:=z27 w w1)))|(go_at_call 112;refine (HR.out _ cl0).mono ?_;rintro e w1 ⟨rfl,hb1⟩;(have hq7:=ru7;(try clear hc hf);obtain ⟨hb,hc,hf,hz⟩:=hq7;(try simp only [zsz7] at hz);(try have hz0:=z07 w w1);(try have hz1:=z17 w w1);(try have hz2:=z27 w w1)))|(go_at_call 114;refine (HS.out _ cl0).mono ?_;rintro e w1 ⟨s,rfl,hs,hb1⟩;(have hq7:=ru7;(try clear hc hf);obtain ⟨hb,hc,hf,hz⟩:=hq7;(try simp only [zsz7] at hz);(try have hz0:=z07 w w1);(try have hz1:=z17 w w1);(try have hz2:=z27 w w1))));go_ret
  exact ⟨az9 (by simp [ac9,ag5,h5]),cl0⟩
 cases h6:lives.all ag7
 ·go_enter Tryz.func81,Tryz.ntmps81;go_wp2_with (first|(go_at_call 107;refine (ab1 _ _ _ _).mono ?_;rintro e w2 ⟨rfl,rfl⟩)|(go_at_call 108;refine (HK.out _ cl0).mono ?_;rintro e w1 ⟨rfl,hb1⟩;(have hq7:=ru7;(try clear hc hf);obtain ⟨hb,hc,hf,hz⟩:=hq7;(try simp only [zsz7] at hz);(try have hz0:=z07 w w1);(try have hz1:=z17 w w1);(try have hz2:=z27 w w1)))|(go_at_call 110;refine (HL.out _ cl0).mono ?_;rintro e w1 ⟨rfl,hb1⟩;(have hq7:=ru7;(try clear hc hf);obtain ⟨hb,hc,hf,hz⟩:=hq7;(try simp only [zsz7] at hz);(try have hz0:=z07 w w1);(try have hz1:=z17 w w1);(try have hz2:=z27 w w1)))|(go_at_call 112;refine (HR.out _ cl0).mono ?_;rintro e w1 ⟨rfl,hb1⟩;(have hq7:=ru7;(try clear hc hf);obtain ⟨hb,hc,hf,hz⟩:=hq7;(try simp only [zsz7] at hz);(try have hz0:=z07 w w1);(try have hz1:=z17 w w1);(try have hz2:=z27 w w1)))|(go_at_call 114;refine (HS.out _ cl0).mono ?_;rintro e w1 ⟨s,rfl,hs,hb1⟩;(have hq7:=ru7;(try clear hc hf);obtain ⟨hb,hc,hf,hz⟩:=hq7;(try simp only [zsz7] at hz);(try have hz0:=z07 w w1);(try have hz1:=z17 w w1);(try have hz2:=z27 w w1))));go_ret
  exact ⟨az9 (by simp [ac9,ag5,h6]),cl0⟩
 cases h7:rules.all an3
 ·go_enter Tryz.func81,Tryz.ntmps81;go_wp2_with (first|(go_at_call 107;refine (ab1 _ _ _ _).mono ?_;rintro e w2 ⟨rfl,rfl⟩)|(go_at_call 108;refine (HK.out _ cl0).mono ?_;rintro e w1 ⟨rfl,hb1⟩;(have hq7:=ru7;(try clear hc hf);obtain ⟨hb,hc,hf,hz⟩:=hq7;(try simp only [zsz7] at hz);(try have hz0:=z07 w w1);(try have hz1:=z17 w w1);(try have hz2:=z27 w w1)))|(go_at_call 110;refine (HL.out _ cl0).mono ?_;rintro e w1 ⟨rfl,hb1⟩;(have hq7:=ru7;(try clear hc hf);obtain ⟨hb,hc,hf,hz⟩:=hq7;(try simp only [zsz7] at hz);(try have hz0:=z07 w w1);(try have hz1:=z17 w w1);(try have hz2:=z27 w w1)))|(go_at_call 112;refine (HR.out _ cl0).mono ?_;rintro e w1 ⟨rfl,hb1⟩;(have hq7:=ru7;(try clear hc hf);obtain ⟨hb,hc,hf,hz⟩:=hq7;(try simp only [zsz7] at hz);(try have hz0:=z07 w w1);(try have hz1:=z17 w w1);(try have hz2:=z27 w w1)))|(go_at_call 114;refine (HS.out _ cl0).mono ?_;rintro e w1 ⟨s,rfl,hs,hb1⟩;(have hq7:=ru7;(try clear hc hf);obtain ⟨hb,hc,hf,hz⟩:=hq7;(try simp only [zsz7] at hz);(try have hz0:=z07 w w1);(try have hz1:=z17 w w1);(try have hz2:=z27 w w1))));go_ret
  exact ⟨az9 (by simp [ac9,ag5,h7]),cl0⟩
 have hv:ag5 ⟨ver,kinds,lives,rules⟩=true:=by
  simp only [ag5,h1,h5,h6,h7,Bool.true_and,Bool.and_true,Bool.and_eq_true,decide_eq_true_eq];omega
 have HS:=Lib.hid (HS0.out hv)
 have hsm:=HV.out hv
 have HVv:=Lib.hid hv
 clear HS0 HV hv
 go_enter Tryz.func81,Tryz.ntmps81;go_wp2_with (first|(go_at_call 107;refine (ab1 _ _ _ _).mono ?_;rintro e w2 ⟨rfl,rfl⟩)|(go_at_call 108;refine (HK.out _ cl0).mono ?_;rintro e w1 ⟨rfl,hb1⟩;(have hq7:=ru7;(try clear hc hf);obtain ⟨hb,hc,hf,hz⟩:=hq7;(try simp only [zsz7] at hz);(try have hz0:=z07 w w1);(try have hz1:=z17 w w1);(try have hz2:=z27 w w1)))|(go_at_call 110;refine (HL.out _ cl0).mono ?_;rintro e w1 ⟨rfl,hb1⟩;(have hq7:=ru7;(try clear hc hf);obtain ⟨hb,hc,hf,hz⟩:=hq7;(try simp only [zsz7] at hz);(try have hz0:=z07 w w1);(try have hz1:=z17 w w1);(try have hz2:=z27 w w1)))|(go_at_call 112;refine (HR.out _ cl0).mono ?_;rintro e w1 ⟨rfl,hb1⟩;(have hq7:=ru7;(try clear hc hf);obtain ⟨hb,hc,hf,hz⟩:=hq7;(try simp only [zsz7] at hz);(try have hz0:=z07 w w1);(try have hz1:=z17 w w1);(try have hz2:=z27 w w1)))|(go_at_call 114;refine (HS.out _ cl0).mono ?_;rintro e w1 ⟨s,rfl,hs,hb1⟩;(have hq7:=ru7;(try clear hc hf);obtain ⟨hb,hc,hf,hz⟩:=hq7;(try simp only [zsz7] at hz);(try have hz0:=z07 w w1);(try have hz1:=z17 w w1);(try have hz2:=z27 w w1))));go_ret
 exact ⟨az9 (by simp [ac9,HVv.out]),cl0⟩
end
section
open Go
theorem ad9 {w:World} {O:Nat→Prop} {d:D} {ds:List D} {us:List Value} (h:RdL w O (d :: ds) us):∃ u us',us=u :: us'∧Rd w O d u∧RdL w O ds us':=by
 cases us with
 | nil=>have:=h.len;simp at this
 | cons u us'=>exact ⟨u,us',rfl,h.at_ 0 _ _ rfl rfl,⟨by have:=h.len;simpa using this,fun j d u h1 h2=>h.at_ (j+1) d u (by simpa using h1) (by simpa using h2)⟩⟩
theorem ay3 {w:World} {O:Nat→Prop} {us:List Value} (h:RdL w O [] us):us=[]:=by
 have:=h.len;exact List.eq_nil_of_length_eq_zero (by simpa using this)
theorem aO5 {α:Type} {k:Nat} {g:α→List D} {R:α→List Value→Prop} {w:World} {O:Nat→Prop} {xs:List α} {v:Value} (h:Rd w O (.sl k (xs.map g)) v)
  (hR:∀ x∈xs,∀ us,RdL w O (g x) us→R x us):∃ a cap,v = .slice a xs.length cap∧Row k R w (fun _=>True) xs a cap:=by
 obtain ⟨a,cap,vs,rfl,hle,hk,hc,hr⟩:=h.sl_inv
 rw [List.length_map] at hle ⊢
 refine ⟨a,cap,rfl,⟨hle,fun i x hx=>?_⟩⟩
 have hgx:(xs.map g)[i]?=some (g x):=by rw [List.getElem?_map,hx];rfl
 obtain ⟨b,off,ha,_,_,hcell⟩:=hc i _ hgx
 have hl:(g x).length=k:=hk _ (List.mem_of_getElem? hgx)
 refine ⟨b,off,ha,trivial,(List.range k).map (vs i),by simp,hR x (List.mem_of_getElem? hx) _ ⟨by simp [hl],fun j d u h1 h2=>?_⟩,fun j u hu=>?_⟩
 ·have hj:j<k:=by rw [← hl];exact (List.getElem?_eq_some_iff.1 h1).1
  simp [hj] at h2
  subst h2
  exact hr i _ hgx j d h1
 ·have hj:j<k:=by have:=(List.getElem?_eq_some_iff.1 hu).1;simpa using this
  simp [hj] at hu
  subst hu
  exact hcell j hj
theorem aC4 {n:Int} (h:-9223372036854775807≤n∧n≤9223372036854775807):I64 n:=⟨by omega,by omega⟩
variable {w:World} {O:Nat→Prop}
theorem str_of {xs:List ByteArray} {v:Value} (h:Rd w O (slS xs) v):∃ a cap,v = .slice a xs.length cap∧az4 w (fun _=>True) xs a cap:=
 aO5 h fun x _ us hu=>by
  obtain ⟨u,us',rfl,h1,h2⟩:=ad9 hu
  rw [ay3 h2,h1.val rfl];rfl
theorem int_of {xs:List Int} {v:Value} (hs:∀ n∈xs,-9223372036854775807≤n∧n≤9223372036854775807) (h:Rd w O (slI xs) v):∃ a cap,v = .slice a xs.length cap∧RInts w (fun _=>True) xs a cap:=
 aO5 h fun x hx us hu=>by
  obtain ⟨u,us',rfl,h1,h2⟩:=ad9 hu
  rw [ay3 h2,h1.val rfl];exact ⟨rfl,aC4 (hs x hx)⟩
theorem fld_of {f:Fld} {us:List Value} (hs:aC1 f) (hk:-9223372036854775807≤f.kind∧f.kind≤9223372036854775807) (h:RdL w O (fldC f) us):RFld w (fun _=>True) f us:=by
 obtain ⟨u1,t1,rfl,h1,h⟩:=ad9 h
 obtain ⟨u2,t2,rfl,h2,h⟩:=ad9 h
 obtain ⟨u3,t3,rfl,h3,h⟩:=ad9 h
 obtain ⟨u4,t4,rfl,h4,h⟩:=ad9 h
 obtain ⟨u5,t5,rfl,h5,h⟩:=ad9 h
 obtain ⟨u6,t6,rfl,h6,h⟩:=ad9 h
 obtain ⟨u7,t7,rfl,h7,h⟩:=ad9 h
 obtain ⟨u8,t8,rfl,h8,hz⟩:=ad9 h
 obtain rfl:=ay3 hz
 obtain ⟨wa,wc,rfl,hw⟩:=str_of h7
 obtain ⟨ga,gc,rfl,hg⟩:=int_of hs.ws h8
 rw [h1.val rfl,h2.val rfl,h3.val rfl,h4.val rfl,h5.val rfl,h6.val rfl]
 exact ⟨wa,wc,ga,gc,rfl,aC4 hk,aC4 hs.lo,aC4 hs.hi,hw,hg⟩
theorem knd_of {k:Knd} {us:List Value} (hs:∀ f∈k.fields,aC1 f∧(-9223372036854775807≤f.kind∧f.kind≤9223372036854775807)) (hk:(-9223372036854775807≤k.lo∧k.lo≤9223372036854775807)∧(-9223372036854775807≤k.hi∧k.hi≤9223372036854775807)) (h:RdL w O (kndC k) us):RKnd w (fun _=>True) k us:=by
 obtain ⟨u1,t1,rfl,h1,h⟩:=ad9 h
 obtain ⟨u2,t2,rfl,h2,h⟩:=ad9 h
 obtain ⟨u3,t3,rfl,h3,h⟩:=ad9 h
 obtain ⟨u4,t4,rfl,h4,hz⟩:=ad9 h
 obtain rfl:=ay3 hz
 obtain ⟨fa,fc,rfl,hf⟩:=aO5 (R:=RFld w (fun _=>True)) h4 fun f hf us hu=>fld_of (hs f hf).1 (hs f hf).2 hu
 rw [h1.val rfl,h2.val rfl,h3.val rfl]
 exact ⟨fa,fc,rfl,aC4 hk.1,aC4 hk.2,hf⟩
theorem lif_of {x:Lif} {us:List Value} (hm:∀ m∈x.moves,(-9223372036854775807≤m.1∧m.1≤9223372036854775807)∧(-9223372036854775807≤m.2∧m.2≤9223372036854775807)) (h:RdL w O (lifC x) us):RLif w (fun _=>True) x us:=by
 obtain ⟨u1,t1,rfl,h1,h⟩:=ad9 h
 obtain ⟨u2,t2,rfl,h2,h⟩:=ad9 h
 obtain ⟨u3,t3,rfl,h3,hz⟩:=ad9 h
 obtain rfl:=ay3 hz
 obtain ⟨sa,sc,rfl,hs⟩:=str_of h2
 obtain ⟨ma,mc,rfl,hmv⟩:=aO5 (R:=RTwo) h3 fun m hmm us hu=>by
  obtain ⟨a,t,rfl,g1,hu⟩:=ad9 hu
  obtain ⟨b,t,rfl,g2,hu⟩:=ad9 hu
  rw [ay3 hu,g1.val rfl,g2.val rfl]
  exact ⟨rfl,aC4 (hm m hmm).1,aC4 (hm m hmm).2⟩
 rw [h1.val rfl]
 exact ⟨sa,sc,ma,mc,rfl,hs,hmv⟩
theorem rul_of {r:Rul} {us:List Value} (hn:-9223372036854775807≤r.n∧r.n≤9223372036854775807) (h:RdL w O (rulC r) us):RRul r us:=by
 obtain ⟨u1,t1,rfl,h1,h⟩:=ad9 h
 obtain ⟨u2,t2,rfl,h2,h⟩:=ad9 h
 obtain ⟨u3,t3,rfl,h3,h⟩:=ad9 h
 obtain ⟨u4,t4,rfl,h4,h⟩:=ad9 h
 obtain ⟨u5,t5,rfl,h5,h⟩:=ad9 h
 obtain rfl:=ay3 h
 rw [h1.val rfl,h2.val rfl,h3.val rfl,h4.val rfl,h5.val rfl]
 exact ⟨rfl,aC4 hn⟩
theorem bd6 (x:Sch) (g:Good x):APure Tryz.prog 81 [schD x] (iD (ac9 x)):=by
 refine ⟨enters_of Tryz.func81 (by kernel_rfl) rfl,fun w O vs hv hg=>?_⟩
 obtain ⟨v,t,rfl,h1,h⟩:=ad9 hv
 rw [ay3 h]
 obtain ⟨us,rfl,hu⟩:=h1.agg_inv
 obtain ⟨u1,t1,rfl,k1,hu⟩:=ad9 hu
 obtain ⟨u2,t2,rfl,k2,hu⟩:=ad9 hu
 obtain ⟨u3,t3,rfl,k3,hu⟩:=ad9 hu
 obtain ⟨u4,t4,rfl,k4,hu⟩:=ad9 hu
 rw [ay3 hu,k1.val rfl]
 obtain ⟨ka,kc,rfl,hk⟩:=aO5 (R:=RKnd w (fun _=>True)) k2 fun k hk us hu=>knd_of (g.fsane k hk) (g.ksane k hk) hu
 obtain ⟨la,lc,rfl,hl⟩:=aO5 (R:=RLif w (fun _=>True)) k3 fun k hk us hu=>lif_of (g.msane k hk) hu
 obtain ⟨ra,rc,rfl,hr⟩:=aO5 (R:=RRul) k4 fun k hk us hu=>rul_of (g.rsane k hk) hu
 exact (valid_any x w (aC4 g.ver) hk hl hr g.sm g.src ⟨hg.pow,hg.words⟩).mono fun e w' ⟨e1,e2⟩=>⟨_,e1,.v _,e2⟩
end
section
open Go Go.RowKit Go.Shelf
theorem at_flds:∃ f0 f1:Field,Tryz.prog.underlying 33=some (.struct #[f0,f1])∧f0.name ≠ "_" ∧ f1.name ≠ "_" ∧ f0.type=3∧f1.type=3∧f0.offset=0∧f1.offset=1:=
 ⟨_,_,Tryz.underlying33,by decide,by decide,rfl,rfl,rfl,rfl⟩
theorem int_pl:Tryz.prog.plainKey 3=true:=by kernel_rfl
theorem at_held:Tryz.prog.stoodInHeld 33=false:=by kernel_rfl
theorem at_guard:Tryz.prog.eqGuardType Tryz.prog.depth 33=false:=by kernel_rfl
theorem run_at_eq (w:World) (a1 a2 c1 c2:Int):(Op.equalIn 10000 33 (.agg #[.int .i64 a1,.int .i64 a2]) (.agg #[.int .i64 c1,.int .i64 c2])).run Tryz.prog w = .ok ((a1 == c1) && (a2 == c2)) w:=by
 obtain ⟨f0,f1,hu,n0,n1,t0,t1,o0,o1⟩:=at_flds
 have hf:Tryz.prog.fieldsOf 33 = #[f0,f1]:=by simp [Program.fieldsOf,hu]
 have p0:∀ x y:Int,(Go.part 3 #[.int .i64 x,.int .i64 y] 0).run Tryz.prog w = .ok (.int .i64 x) w:=fun x y=>run_part_plain w int_pl rfl
 have p1:∀ x y:Int,(Go.part 3 #[.int .i64 x,.int .i64 y] 1).run Tryz.prog w = .ok (.int .i64 y) w:=fun x y=>run_part_plain w int_pl rfl
 have q:∀ x y:Int,(Op.equalIn 9999 3 (.int .i64 x) (.int .i64 y)).run Tryz.prog w = .ok (x == y) w:=fun x y=>run_equalIn_int w 9998 _ _ _ _ _ Tryz.underlying3
 rw [show (10000:Nat)=9999+1 from rfl,run_equalIn_agg w 9999 _ _ _ (by rw [hf];exact hu) at_held,hf]
 simp only [Op.eqFields,if_pos n0,if_pos n1,t0,t1,o0,o1,Sem.run_bind,Result.andThen,p0,p1,q,Sem.run_ite,Sem.run_pure]
 cases (a1 == c1) <;> cases (a2 == c2) <;> rfl
theorem be3 {w:World} {O:Nat→Prop} {u:Value} {a b:Int} (h:Rd w O (.agg [.v (.int .i64 a),.v (.int .i64 b)]) u):u = .agg #[.int .i64 a,.int .i64 b]:=by
 obtain ⟨vs,rfl,hv⟩:=h.agg_inv
 have hl:=hv.len
 match vs,hl,hv with
 | [x,y],_,hv=>
  rw [(hv.at_ 0 _ _ rfl rfl).val rfl,(hv.at_ 1 _ _ rfl rfl).val rfl]
section
variable {ρ:Operand→D} {σ:aa1}
theorem yd_ateq {o:Oper} {t':TypeId} {x y:Operand} {a1 a2 c1 c2:Int} (ho:o.op = .binOp .eql 33 x y t') (hx:ρ x = .agg [.v (.int .i64 a1),.v (.int .i64 a2)]) (hy:ρ y = .agg [.v (.int .i64 c1),.v (.int .i64 c2)]):Yd Tryz.prog o ρ σ (.v (.bool ((a1 == c1) && (a2 == c2)))):=by
 intro w X η hη hst
 obtain ⟨dst,op,ty,pos,aft,g⟩:=o
 simp only at ho
 subst ho
 have h1:=hη x (by simp [Op.operands])
 have h2:=hη y (by simp [Op.operands])
 rw [hx] at h1
 rw [hy] at h2
 refine ah4 (s:=do eqGuard .eql 33 x y (η x) (η y);binOp .eql 33 (η x) (η y)) (u:=.bool ((a1 == c1) && (a2 == c2))) ?_ (Ex.refl w) (.v _)
 rw [be3 h1,be3 h2]
 simp only [Sem.run_bind,run_eqGuard_agg w .eql _ _ _ _ _ at_guard,Result.andThen,run_eql_struct,run_at_eq]
end
end
section
open Go Go.RowKit Go.Shelf
abbrev oKp:Knd:=⟨aP2,0,9,[⟨nId,nE,nE,0,0,0,[],[]⟩]⟩
abbrev oKo:Knd:=⟨aJ9,0,9,[⟨nId,nE,nE,0,0,0,[],[]⟩,⟨nOf,aP2,nE,1,1,9,[],[]⟩]⟩
abbrev oX:Sch:=⟨0,[oKp,oKo],[],[]⟩
abbrev oW:Wd:=[[[0],[1]],[[0,0],[1,0],[2,1]]]
theorem aU2:APure Tryz.prog 47 [] (.tup [schD oX,slW oW]):=by
 refine APure.of_call (aa3 mixed aa0 Tryz.func47 (by kernel_rfl) rfl Tryz.ntmps47 rfl ?_);intro BB
 repeat' (first|refine sk2 ?_|(intro b;conv=>whnf))
 refine Rs.ct aa0 (m:=2) rfl rfl rfl rfl rfl rfl rfl ?_
 repeat' (first|refine sk2 ?_|(intro b;conv=>whnf))
 refine Rt.le ?_
 repeat' (first|exact Le.refl _|exact ai7 _|exact LeL.nil|exact LeR.nil|refine LeL.cons ?_ ?_|refine LeR.cons ?_ ?_|refine le_agg ?_|refine le_tup ?_|refine le_sl ?_)
theorem oX_cls:Cls oX:=by
 refine ⟨by decide,by decide,fun k hk=>?_,by decide,(fun l hl=>nomatch hl),by decide,(fun r hr=>nomatch hr)⟩
 simp only [List.mem_cons,List.not_mem_nil,or_false] at hk
 have f1:CF ⟨nId,nE,nE,0,0,0,[],[]⟩:=.e0 (by decide) (by decide) (by decide) (by decide) (by decide) (by decide)
 have f2:CF ⟨nOf,aP2,nE,1,1,9,[],[]⟩:=.e0 (by decide) (by decide) (by decide) (by decide) (by decide) (by decide)
 rcases hk with rfl|rfl
 ·exact ⟨by decide,by decide,by decide,by decide,fun f hf=>by rw [List.mem_singleton] at hf;subst hf;exact f1⟩
 ·exact ⟨by decide,by decide,by decide,by decide,fun f hf=>by
   simp only [List.mem_cons,List.not_mem_nil,or_false] at hf
   rcases hf with rfl|rfl
   ·exact f1
   ·exact f2⟩
theorem oW_ws:Ws oW:=⟨by decide,by decide,by decide⟩
theorem oS_ss:Ss (ag8 oW):=Ss.of_len (aG7 oW) oW_ws
theorem o_t1:an1 oX oW (ag8 oW) 1 2=([(0,1),(1,2)],0):=by decide +kernel
theorem o_t2:an1 oX oW (ag8 oW) 0 0=([(0,0),(1,0),(1,1)],0):=by decide +kernel
theorem o_t3:an1 oX oW (ag8 oW) 1 0=([(1,0)],0):=by decide +kernel
theorem o_v:ak9 oX oW (ag8 oW)=true:=by decide +kernel
theorem o_s:am8 (ag8 oW)=5:=by decide +kernel
theorem sk92 {A B:Prop} (k:B) (h:Hd7 B→A:=by intro hk7q;(first|refine sb0 ?_|refine sb1 ?_|((with_reducible refine' Cp.by ?hc ?_);(case hc=>first|exact aU2|exact aH2 oW oW_ws|exact HT1|exact HT2|exact HT3|exact HV1|exact HS1))|((with_reducible refine' CE.pure ?hc ?_);(case hc=>first|exact aU2|exact aH2 oW oW_ws|exact HT1|exact HT2|exact HT3|exact HV1|exact HS1)));exact hk7q.run):A:=h ⟨k⟩
theorem ax4:APure Tryz.prog 18 [] (bD true):=by
 have HV:=bd6 oX oX_cls.good
 have HT1:APure Tryz.prog 14 [schD oX,slW oW,slS2 (ag8 oW),atD 1 2] (.tup [slAt [(0,1),(1,2)],iD 0]):=by have:=aE3 oX oW (ag8 oW) oW_ws oS_ss 1 2 HV;rw [o_t1] at this;exact this
 have HT2:APure Tryz.prog 14 [schD oX,slW oW,slS2 (ag8 oW),atD 0 0] (.tup [slAt [(0,0),(1,0),(1,1)],iD 0]):=by have:=aE3 oX oW (ag8 oW) oW_ws oS_ss 0 0 HV;rw [o_t2] at this;exact this
 have HT3:APure Tryz.prog 14 [schD oX,slW oW,slS2 (ag8 oW),atD 1 0] (.tup [slAt [(1,0)],iD 0]):=by have:=aE3 oX oW (ag8 oW) oW_ws oS_ss 1 0 HV;rw [o_t3] at this;exact this
 have HV1:APure Tryz.prog 21 [schD oX,slW oW,slS2 (ag8 oW)] (bD true):=by have:=cl_valid oX oW (ag8 oW) oW_ws oS_ss HV;rw [o_v] at this;exact this
 have HS1:APure Tryz.prog 17 [slS2 (ag8 oW)] (iD 5):=by have:=cl_size (ag8 oW) oS_ss;rw [o_s] at this;exact this
 refine APure.of_call (aa3 mixed aa0 Tryz.func18 (by kernel_rfl) rfl Tryz.ntmps18 rfl ?_);intro BB
 repeat' (first|refine sk92 ?_|(intro b;conv=>whnf)|((with_reducible refine Br.t ?h ?_);(case h=>rfl))|((with_reducible refine Br.f ?h ?_);(case h=>rfl))|((with_reducible refine' Ot.yd ?hyd ?_);(case hyd=>exact yd_ateq rfl rfl rfl)))
 refine Rt.pure (congrArg bD ?_)
 rfl
end
section
open Go
theorem validE0 {x:Sch} (h:ag5 x=true):ac9 x=0:=by unfold ac9;rw [if_pos h]
theorem aC8 {x:Sch} (h:ag5 x=false):ac9 x=1:=by unfold ac9;rw [h];rfl
theorem sk93 {A B:Prop} (k:B) (h:Hd7 B→A:=by intro hk7q;(first|refine sb0 ?_|refine sb1 ?_|((with_reducible refine' Cp.by ?hc ?_);(case hc=>first|exact ah2 _ _ _|exact HK|exact HL|exact aT7 _))|((with_reducible refine' CE.pure ?hc ?_);(case hc=>first|exact ah2 _ _ _|exact HK|exact HL|exact aT7 _)));exact hk7q.run):A:=h ⟨k⟩
theorem r09_valid (x:Sch) (g:Good x):APure Tryz.prog 94 [schD x] (iD (ac9 x)):=by
 refine APure.of_call (aa3 mixed aa0 Tryz.func94 (by kernel_rfl) rfl Tryz.ntmps94 rfl ?_);intro BB
 cases h1:ab5 x.version 0 1048576
 ·have hE:ac9 x=1:=aC8 (by simp [ag5,h1])
  repeat' (first|refine sk93 ?_|(intro b;conv=>whnf)|(with_reducible refine Br.d (fun hc=>?_) (fun hc=>?_))|(with_reducible refine Br.b (fun hc=>?_) (fun hc=>?_)))
  all_goals (refine Rt.pure (congrArg iD ?_);exact hE.symm)
 by_cases h2:x.kinds.length≤6
 case neg=>
  have hE:ac9 x=1:=aC8 (by simp [ag5,h2])
  repeat' (first|refine sk93 ?_|(intro b;conv=>whnf)|(with_reducible refine Br.d (fun hc=>?_) (fun hc=>?_))|(with_reducible refine Br.b (fun hc=>?_) (fun hc=>?_)))
  all_goals (refine Rt.pure (congrArg iD ?_);exact hE.symm)
 by_cases h3:x.lives.length≤6
 case neg=>
  have hE:ac9 x=1:=aC8 (by simp [ag5,h3])
  repeat' (first|refine sk93 ?_|(intro b;conv=>whnf)|(with_reducible refine Br.d (fun hc=>?_) (fun hc=>?_))|(with_reducible refine Br.b (fun hc=>?_) (fun hc=>?_)))
  all_goals (refine Rt.pure (congrArg iD ?_);exact hE.symm)
 by_cases h4:x.rules.length≤16
 case neg=>
  have hE:ac9 x=1:=aC8 (by simp [ag5,h4])
  repeat' (first|refine sk93 ?_|(intro b;conv=>whnf)|(with_reducible refine Br.d (fun hc=>?_) (fun hc=>?_))|(with_reducible refine Br.b (fun hc=>?_) (fun hc=>?_)))
  all_goals (refine Rt.pure (congrArg iD ?_);exact hE.symm)
 repeat' (first|refine sk93 ?_|(intro b;conv=>whnf))
 refine ae3 mixed aa0 (γ:=Nat) (fun q=>[(3,iD q)]) (fun _=>[]) (fun q=>q≤x.kinds.length∧∀ (m:Nat) y,m<q→x.kinds[m]?=some y→ag2 y=true) (fun q=>x.kinds.length - q) 0 rfl rfl ⟨by omega,fun m y hm=>by omega⟩ ?_
 rintro q ⟨hq,hno⟩
 by_cases hlt:q<x.kinds.length
 ·obtain ⟨k,hk⟩:∃ k,x.kinds[(q:Int).toNat]?=some k:=⟨_,List.getElem?_eq_getElem hlt⟩
  have hkm:=List.mem_of_getElem? hk
  have hks:=g.sm.kinds k hkm
  have HK:=r09_isKind k (fun f hf=>⟨(hks.fields f hf).nwords,(hks.fields f hf).nweights⟩) hks.nfields
  repeat' (first|refine sk93 ?_|(intro b;conv=>whnf)|(with_reducible refine Br.d (fun hc=>?_) (fun hc=>?_))|(with_reducible refine Br.b (fun hc=>?_) (fun hc=>?_)))
  ·exact ⟨q+1,rfl,rfl,⟨by omega,ap6 hno hk (by assumption)⟩,by omega⟩
  ·refine Rt.pure (congrArg iD ?_);exact (aC8 (by simp only [ag5,ag3 hk (by assumption:ag2 k=false)];simp)).symm
 have hall1:x.kinds.all ag2=true:=ak1 (fun m y hm hy=>hno m y (by omega) hy)
 clear hno
 repeat' (first|refine sk93 ?_|(intro b;conv=>whnf))
 refine ae3 mixed aa0 (γ:=Nat) (fun q=>[(4,iD q)]) (fun _=>[]) (fun q=>q≤x.lives.length∧∀ (m:Nat) y,m<q→x.lives[m]?=some y→ag7 y=true) (fun q=>x.lives.length - q) 0 rfl rfl ⟨by omega,fun m y hm=>by omega⟩ ?_
 clear hq hlt
 rintro q ⟨hq,hno⟩
 by_cases hlt:q<x.lives.length
 ·obtain ⟨k,hk⟩:∃ k,x.lives[(q:Int).toNat]?=some k:=⟨_,List.getElem?_eq_getElem hlt⟩
  have hkm:=List.mem_of_getElem? hk
  have hks:=g.sm.lives k hkm
  have HL:=r09_isLife k hks.nstates hks.nmoves
  repeat' (first|refine sk93 ?_|(intro b;conv=>whnf)|(with_reducible refine Br.d (fun hc=>?_) (fun hc=>?_))|(with_reducible refine Br.b (fun hc=>?_) (fun hc=>?_)))
  ·exact ⟨q+1,rfl,rfl,⟨by omega,ap6 hno hk (by assumption)⟩,by omega⟩
  ·refine Rt.pure (congrArg iD ?_);exact (aC8 (by simp only [ag5,ag3 hk (by assumption:ag7 k=false)];simp)).symm
 have hall2:x.lives.all ag7=true:=ak1 (fun m y hm hy=>hno m y (by omega) hy)
 clear hno
 repeat' (first|refine sk93 ?_|(intro b;conv=>whnf))
 refine ae3 mixed aa0 (γ:=Nat) (fun q=>[(5,iD q)]) (fun _=>[]) (fun q=>q≤x.rules.length∧∀ (m:Nat) y,m<q→x.rules[m]?=some y→an3 y=true) (fun q=>x.rules.length - q) 0 rfl rfl ⟨by omega,fun m y hm=>by omega⟩ ?_
 clear hq hlt
 rintro q ⟨hq,hno⟩
 by_cases hlt:q<x.rules.length
 ·obtain ⟨k,hk⟩:∃ k,x.rules[(q:Int).toNat]?=some k:=⟨_,List.getElem?_eq_getElem hlt⟩
  repeat' (first|refine sk93 ?_|(intro b;conv=>whnf)|(with_reducible refine Br.d (fun hc=>?_) (fun hc=>?_))|(with_reducible refine Br.b (fun hc=>?_) (fun hc=>?_)))
  ·exact ⟨q+1,rfl,rfl,⟨by omega,ap6 hno hk (by assumption)⟩,by omega⟩
  ·refine Rt.pure (congrArg iD ?_);exact (aC8 (by simp only [ag5,ag3 hk (by assumption:an3 k=false)];simp)).symm
 have hall3:x.rules.all an3=true:=ak1 (fun m y hm hy=>hno m y (by omega) hy)
 have hvb:ag5 x=true:=by simp only [ag5,h1,hall1,hall2,hall3];simp;omega
 have hE:=validE0 hvb
 have HS:=r09_source x (srcOK_of hvb g)
 have hsr:=g.src hvb
 repeat' (first|refine sk93 ?_|(intro b;conv=>whnf))
 refine CE.some HS ?_
 rintro _ ⟨s,rfl,hs⟩
 repeat' (first|refine sk93 ?_|(intro b;conv=>whnf))
 refine Rt.pure (congrArg iD ?_)
 exact hE.symm
end
section
open Go Go.RowKit Go.Shelf
theorem l31_some_p (l m:List Int) (hl:I64s l) (hm:I64s m) (at_ how by_:Int) (hat:I64n at_) (hhow:I64n how) (hby:I64n by_) :
  ASome Tryz.prog 9 [slI l,slI m,iD at_,iD how,iD by_] (fun d=>∃ X V,d = .tup [slX X,slV V]∧SomeOK X V):=ASome.of_call (l31_some l m hl hm at_ how by_ hat hhow hby)
theorem sk94 {A B:Prop} (k:B) (h:Hd7 B→A:=by intro hk7q;(first|refine sb0 ?_|refine sb1 ?_|((with_reducible refine' Cp.by ?hc ?_);(case hc=>first|exact ax4|exact aH2 w hwo.ws|exact as6 w hwo.ws|exact HSame))|((with_reducible refine' CE.pure ?hc ?_);(case hc=>first|exact ax4|exact aH2 w hwo.ws|exact as6 w hwo.ws|exact HSame)));exact hk7q.run):A:=h ⟨k⟩
theorem sk95 {A B:Prop} (k:B) (h:Hd7 B→A:=by intro hk7q;(first|refine sb0 ?_|refine sb1 ?_|((with_reducible refine' Cp.by ?hc ?_);(case hc=>first|exact HC1|exact HR1|exact HC2|exact HR2))|((with_reducible refine' CE.pure ?hc ?_);(case hc=>first|exact HC1|exact HR1|exact HC2|exact HR2)));exact hk7q.run):A:=h ⟨k⟩
theorem sk96 {A B:Prop} (k:B) (h:Hd7 B→A:=by intro hk7q;(first|refine sb0 ?_|refine sb1 ?_|((with_reducible refine' Cp.by ?hc ?_);(case hc=>exact ax4))|((with_reducible refine' CE.pure ?hc ?_);(case hc=>exact ax4)));exact hk7q.run):A:=h ⟨k⟩
end
section
open Go
variable {x:Sch} {w:Wd}
def Sub (a b:Sb):Prop:=∀ k i,keptB a k i=true→keptB b k i=true
theorem Sub.refl (a:Sb):Sub a a:=fun _ _ h=>h
theorem Sub.trans {a b c:Sb} (h:Sub a b) (k:Sub b c):Sub a c:=fun i j e=>k i j (h i j e)
theorem lens_shrink (s:Sb):(ao7 x w s).map List.length=s.map List.length:=aN7 s _
end
section
open Go Go.RowKit Go.Shelf
theorem Vd.frz {α:Type} {R:ORep α} {den:α→D} (hf:Frz R den) {a:α} {v:Value} {s σ τ ρ:aa1} (h:R a v s) (hp:σ.Perm (s ++ ρ)) (hsub:∀ b,b∈ab2 τ→b∈ab2 ρ):Vd σ τ (.v v) (den a):=
 fun w X u hs hr=>ak5 ((Vs.frz hf h hp).run w X u hs hr).2 hsub
theorem r31_great_p (x:Sch) (w:Wd) (s:Sb) (hw:Ws w) (hs:Ss s) (HV:APure Tryz.prog 94 [schD x] (iD (ac9 x))):APure Tryz.prog 20 [schD x,slW w,slS2 s] (.tup [slS2 (aC5 x w s).1,iD (aC5 x w s).2]):=
 APure.of_call ((be5 x w s hw hs HV).vs2 fun d σ ⟨v,e,h⟩=>by
  subst e
  exact ⟨_,[],Vs.vd ⟨σ,by simp⟩ (Vd.tup (.cons (Vd.frz (ρ:=[]) frz_s h (by simp) (fun b hb=>by cases hb)) (.cons (Vd.same (fun b hb=>by cases hb) _) .nil))),rfl⟩)
theorem Ss.lens {a b:Sb} (h:a.map List.length=b.map List.length) (hb:Ss b):Ss a:=by
 have hl:a.length=b.length:=by have:=congrArg List.length h;simpa using this
 refine ⟨by rw [hl];exact hb.nk,fun l hl2=>?_⟩
 have:l.length∈a.map List.length:=List.mem_map.2 ⟨l,hl2,rfl⟩
 rw [h] at this
 obtain ⟨m,hm,e⟩:=List.mem_map.1 this
 rw [← e];exact hb.nr m hm
theorem sk97 {A B:Prop} (k:B) (h:Hd7 B→A:=by intro hk7q;(first|refine sb0 ?_|refine sb1 ?_|((with_reducible refine' Cp.by ?hc ?_);(case hc=>first|exact HC1|exact HR1|exact HC2|exact HV1|exact HW1|exact HS1))|((with_reducible refine' CE.pure ?hc ?_);(case hc=>first|exact HC1|exact HR1|exact HC2|exact HV1|exact HW1|exact HS1)));exact hk7q.run):A:=h ⟨k⟩
theorem sk98 {A B:Prop} (k:B) (h:Hd7 B→A:=by intro hk7q;(first|refine sb0 ?_|refine sb1 ?_|((with_reducible refine' Cp.by ?hc ?_);(case hc=>first|exact HC1|exact HR1|exact HS1))|((with_reducible refine' CE.pure ?hc ?_);(case hc=>first|exact HC1|exact HR1|exact HS1)));exact hk7q.run):A:=h ⟨k⟩
end
section
open Go
def RowsV {α:Type} (e:TypeId) (R:ORep α) (xs:List α) (v:Value) (vs:List Value) (s:aa1):Prop:=∃ (s0:aa1) (ts:List aa1),RowIs e 1 (vs.map fun u=>[D.v u]) v s0∧All3 R xs vs ts∧s.Perm (s0 ++ ts.flatten)
section
variable {α:Type} {R:ORep α} {e:TypeId} {xs:List α} {v:Value} {vs:List Value} {s s':aa1}
theorem RowsV.of (h:RowsOf e R xs v s):∃ vs,RowsV e R xs v vs s:=by
 obtain ⟨vs,s0,ts,h1,h2,h3⟩:=h.ex
 exact ⟨vs,s0,ts,h1,h2,h3⟩
theorem RowsV.to (h:RowsV e R xs v vs s):RowsOf e R xs v s:=by
 obtain ⟨s0,ts,h1,h2,h3⟩:=h
 exact ⟨vs,s0,ts,h1,h2,h3⟩
theorem RowsV.perm (h:RowsV e R xs v vs s) (hp:s'.Perm s):RowsV e R xs v vs s':=by
 obtain ⟨s0,ts,h1,h2,h3⟩:=h
 exact ⟨s0,ts,h1,h2,hp.trans h3⟩
theorem RowsV.at (h:RowsV e R xs v vs s) {i:Nat} {x:α} (hx:xs[i]?=some x) :
  ∃ b cap cs u t τ,v = .slice (some ⟨b,0,none⟩) xs.length cap∧s.Perm ((b,.cells e cs) :: (t ++ τ))∧cs[i]?=some (.v u)∧vs[i]?=some u∧R x u t ∧
   ∀ x' t' s',R x' u t'→s'.Perm ((b,.cells e cs) :: (t' ++ τ))→RowsV e R (xs.set i x') v vs s':=by
 obtain ⟨s0,ts,h1,h2,h3⟩:=h
 obtain ⟨u,t,τ,g1,g2,g3,g4⟩:=h2.at hx
 have hil:=(List.getElem?_eq_some_iff.1 g1).1
 have h1':=h1
 obtain ⟨b,cap,junk,rfl,rfl,q3,q4,q5,q6⟩:=h1.block (fun h=>by
  have:=congrArg List.length h;simp at this;subst this;simp at hil)
 rw [flat1] at h3
 refine ⟨b,cap,vs.map D.v ++ junk,u,t,τ,by rw [List.length_map,h2.len.1],?_,?_,g1,g2,fun x' t' s' h' hp=>?_⟩
 ·exact h3.trans (List.Perm.cons _ g3)
 ·rw [List.getElem?_append_left (by simpa using hil),List.getElem?_map,g1];rfl
 ·obtain ⟨ts',k1,k2⟩:=g4 x' u t' h'
  rw [aW9 g1] at k1
  refine ⟨_,ts',h1',k1,?_⟩
  rw [flat1]
  exact hp.trans (List.Perm.cons _ k2.symm)
end
abbrev RWv (o:Wd) (v:Value) (vs:List Value) (σ:aa1):Prop:=RowsV 75 RW1 o v vs σ
theorem aS9 {o:Wd} {v:Value} {vs:List Value} {σ:aa1} (h:RWv o v vs σ) {k:Nat} {l:List (List Int)} (hl:o[k]?=some l) :
  ∃ b0 cap0 cs0 a1 c1,v = .slice (some ⟨b0,0,none⟩) o.length cap0∧(b0,Blk.cells 75 cs0)∈σ∧cs0[k]?=some (.v (.slice a1 l.length c1))∧vs[k]?=some (.slice a1 l.length c1):=by
 obtain ⟨b0,cap0,cs0,u,t,τ,h1,h2,h3,h4,h5,_⟩:=h.at hl
 obtain ⟨a1,c1,rfl⟩:=RowsOf.slice h5
 exact ⟨b0,cap0,cs0,a1,c1,h1,h2.mem_iff.2 (by simp),h3,h4⟩
theorem aN2 {o:Wd} {v:Value} {vs:List Value} {σ:aa1} (h:RWv o v vs σ) {k i f:Nat} {l:List (List Int)} {r:List Int} {c:Int} (hl:o[k]?=some l) (hr:l[i]?=some r) (hc:r[f]?=some c) :
  ∃ b0 cap0 cs0 b1 cap1 cs1 b2 cap2 cs2 ρ,v = .slice (some ⟨b0,0,none⟩) o.length cap0∧σ.Perm ((b0,.cells 75 cs0) :: (b1,.cells 22 cs1) :: (b2,.cells 3 cs2) :: ρ)∧cs0[k]?=some (.v (.slice (some ⟨b1,0,none⟩) l.length cap1)) ∧
   vs[k]?=some (.slice (some ⟨b1,0,none⟩) l.length cap1)∧cs1[i]?=some (.v (.slice (some ⟨b2,0,none⟩) r.length cap2))∧cs2[f]?=some (iD c) ∧
   ∀ c',RWv (o.set k (l.set i (r.set f c'))) v vs ((b0,.cells 75 cs0) :: (b1,.cells 22 cs1) :: (b2,.cells 3 (cs2.set f (iD c'))) :: ρ):=by
 obtain ⟨b0,cap0,cs0,u,t,τ,h1,h2,h3,h4,h5,h6⟩:=h.at hl
 obtain ⟨b1,cap1,cs1,b2,cap2,cs2,ρ,g1,g2,g3,g4,g5⟩:=at1 h5 hr hc
 subst g1
 refine ⟨b0,cap0,cs0,b1,cap1,cs1,b2,cap2,cs2,ρ ++ τ,h1,h2.trans (List.Perm.cons _ ((g2.append_right τ).trans (List.Perm.refl _))),h3,h4,g3,g4,fun c'=>h6 _ _ _ (g5 c') (List.Perm.refl _)⟩
/-! ### Sums -/
def ag6 (rows:List (List Int)) (up share i:Nat):Int:=rows.foldl (fun (acc:Int) (r:List Int)=>if r.getD up 0=(i:Int) then IntKind.i64.wrap (acc+r.getD share 0) else acc) (0:Int)
def upOf (x:Sch) (o sh:Nat):Nat:=match x.kinds[o]? with
 | some k=>match k.fields[sh]? with
  | some g=>(ab7 k g.up).toNat
  | none=>0
 | none=>0
def ag4 (o:Wd) (k f:Nat) (g:Nat→Int) (m:Nat):Wd:=o.set k ((o.getD k []).mapIdx fun i l=>if i<m then l.set f (g i) else l)
def af9 (x:Sch) (o:Wd) (k f:Nat):Wd:=
 if (ac6 x k f).1<0 then o
 else ag4 o k f (ag6 (o.getD (ac6 x k f).1.toNat []) (upOf x (ac6 x k f).1.toNat (ac6 x k f).2.toNat) (ac6 x k f).2.toNat) (o.getD k []).length
def sumsF (x:Sch) (k:Nat) (o:Wd) (q:Nat):Wd:=(List.range q).foldl (fun o f=>af9 x o k f) o
def flen (x:Sch) (k:Nat):Nat:=match x.kinds[k]? with|some kd=>kd.fields.length|none=>0
def sumsK (x:Sch) (o:Wd) (q:Nat):Wd:=(List.range q).foldl (fun o k=>sumsF x k o (flen x k)) o
def sumsE (x:Sch) (o:Wd):Wd:=sumsK x o x.kinds.length
theorem as5 (x:Sch) (k:Nat) (o:Wd) (q:Nat):sumsF x k o (q+1)=af9 x (sumsF x k o q) k q:=by simp [sumsF,List.range_succ]
theorem as4 (x:Sch) (o:Wd) (q:Nat):sumsK x o (q+1)=sumsF x q (sumsK x o q) (flen x q):=by simp [sumsK,List.range_succ]
def shp (o:Wd):List (List Nat):=o.map fun l=>l.map List.length
theorem az6 {o o':Wd} (h:shp o=shp o') {k:Nat} {l:List (List Int)} (hl:o[k]?=some l):∃ l',o'[k]?=some l'∧l'.map List.length=l.map List.length:=by
 have:=congrArg (fun z=>z[k]?) h
 simp only [shp,List.getElem?_map,hl,Option.map_some] at this
 cases h':o'[k]? with
 | none=>rw [h'] at this;cases this
 | some l'=>rw [h'] at this;simp only [Option.map_some,Option.some.injEq] at this;exact ⟨l',rfl,this.symm⟩
theorem bd5 (o:Wd) (k f:Nat) (g:Nat→Int) (m:Nat):shp (ag4 o k f g m)=shp o:=by
 unfold shp ag4
 rw [List.map_set]
 refine List.ext_getElem? fun n=>?_
 by_cases e:n=k
 ·subst e
  by_cases hn:n<o.length
  ·rw [List.getElem?_set_self (by simpa using hn),List.getElem?_map,List.getElem?_eq_getElem hn,aa4 (List.getElem?_eq_getElem hn)]
   simp only [Option.map_some,Option.some.injEq]
   refine List.ext_getElem? fun i=>?_
   simp only [List.getElem?_map,List.getElem?_mapIdx]
   cases o[n][i]? with
   | none=>rfl
   | some r=>simp only [Option.map_some,Option.some.injEq];split <;> simp
  ·rw [List.getElem?_eq_none (by simp;omega),List.getElem?_eq_none (by simp;omega)]
 ·rw [List.getElem?_set_ne (Ne.symm e)]
theorem aW8 (x:Sch) (o:Wd) (k f:Nat):shp (af9 x o k f)=shp o:=by
 unfold af9
 split
 ·rfl
 ·exact bd5 _ _ _ _ _
theorem shp_F (x:Sch) (k:Nat) (o:Wd):∀ q,shp (sumsF x k o q)=shp o
 | 0=>rfl
 | q+1=>by rw [as5,aW8,shp_F x k o q]
theorem shp_K (x:Sch) (o:Wd):∀ q,shp (sumsK x o q)=shp o
 | 0=>rfl
 | q+1=>by rw [as4,shp_F,shp_K x o q]
theorem aI0 {x:Sch} {i j:Nat} (h:0≤(ac6 x i j).1):∃ (o sh u:Nat) (ko:Knd) (g gu:Fld),ac6 x i j=((o:Int),(sh:Int))∧i<o∧x.kinds[o]?=some ko∧ko.fields[sh]?=some g∧g.kind=7∧ab7 ko g.up=u∧ko.fields[u]?=some gu∧gu.kind=1∧upIx x o u=i∧upOf x o sh=u:=by
 unfold ac6 at h ⊢
 split at h
 ·simp at h
 ·rename_i f hf
  simp only [am0] at h ⊢
  by_cases hn:ak4 x i f=true
  ·rw [if_pos hn] at h;simp [aZ1] at h
  ·rw [if_neg hn] at h ⊢
   have hn':ak4 x i f=false:=by simpa using hn
   simp only [ak4,Bool.or_eq_false_iff,Bool.not_eq_false',decide_eq_true_eq,decide_eq_false_iff_not] at hn'
   obtain ⟨o,ko,e1,e2,_⟩:=bh5 x f.of (by omega)
   match hs:as0 x i f,h with
   | [z],h=>
    have hz:z∈as0 x i f:=by rw [hs];simp
    rw [as0,e1] at hz
    have hka:af0 x o=some ko:=by simp [af0,e2]
    rw [hka] at hz
    obtain ⟨sh,hsh,rfl⟩:=List.mem_map.1 hz
    obtain ⟨_,hq⟩:=List.mem_filter.1 hsh
    cases hg:ko.fields[sh]? with
    | none=>rw [hg] at hq;cases hq
    | some g=>
     rw [hg] at hq
     simp only [Bool.and_eq_true,decide_eq_true_eq] at hq
     obtain ⟨⟨h7,_⟩,hu⟩:=hq
     have hfa:fieldAt x o sh=some g:=by simp [fieldAt,hka,hg]
     have hup:=aH6 hfa hka
     rw [hu,if_pos (.inl h7)] at hup
     cases hgu:fieldAt x o (ab7 ko g.up) with
     | none=>rw [hgu] at hup;simp [aF4,aw9] at hup <;> omega
     | some gu=>
      rw [hgu,aF4] at hup
      by_cases hc:ab7 ko g.up<(sh:Int)∧gu.kind=1
      ·rw [if_pos hc,aw9] at hup
       obtain ⟨_,h0,k',hk',hu'⟩:=af7 hgu
       simp only [Int.toNat_natCast] at hk'
       rw [e2] at hk';cases hk'
       obtain ⟨u,eu⟩:∃ u:Nat,ab7 ko g.up=u:=⟨(ab7 ko g.up).toNat,by omega⟩
       rw [eu,Int.toNat_natCast] at hu'
       refine ⟨o,sh,u,ko,g,gu,by rw [e1];rfl,by omega,e2,hg,h7,eu,hu',hc.2,?_,by unfold upOf;rw [e2];simp only;rw [hg];simp only;rw [eu];rfl⟩
       have hfu:fieldAt x o u=some gu:=by simp [fieldAt,hka,hu']
       rw [aH6 hfu hka,if_neg (by omega),if_pos hc.2]
       exact hup.symm
      ·rw [if_neg hc] at hup;simp [aw9] at hup <;> omega
   | [],h=>simp [aZ1] at h
   | _ :: _ :: _,h=>simp [aZ1] at h
end
section
open Go Go.RowKit Go.Shelf
theorem yd_addw {P:Program} {ρ:Operand→D} {σ:aa1} {o:Oper} {t t':TypeId} {x y:Operand} {a b:Int} (ho:o.op = .binOp .add t x y t') (hx:ρ x = .v (.int .i64 a)) (hy:ρ y = .v (.int .i64 b)):Yd P o ρ σ (.v (.int .i64 (IntKind.i64.wrap (a+b)))):=by
 intro w X η hη hst
 obtain ⟨dst,op,ty,pos,aft,g⟩:=o
 simp only at ho
 subst ho
 have h1:=(hη x (by simp [Op.operands])).val hx
 have h2:=(hη y (by simp [Op.operands])).val hy
 refine ah4 (s:=do eqGuard .add t x y (η x) (η y);binOp .add t (η x) (η y)) (u:=.int .i64 (IntKind.i64.wrap (a+b))) ?_ (Ex.refl w) (.v _)
 rw [h1,h2]
 simp [eqGuard,binOp,Op.intArith]
theorem bc3 (n:Int):I64n (IntKind.i64.wrap n):=by
 rw [IntKind.wrap_i64]
 unfold I64n
 omega
theorem Ss.size {s:Sb} (h:Ss s):am8 s≤1000000:=by
 have key:∀ l:List (List Bool),(∀ m∈l,m.length≤1000)→(l.map fun m=>m.countP id).sum≤l.length*1000:=by
  intro l
  induction l with
  | nil=>simp
  | cons m l ih=>
   intro h
   have h1:=h m (by simp)
   have h2:=ih fun z hz=>h z (by simp [hz])
   have h3:=List.countP_le_length (p:=id) (l:=m)
   simp only [List.map_cons,List.sum_cons,List.length_cons,Nat.succ_mul]
   omega
 have:=key s h.nr
 have:=h.nk
 unfold am8
 omega
theorem sb99 {A B:Prop} (k:B) (h:Hd7 B→A:=by intro hk7q;(first|(with_reducible refine Bc.l ?_)|fail|((with_reducible refine Dr.l ?h ?_);(case h=>decide +kernel))|(with_reducible refine Dr.r ?_)|((with_reducible refine Dm.l ?h ?_);(case h=>decide +kernel))|((with_reducible refine Cb.go ?h ?_);(case h=>decide +kernel)));exact hk7q.run):A:=h ⟨k⟩
theorem sk100 {A B:Prop} (k:B) (h:Hd7 B→A:=by intro hk7q;(first|refine sb0 ?_|refine sb99 ?_|((with_reducible refine' Cp.by ?hc ?_);(case hc=>exact ax4))|((with_reducible refine' CE.pure ?hc ?_);(case hc=>exact ax4)));exact hk7q.run):A:=h ⟨k⟩
theorem sk101 {A B:Prop} (k:B) (h:Hd7 B→A:=by intro hk7q;(first|refine sb0 ?_|refine sb99 ?_|((with_reducible refine' Cp.by ?hc ?_);(case hc=>exact aa5 _ _ (bc3 _)))|((with_reducible refine' CE.pure ?hc ?_);(case hc=>exact aa5 _ _ (bc3 _))));exact hk7q.run):A:=h ⟨k⟩
theorem sk102 {A B:Prop} (k:B) (h:Hd7 B→A:=by intro hk7q;(first|refine sb0 ?_|refine sb99 ?_|((with_reducible refine' Cp.by ?hc ?_);(case hc=>first|exact HC1|exact HC2|exact HC3|exact HC4|exact HC5|exact HC6|exact HC7))|((with_reducible refine' CE.pure ?hc ?_);(case hc=>first|exact HC1|exact HC2|exact HC3|exact HC4|exact HC5|exact HC6|exact HC7)));exact hk7q.run):A:=h ⟨k⟩
theorem sk103 {A B:Prop} (k:B) (h:Hd7 B→A:=by intro hk7q;(first|refine sb0 ?_|refine sb1 ?_|((with_reducible refine' Cp.by ?hc ?_);(case hc=>first|exact HC1|exact HC2|exact HC3|exact HC4|exact HC5|exact HC6|exact HC7))|((with_reducible refine' CE.pure ?hc ?_);(case hc=>first|exact HC1|exact HC2|exact HC3|exact HC4|exact HC5|exact HC6|exact HC7)));exact hk7q.run):A:=h ⟨k⟩
end
section
open Go
structure Wsh (x:Sch) (o:Wd):Prop where
 len:o.length=x.kinds.length
 nr:∀ l∈o,l.length≤1000
 row:∀ (k:Nat) l,o[k]?=some l→∀ r∈l,r.length=flen x k
theorem Wsh.shp {x:Sch} {o o':Wd} (h:Wsh x o) (e:shp o'=shp o):Wsh x o' where
 len:=by have:=congrArg List.length e;simp [Go.Proofs.YtjbbmjjildhfbaaGreatDoor.shp] at this;rw [this];exact h.len
 nr:=fun l hl=>by
  obtain ⟨k,hk⟩:=List.getElem?_of_mem hl
  obtain ⟨l',h1,h2⟩:=az6 e hk
  have:=congrArg List.length h2
  simp at this
  have:=h.nr l' (List.mem_of_getElem? h1);omega
 row:=fun k l hk r hr=>by
  obtain ⟨l',h1,h2⟩:=az6 e hk
  obtain ⟨i,hi⟩:=List.getElem?_of_mem hr
  have:=congrArg (fun z=>z[i]?) h2
  simp only [List.getElem?_map,hi,Option.map_some] at this
  cases hq:l'[i]? with
  | none=>rw [hq] at this;cases this
  | some r'=>
   rw [hq] at this
   simp only [Option.map_some,Option.some.injEq] at this
   rw [← this];exact h.row k l' h1 r' (List.mem_of_getElem? hq)
theorem aB1 (o:Wd) (k f:Nat) (g:Nat→Int):ag4 o k f g 0=o:=by
 unfold ag4
 have:((o.getD k []).mapIdx fun i l=>if i<0 then l.set f (g i) else l)=o.getD k []:=by
  refine List.ext_getElem? fun i=>?_
  rw [List.getElem?_mapIdx]
  cases (o.getD k [])[i]? <;> simp
 rw [this]
 by_cases h:k<o.length
 ·rw [aa4 (List.getElem?_eq_getElem h)];simp
 ·rw [List.set_eq_of_length_le (by omega)]
theorem ar8 {o:Wd} {k:Nat} {l:List (List Int)} (hl:o[k]?=some l) (f:Nat) (g:Nat→Int) (m:Nat):(ag4 o k f g m)[k]?=some (l.mapIdx fun i r=>if i<m then r.set f (g i) else r):=by
 unfold ag4
 rw [List.getElem?_set_self (List.getElem?_eq_some_iff.1 hl).1,aa4 hl]
theorem aL5 {o:Wd} {k k':Nat} (h:k≠k') (f:Nat) (g:Nat→Int) (m:Nat):(ag4 o k f g m)[k']?=o[k']?:=by
 unfold ag4
 rw [List.getElem?_set_ne h]
theorem aB2 {o:Wd} {k i:Nat} {l:List (List Int)} {r:List Int} (hl:o[k]?=some l) (hr:l[i]?=some r) (f:Nat) (g:Nat→Int) :
  ag4 o k f g (i+1)=(ag4 o k f g i).set k ((l.mapIdx fun n r=>if n<i then r.set f (g n) else r).set i (r.set f (g i))):=by
 unfold ag4
 rw [List.set_set,aa4 hl]
 congr 1
 refine List.ext_getElem? fun n=>?_
 have hil:=(List.getElem?_eq_some_iff.1 hr).1
 by_cases e:n=i
 ·subst e
  rw [List.getElem?_set_self (by simpa using hil),List.getElem?_mapIdx,hr]
  simp
 ·rw [List.getElem?_set_ne (Ne.symm e),List.getElem?_mapIdx,List.getElem?_mapIdx]
  have hh:n<i+1↔n<i:=⟨fun h=>by omega,fun h=>by omega⟩
  simp only [hh]
theorem aE7 {l:List (List Int)} {i:Nat} {r:List Int} (hr:l[i]?=some r) (f:Nat) (g:Nat→Int):(l.mapIdx fun n r=>if n<i then r.set f (g n) else r)[i]?=some r:=by
 rw [List.getElem?_mapIdx,hr];simp
theorem aC9 {rows:List (List Int)} {j:Nat} {r:List Int} (h:rows[j]?=some r) (up sh i:Nat):ag6 (rows.take (j+1)) up sh i=if r.getD up 0=(i:Int) then IntKind.i64.wrap (ag6 (rows.take j) up sh i+r.getD sh 0) else ag6 (rows.take j) up sh i:=by
 unfold ag6
 rw [ah6 h,List.foldl_append]
 rfl
theorem sk104 {A B:Prop} (k:B) (h:Hd7 B→A:=by intro hk7q;(first|refine sb0 ?_|refine sb1 ?_|((with_reducible refine' Cp.by ?hc ?_);(case hc=>exact HSh))|((with_reducible refine' CE.pure ?hc ?_);(case hc=>exact HSh)));exact hk7q.run):A:=h ⟨k⟩
theorem sk105 {A B:Prop} (k:B) (h:Hd7 B→A:=by intro hk7q;(first|refine sb0 ?_|refine sb1 ?_|((with_reducible refine' Cp.by ?hc ?_);(case hc=>exact hS1))|((with_reducible refine' CE.pure ?hc ?_);(case hc=>exact hS1)));exact hk7q.run):A:=h ⟨k⟩
theorem sk106 {A B:Prop} (k:B) (h:Hd7 B→A:=by intro hk7q;(first|refine sb0 ?_|refine sb1 ?_|((with_reducible refine' Cp.by ?hc ?_);(case hc=>first|exact hS1|exact hHF))|((with_reducible refine' CE.pure ?hc ?_);(case hc=>first|exact hS1|exact hHF)));exact hk7q.run):A:=h ⟨k⟩
theorem sk107 {A B:Prop} (k:B) (h:Hd7 B→A:=by intro hk7q;(first|refine sb0 ?_|refine sb99 ?_|((with_reducible refine' Cp.by ?hc ?_);(case hc=>first|exact hS1|exact hHF))|((with_reducible refine' CE.pure ?hc ?_);(case hc=>first|exact hS1|exact hHF)));exact hk7q.run):A:=h ⟨k⟩
theorem cl27 {p:Prop} (h:p:=by refine ac3 fun a=>?_;simp only [List.append_eq,List.nil_append,ac4,ae7,af1];omega):p:=h
theorem r31_sums (x:Sch) (hV:Vld x) (o:Wd) (ho:Wsh x o) (a:Option Addr) (c:Nat) (vs:List Value) (σ:aa1) (hR:RWv o (.slice a o.length c) vs σ) :
  ACall Tryz.prog 62 [schD x,.v (.slice a o.length c)] σ (fun d σ'=>d = .v (.tuple #[])∧RWv (sumsE x o) (.slice a o.length c) vs σ'):=by
 have hnk:=hV.nk
 have hnf:=hV.nf
 have HS:=fun i j=>r10_shares x i j (by omega) (fun k hk=>by have:=hnf k hk;omega)
 refine aa3 mixed aa0 Tryz.func62 (by kernel_rfl) rfl Tryz.ntmps62 rfl ?_;intro BB
 repeat' (first|refine sk104 ?_|(intro b;conv=>whnf))
 refine aa6 mixed aa0 (γ:=Nat × aa1) (fun g=>[(4,iD g.1)]) (fun g=>g.2) (fun g=>g.1≤x.kinds.length∧RWv (sumsK x o g.1) (.slice a o.length c) vs g.2) (fun g=>x.kinds.length - g.1) (0,σ) (aa2 cl2) cl3 ⟨Nat.zero_le _,hR⟩ ?_
 rintro ⟨k,σ1⟩ ⟨hk,hR1⟩
 simp only at hk hR1 ⊢
 by_cases hkl:k<x.kinds.length
 ·obtain ⟨kd,hkd⟩:∃ y,x.kinds[k]?=some y:=⟨_,List.getElem?_eq_getElem hkl⟩
  have hkd':x.kinds[((k:Nat):Int).toNat]?=some kd:=hkd
  have hfl:=hnf kd (List.mem_of_getElem? hkd)
  have hfk:flen x k=kd.fields.length:=by unfold flen;rw [hkd]
  repeat' (first|refine sk104 ?_|(intro b;conv=>whnf))
  refine aa6 mixed aa0 (γ:=Nat × aa1) (fun g=>[(5,iD g.1)]) (fun g=>g.2) (fun g=>g.1≤kd.fields.length∧RWv (sumsF x k (sumsK x o k) g.1) (.slice a o.length c) vs g.2) (fun g=>kd.fields.length - g.1) (0,σ1) (aa2 cl2) cl3 ⟨Nat.zero_le _,hR1⟩ ?_
  clear hR1
  rintro ⟨f,σ2⟩ ⟨hf,hR2⟩
  simp only at hf hR2 ⊢
  by_cases hfl2:f<kd.fields.length
  ·have hs2:shp (sumsF x k (sumsK x o k) f)=shp o:=by rw [shp_F,shp_K]
   have hW2:=ho.shp hs2
   have hsu:=as5 x k (sumsK x o k) f
   generalize sumsF x k (sumsK x o k) f=o2 at *
   have hS1:=HS k f
   have hinv:=@aI0 x k f
   by_cases hneg:(ac6 x k f).1<0
   ·have hst:af9 x o2 k f=o2:=by unfold af9;rw [if_pos hneg]
    rw [hst] at hsu
    generalize ac6 x k f=sr at *
    repeat' (first|refine sk105 ?_|(intro b;conv=>whnf))
    exact ⟨(f+1,σ2),(aa2 cl2),cl3,⟨by simp only;omega,by rw [hsu];exact hR2⟩,by simp only;omega⟩
   ·obtain ⟨q,sh,u,ko,g,gu,e1,hkq,hko,hg,hg7,hfu,hgu,hgu1,huq,hup⟩:=hinv (by omega)
    have hst:af9 x o2 k f=ag4 o2 k f (ag6 (o2.getD q []) u sh) (o2.getD k []).length:=by
     unfold af9
     rw [e1,if_neg (by simp only;omega)]
     simp only [Int.toNat_natCast,hup]
    rw [e1] at hS1
    have hql:=(List.getElem?_eq_some_iff.1 hko).1
    have hko':x.kinds[((q:Nat):Int).toNat]?=some ko:=hko
    have hg':ko.fields[((sh:Nat):Int).toNat]?=some g:=hg
    have hkf:=hnf ko (List.mem_of_getElem? hko)
    have hHF:=ai3 ko g.up (by omega)
    rw [hfu] at hHF
    obtain ⟨l,hl⟩:∃ l,o2[k]?=some l:=⟨_,List.getElem?_eq_getElem (by rw [hW2.len];exact hkl)⟩
    obtain ⟨rows,hrows⟩:∃ l,o2[q]?=some l:=⟨_,List.getElem?_eq_getElem (by rw [hW2.len];exact hql)⟩
    rw [aa4 hl,aa4 hrows] at hst
    have hll:=hW2.nr l (List.mem_of_getElem? hl)
    have hrl:=hW2.nr rows (List.mem_of_getElem? hrows)
    have hfq:flen x q=ko.fields.length:=by unfold flen;rw [hko]
    have hul:=(List.getElem?_eq_some_iff.1 hgu).1
    have hsl:=(List.getElem?_eq_some_iff.1 hg).1
    have hrw:∀ r∈rows,r.length=ko.fields.length:=fun r hr=>by rw [← hfq];exact hW2.row q rows hrows r hr
    have hlw:∀ r∈l,r.length=kd.fields.length:=fun r hr=>by rw [← hfk];exact hW2.row k l hl r hr
    have h2l:o2.length=o.length:=by rw [hW2.len,ho.len]
    have hko2:k<o.length:=by rw [ho.len];exact hkl
    have hqo2:q<o.length:=by rw [ho.len];exact hql
    generalize hgg:ag6 rows u sh=gs at *
    repeat' (first|refine sk106 ?_|(intro b;conv=>whnf))
    refine aa6 mixed aa0 (γ:=Nat × aa1) (fun g=>[(9,iD g.1)]) (fun g=>g.2) (fun g=>g.1≤l.length∧RWv (ag4 o2 k f gs g.1) (.slice a o.length c) vs g.2) (fun g=>l.length - g.1) (0,σ2) (aa2 cl2) cl3 ⟨Nat.zero_le _,by rw [aB1];exact hR2⟩ ?_
    clear hR2
    rintro ⟨i,σ3⟩ ⟨hi,hR3⟩
    simp only at hi hR3 ⊢
    have hk3:=ar8 hl f gs i
    have hq3:(ag4 o2 k f gs i)[q]?=some rows:=by rw [aL5 (by omega)];exact hrows
    have hl3:(ag4 o2 k f gs i).length=o.length:=by unfold ag4;rw [List.length_set];exact h2l
    obtain ⟨b0,cap0,cs0,a1,c1,e2,m0,h3,_⟩:=aS9 hR3 hk3
    rw [hl3] at e2
    cases e2
    rw [List.length_mapIdx] at h3
    by_cases hil:i<l.length
    ·obtain ⟨r,hr⟩:∃ r,l[i]?=some r:=⟨_,List.getElem?_eq_getElem hil⟩
     have hrk:=hlw r (List.mem_of_getElem? hr)
     repeat' (first|refine sk106 ?_|(intro b;conv=>whnf))
     refine Ld.cellm m0 (by rw [ix1];exact h3) ?_
     repeat' (first|refine sk106 ?_|(intro b;conv=>whnf))
     refine aa6 mixed aa0 (γ:=Nat × Int) (fun g=>[(11,iD g.1),(10,iD g.2)]) (fun _=>σ3) (fun g=>g.1≤rows.length∧g.2=ag6 (rows.take g.1) u sh i) (fun g=>rows.length - g.1) (0,0) (aa2 cl2) (List.Sublist.refl _) ⟨Nat.zero_le _,rfl⟩ ?_
     rintro ⟨j,acc⟩ ⟨hj,hacc⟩
     simp only at hj hacc ⊢
     obtain ⟨d0,dap0,ds0,a2,c2,e3,n0,g3,_⟩:=aS9 hR3 hq3
     rw [hl3] at e3
     cases e3
     by_cases hjl:j<rows.length
     ·obtain ⟨y,hy⟩:∃ r,rows[j]?=some r:=⟨_,List.getElem?_eq_getElem hjl⟩
      have hyl:=hrw y (List.mem_of_getElem? hy)
      obtain ⟨yu,hyu⟩:∃ r,y[u]?=some r:=⟨_,List.getElem?_eq_getElem (by omega)⟩
      obtain ⟨ys,hys⟩:∃ r,y[sh]?=some r:=⟨_,List.getElem?_eq_getElem (by omega)⟩
      have hsr:=aC9 hy u sh i
      rw [aa4 hyu,aa4 hys,← hacc] at hsr
      obtain ⟨f0,fap0,fs0,f1,fap1,fs1,f2,fap2,fs2,ρ1,e4,p4,k0,_,k1,k2,_⟩:=aN2 hR3 hq3 hy hyu
      rw [hl3] at e4
      cases e4
      have o0:(b0,Blk.cells 75 fs0)∈σ3:=p4.mem_iff.2 (by simp)
      have o1:(f1,Blk.cells 22 fs1)∈σ3:=p4.mem_iff.2 (by simp)
      have o2':(f2,Blk.cells 3 fs2)∈σ3:=p4.mem_iff.2 (by simp)
      repeat' (first|refine sk106 ?_|(intro b;conv=>whnf))
      refine Ld.cellm n0 (by rw [ix1];exact g3) ?_
      repeat' (first|refine sk106 ?_|(intro b;conv=>whnf))
      refine Ld.cellm o0 (by rw [ix1];exact k0) ?_
      repeat' (first|refine sk106 ?_|(intro b;conv=>whnf))
      refine Ld.cellm o1 (by rw [ix1];exact k1) ?_
      repeat' (first|refine sk106 ?_|(intro b;conv=>whnf))
      refine Ld.cellm o2' (by rw [ix1];exact k2) ?_
      repeat' (first|refine sk106 ?_|(intro b;conv=>whnf))
      refine Br.d (fun hc=>?_) (fun hc=>?_)
      ·rw [if_pos hc] at hsr
       clear p4 k0 k1 k2 o0 o1 o2'
       obtain ⟨f0,fap0,fs0,f1,fap1,fs1,f2,fap2,fs2,ρ1,e4,p4,k0,_,k1,k2,_⟩:=aN2 hR3 hq3 hy hys
       rw [hl3] at e4
       cases e4
       have o0:(b0,Blk.cells 75 fs0)∈σ3:=p4.mem_iff.2 (by simp)
       have o1:(f1,Blk.cells 22 fs1)∈σ3:=p4.mem_iff.2 (by simp)
       have o2':(f2,Blk.cells 3 fs2)∈σ3:=p4.mem_iff.2 (by simp)
       repeat' (first|refine sk106 ?_|(intro b;conv=>whnf))
       refine Ld.cellm o0 (by rw [ix1];exact k0) ?_
       repeat' (first|refine sk106 ?_|(intro b;conv=>whnf))
       refine Ld.cellm o1 (by rw [ix1];exact k1) ?_
       repeat' (first|refine sk106 ?_|(intro b;conv=>whnf))
       refine Ld.cellm o2' (by rw [ix1];exact k2) ?_
       repeat' (first|refine sk107 ?_|(intro b;conv=>whnf))
       refine Bx.r ?_
       refine' Ot.yd ?hyw1 ?_
       case hyw1=>exact yd_addw rfl rfl rfl
       repeat' (first|refine sk106 ?_|(intro b;conv=>whnf))
       exact ⟨(j+1,_),(aa2 cl2),(List.Sublist.refl _),⟨by simp only;omega,hsr.symm⟩,by simp only;omega⟩
      ·rw [if_neg hc] at hsr
       repeat' (first|refine sk106 ?_|(intro b;conv=>whnf))
       exact ⟨(j+1,acc),(aa2 cl2),(List.Sublist.refl _),⟨by simp only;omega,hsr.symm⟩,by simp only;omega⟩
     ·obtain rfl:j=rows.length:=by omega
      rw [List.take_length] at hacc
      obtain ⟨rf,hrf⟩:∃ z,r[f]?=some z:=⟨_,List.getElem?_eq_getElem (by omega)⟩
      obtain ⟨f0,fap0,fs0,f1,fap1,fs1,f2,fap2,fs2,ρ1,e4,p4,k0,_,k1,k2,k3⟩:=aN2 hR3 hk3 (aE7 hr f gs) hrf
      rw [hl3] at e4
      cases e4
      have o0:(b0,Blk.cells 75 fs0)∈σ3:=p4.mem_iff.2 (by simp)
      have o1:(f1,Blk.cells 22 fs1)∈σ3:=p4.mem_iff.2 (by simp)
      have hs1:=aB2 hl hr f gs
      rw [List.length_mapIdx] at k0
      repeat' (first|refine sk106 ?_|(intro b;conv=>whnf))
      refine Ld.cellm n0 (by rw [ix1];exact g3) ?_
      repeat' (first|refine sk106 ?_|(intro b;conv=>whnf))
      refine Ld.cellm o0 (by rw [ix1];exact k0) ?_
      repeat' (first|refine sk106 ?_|(intro b;conv=>whnf))
      refine Ld.cellm o1 (by rw [ix1];exact k1) ?_
      repeat' (first|refine sk106 ?_|(intro b;conv=>whnf))
      have hai:acc=gs i:=by rw [hacc,← hgg]
      subst hai
      refine Sv.cellm (tb:=3) (cs:=fs2) (cs':=fs2.set f (iD (gs i))) (τ:=(b0,.cells 75 fs0) :: (f1,.cells 22 fs1) :: ρ1) (p4.trans cl27) (by rw [ix1];exact (List.getElem?_eq_some_iff.1 k2).1) rfl (by rw [ix1]) ?_
      repeat' (first|refine sk106 ?_|(intro b;conv=>whnf))
      have hR4:=RowsV.perm (k3 (gs i)) (s':=(f2,.cells 3 (fs2.set f (iD (gs i)))) :: (b0,.cells 75 fs0) :: (f1,.cells 22 fs1) :: ρ1) ((List.Perm.swap _ _ _).trans (List.Perm.cons _ (List.Perm.swap _ _ _)))
      rw [← hs1] at hR4
      exact ⟨(i+1,(f2,.cells 3 (fs2.set f (iD (gs i)))) :: (b0,.cells 75 fs0) :: (f1,.cells 22 fs1) :: ρ1),(aa2 cl2),cl3,⟨by simp only;omega,hR4⟩,by simp only;omega⟩
    ·obtain rfl:i=l.length:=by omega
     repeat' (first|refine sk106 ?_|(intro b;conv=>whnf))
     refine Ld.cellm m0 (by rw [ix1];exact h3) ?_
     repeat' (first|refine sk106 ?_|(intro b;conv=>whnf))
     exact ⟨(f+1,σ3),(aa2 cl2),cl3,⟨by simp only;omega,by rw [hsu,hst];exact hR3⟩,by simp only;omega⟩
  ·obtain rfl:f=kd.fields.length:=by omega
   repeat' (first|refine sk106 ?_|(intro b;conv=>whnf))
   exact ⟨(k+1,σ2),(aa2 cl2),cl3,⟨by simp only;omega,by rw [as4,hfk];exact hR2⟩,by simp only;omega⟩
 ·obtain rfl:k=x.kinds.length:=by omega
  repeat' (first|refine sk106 ?_|(intro b;conv=>whnf))
  exact Rt.same ⟨rfl,hR1⟩
end
end Go.Proofs.YtjbbmjjildhfbaaGreatDoor
