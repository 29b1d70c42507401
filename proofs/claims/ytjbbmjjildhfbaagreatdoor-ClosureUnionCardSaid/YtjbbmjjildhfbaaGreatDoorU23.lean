/- A part of the proof: Valid Br Eq So R09h Wv Pl Wg Gp. -/
import Derived.Test.YtjbbmjjildhfbaaGreatDoorU22
import Derived.Laws.StructEq
import Derived.ChangeKeysEq
set_option maxRecDepth 100000
set_option maxHeartbeats 4000000
set_option linter.unusedVariables false
set_option linter.unusedSimpArgs false
namespace Go.Proofs.YtjbbmjjildhfbaaGreatDoor
section
open Go.RowKit Go.Shelf
structure Laid (w : World) : Prop where
 pow : Pow10 w
 words : WordsAt w
theorem Laid.ex {w w' : World} (h : Laid w) (he : Ex w w') : Laid w':=⟨h.pow.ex he,h.words.ex he⟩
theorem valid_any (x : Sch) (w : World) {F : Nat → Prop} {ka la ra : Option Addr} {kc lc rc : Nat} (hver : I64 x.version) (hk : RKnds w F x.kinds ka kc) (hl : RLifs w F x.lives la lc) (hr : RRuls w F x.rules ra rc) (hx : SmSch x) (hsm : validB x = true → srcB x ≤ 8192) (hg : Laid w) :
  Calls Tryz.prog 81 #[.agg #[.int .i64 x.version,.slice ka x.kinds.length kc,.slice la x.lives.length lc,.slice ra x.rules.length rc]] w
   fun e w'=>e = .returned (.int .i64 (validE x)) ∧ Ex w w':=by
 have hlk:=hx.nkinds
 have hll:=hx.nlives
 have hlr:=hx.nrules
 have HK:=Lib.hid (fun (w' : World) (he : Ex w w')=>all_knd (w0:=w) (F0:=F) (Row.keep (w':=w') hk he.same (fun _ h=>h) (fun _ _ _ h=>h)) (by omega) ((isKind_asks w hx.kinds).mono he))
 have HL:=Lib.hid (fun (w' : World) (he : Ex w w')=>all_lif (w0:=w) (F0:=F) (Row.keep (w':=w') hl he.same (fun _ h=>h) (fun _ _ _ h=>h)) (by omega) ((isLife_asks w hx.lives).mono he))
 have HR:=Lib.hid (fun (w' : World) (he : Ex w w')=>all_rul (Row.keep (w':=w') hr he.same (fun _ h=>h) (fun _ _ _ h=>h)) (by omega) ((isRule_asks w hx.rules).mono he))
 have HV:=Lib.hid (fun h=>hsm h)
 have HS0:=Lib.hid (fun (hv : validB x = true) (w' : World) (he : Ex w w')=>source_any x w' hver (RKnds.keep he.same (fun _ h=>h) hk) (RLifs.keep he.same (fun _ h=>h) hl) (RRuls.keep he.same (fun _ h=>h) hr) hx hv (by have:=hsm hv;omega) (hg.pow.ex he) (hg.words.ex he))
 clear hx hsm hk hl hr
 obtain ⟨ver,kinds,lives,rules⟩:=x
 simp only at *
 cases h1 : withinB ver 0 1048576
 ·go_enter Tryz.func81,Tryz.ntmps81;go_wp2_with (first | (go_at_call 107;refine (within_any _ _ _ _).mono ?_;rintro e w2 ⟨rfl,rfl⟩) | (go_at_call 108;refine (HK.out _ cl0).mono ?_;rintro e w1 ⟨rfl,hb1⟩;(have hq7:=ru7;(try clear hc hf);obtain ⟨hb,hc,hf,hz⟩:=hq7;(try simp only [zsz7] at hz);(try have hz0:=z07 w w1);(try have hz1:=z17 w w1);(try have hz2:=z27 w w1))) | (go_at_call 110;refine (HL.out _ cl0).mono ?_;rintro e w1 ⟨rfl,hb1⟩;(have hq7:=ru7;(try clear hc hf);obtain ⟨hb,hc,hf,hz⟩:=hq7;(try simp only [zsz7] at hz);(try have hz0:=z07 w w1);(try have hz1:=z17 w w1);(try have hz2:=z27 w w1))) | (go_at_call 112;refine (HR.out _ cl0).mono ?_;rintro e w1 ⟨rfl,hb1⟩;(have hq7:=ru7;(try clear hc hf);obtain ⟨hb,hc,hf,hz⟩:=hq7;(try simp only [zsz7] at hz);(try have hz0:=z07 w w1);(try have hz1:=z17 w w1);(try have hz2:=z27 w w1))) | (go_at_call 114;refine (HS.out _ cl0).mono ?_;rintro e w1 ⟨s,rfl,hs,hb1⟩;(have hq7:=ru7;(try clear hc hf);obtain ⟨hb,hc,hf,hz⟩:=hq7;(try simp only [zsz7] at hz);(try have hz0:=z07 w w1);(try have hz1:=z17 w w1);(try have hz2:=z27 w w1))));go_ret
  exact ⟨ret_int (by simp [validE,validB,h1]),cl0⟩
 by_cases h2 : (kinds.length : Int) ≤ 6
 case neg=>
  go_enter Tryz.func81,Tryz.ntmps81;go_wp2_with (first | (go_at_call 107;refine (within_any _ _ _ _).mono ?_;rintro e w2 ⟨rfl,rfl⟩) | (go_at_call 108;refine (HK.out _ cl0).mono ?_;rintro e w1 ⟨rfl,hb1⟩;(have hq7:=ru7;(try clear hc hf);obtain ⟨hb,hc,hf,hz⟩:=hq7;(try simp only [zsz7] at hz);(try have hz0:=z07 w w1);(try have hz1:=z17 w w1);(try have hz2:=z27 w w1))) | (go_at_call 110;refine (HL.out _ cl0).mono ?_;rintro e w1 ⟨rfl,hb1⟩;(have hq7:=ru7;(try clear hc hf);obtain ⟨hb,hc,hf,hz⟩:=hq7;(try simp only [zsz7] at hz);(try have hz0:=z07 w w1);(try have hz1:=z17 w w1);(try have hz2:=z27 w w1))) | (go_at_call 112;refine (HR.out _ cl0).mono ?_;rintro e w1 ⟨rfl,hb1⟩;(have hq7:=ru7;(try clear hc hf);obtain ⟨hb,hc,hf,hz⟩:=hq7;(try simp only [zsz7] at hz);(try have hz0:=z07 w w1);(try have hz1:=z17 w w1);(try have hz2:=z27 w w1))) | (go_at_call 114;refine (HS.out _ cl0).mono ?_;rintro e w1 ⟨s,rfl,hs,hb1⟩;(have hq7:=ru7;(try clear hc hf);obtain ⟨hb,hc,hf,hz⟩:=hq7;(try simp only [zsz7] at hz);(try have hz0:=z07 w w1);(try have hz1:=z17 w w1);(try have hz2:=z27 w w1))));go_ret
  exact ⟨ret_int (by simp [validE,validB];intros;omega),cl0⟩
 by_cases h3 : (lives.length : Int) ≤ 6
 case neg=>
  go_enter Tryz.func81,Tryz.ntmps81;go_wp2_with (first | (go_at_call 107;refine (within_any _ _ _ _).mono ?_;rintro e w2 ⟨rfl,rfl⟩) | (go_at_call 108;refine (HK.out _ cl0).mono ?_;rintro e w1 ⟨rfl,hb1⟩;(have hq7:=ru7;(try clear hc hf);obtain ⟨hb,hc,hf,hz⟩:=hq7;(try simp only [zsz7] at hz);(try have hz0:=z07 w w1);(try have hz1:=z17 w w1);(try have hz2:=z27 w w1))) | (go_at_call 110;refine (HL.out _ cl0).mono ?_;rintro e w1 ⟨rfl,hb1⟩;(have hq7:=ru7;(try clear hc hf);obtain ⟨hb,hc,hf,hz⟩:=hq7;(try simp only [zsz7] at hz);(try have hz0:=z07 w w1);(try have hz1:=z17 w w1);(try have hz2:=z27 w w1))) | (go_at_call 112;refine (HR.out _ cl0).mono ?_;rintro e w1 ⟨rfl,hb1⟩;(have hq7:=ru7;(try clear hc hf);obtain ⟨hb,hc,hf,hz⟩:=hq7;(try simp only [zsz7] at hz);(try have hz0:=z07 w w1);(try have hz1:=z17 w w1);(try have hz2:=z27 w w1))) | (go_at_call 114;refine (HS.out _ cl0).mono ?_;rintro e w1 ⟨s,rfl,hs,hb1⟩;(have hq7:=ru7;(try clear hc hf);obtain ⟨hb,hc,hf,hz⟩:=hq7;(try simp only [zsz7] at hz);(try have hz0:=z07 w w1);(try have hz1:=z17 w w1);(try have hz2:=z27 w w1))));go_ret
  exact ⟨ret_int (by simp [validE,validB];intros;omega),cl0⟩
 by_cases h4 : (rules.length : Int) ≤ 16
 case neg=>
  go_enter Tryz.func81,Tryz.ntmps81;go_wp2_with (first | (go_at_call 107;refine (within_any _ _ _ _).mono ?_;rintro e w2 ⟨rfl,rfl⟩) | (go_at_call 108;refine (HK.out _ cl0).mono ?_;rintro e w1 ⟨rfl,hb1⟩;(have hq7:=ru7;(try clear hc hf);obtain ⟨hb,hc,hf,hz⟩:=hq7;(try simp only [zsz7] at hz);(try have hz0:=z07 w w1);(try have hz1:=z17 w w1);(try have hz2:=z27 w w1))) | (go_at_call 110;refine (HL.out _ cl0).mono ?_;rintro e w1 ⟨rfl,hb1⟩;(have hq7:=ru7;(try clear hc hf);obtain ⟨hb,hc,hf,hz⟩:=hq7;(try simp only [zsz7] at hz);(try have hz0:=z07 w w1);(try have hz1:=z17 w w1);(try have hz2:=z27 w w1))) | (go_at_call 112;refine (HR.out _ cl0).mono ?_;rintro e w1 ⟨rfl,hb1⟩;(have hq7:=ru7;(try clear hc hf);obtain ⟨hb,hc,hf,hz⟩:=hq7;(try simp only [zsz7] at hz);(try have hz0:=z07 w w1);(try have hz1:=z17 w w1);(try have hz2:=z27 w w1))) | (go_at_call 114;refine (HS.out _ cl0).mono ?_;rintro e w1 ⟨s,rfl,hs,hb1⟩;(have hq7:=ru7;(try clear hc hf);obtain ⟨hb,hc,hf,hz⟩:=hq7;(try simp only [zsz7] at hz);(try have hz0:=z07 w w1);(try have hz1:=z17 w w1);(try have hz2:=z27 w w1))));go_ret
  exact ⟨ret_int (by simp [validE,validB];intros;omega),cl0⟩
 cases h5 : kinds.all isKindB
 ·go_enter Tryz.func81,Tryz.ntmps81;go_wp2_with (first | (go_at_call 107;refine (within_any _ _ _ _).mono ?_;rintro e w2 ⟨rfl,rfl⟩) | (go_at_call 108;refine (HK.out _ cl0).mono ?_;rintro e w1 ⟨rfl,hb1⟩;(have hq7:=ru7;(try clear hc hf);obtain ⟨hb,hc,hf,hz⟩:=hq7;(try simp only [zsz7] at hz);(try have hz0:=z07 w w1);(try have hz1:=z17 w w1);(try have hz2:=z27 w w1))) | (go_at_call 110;refine (HL.out _ cl0).mono ?_;rintro e w1 ⟨rfl,hb1⟩;(have hq7:=ru7;(try clear hc hf);obtain ⟨hb,hc,hf,hz⟩:=hq7;(try simp only [zsz7] at hz);(try have hz0:=z07 w w1);(try have hz1:=z17 w w1);(try have hz2:=z27 w w1))) | (go_at_call 112;refine (HR.out _ cl0).mono ?_;rintro e w1 ⟨rfl,hb1⟩;(have hq7:=ru7;(try clear hc hf);obtain ⟨hb,hc,hf,hz⟩:=hq7;(try simp only [zsz7] at hz);(try have hz0:=z07 w w1);(try have hz1:=z17 w w1);(try have hz2:=z27 w w1))) | (go_at_call 114;refine (HS.out _ cl0).mono ?_;rintro e w1 ⟨s,rfl,hs,hb1⟩;(have hq7:=ru7;(try clear hc hf);obtain ⟨hb,hc,hf,hz⟩:=hq7;(try simp only [zsz7] at hz);(try have hz0:=z07 w w1);(try have hz1:=z17 w w1);(try have hz2:=z27 w w1))));go_ret
  exact ⟨ret_int (by simp [validE,validB,h5]),cl0⟩
 cases h6 : lives.all isLifeB
 ·go_enter Tryz.func81,Tryz.ntmps81;go_wp2_with (first | (go_at_call 107;refine (within_any _ _ _ _).mono ?_;rintro e w2 ⟨rfl,rfl⟩) | (go_at_call 108;refine (HK.out _ cl0).mono ?_;rintro e w1 ⟨rfl,hb1⟩;(have hq7:=ru7;(try clear hc hf);obtain ⟨hb,hc,hf,hz⟩:=hq7;(try simp only [zsz7] at hz);(try have hz0:=z07 w w1);(try have hz1:=z17 w w1);(try have hz2:=z27 w w1))) | (go_at_call 110;refine (HL.out _ cl0).mono ?_;rintro e w1 ⟨rfl,hb1⟩;(have hq7:=ru7;(try clear hc hf);obtain ⟨hb,hc,hf,hz⟩:=hq7;(try simp only [zsz7] at hz);(try have hz0:=z07 w w1);(try have hz1:=z17 w w1);(try have hz2:=z27 w w1))) | (go_at_call 112;refine (HR.out _ cl0).mono ?_;rintro e w1 ⟨rfl,hb1⟩;(have hq7:=ru7;(try clear hc hf);obtain ⟨hb,hc,hf,hz⟩:=hq7;(try simp only [zsz7] at hz);(try have hz0:=z07 w w1);(try have hz1:=z17 w w1);(try have hz2:=z27 w w1))) | (go_at_call 114;refine (HS.out _ cl0).mono ?_;rintro e w1 ⟨s,rfl,hs,hb1⟩;(have hq7:=ru7;(try clear hc hf);obtain ⟨hb,hc,hf,hz⟩:=hq7;(try simp only [zsz7] at hz);(try have hz0:=z07 w w1);(try have hz1:=z17 w w1);(try have hz2:=z27 w w1))));go_ret
  exact ⟨ret_int (by simp [validE,validB,h6]),cl0⟩
 cases h7 : rules.all isRuleB
 ·go_enter Tryz.func81,Tryz.ntmps81;go_wp2_with (first | (go_at_call 107;refine (within_any _ _ _ _).mono ?_;rintro e w2 ⟨rfl,rfl⟩) | (go_at_call 108;refine (HK.out _ cl0).mono ?_;rintro e w1 ⟨rfl,hb1⟩;(have hq7:=ru7;(try clear hc hf);obtain ⟨hb,hc,hf,hz⟩:=hq7;(try simp only [zsz7] at hz);(try have hz0:=z07 w w1);(try have hz1:=z17 w w1);(try have hz2:=z27 w w1))) | (go_at_call 110;refine (HL.out _ cl0).mono ?_;rintro e w1 ⟨rfl,hb1⟩;(have hq7:=ru7;(try clear hc hf);obtain ⟨hb,hc,hf,hz⟩:=hq7;(try simp only [zsz7] at hz);(try have hz0:=z07 w w1);(try have hz1:=z17 w w1);(try have hz2:=z27 w w1))) | (go_at_call 112;refine (HR.out _ cl0).mono ?_;rintro e w1 ⟨rfl,hb1⟩;(have hq7:=ru7;(try clear hc hf);obtain ⟨hb,hc,hf,hz⟩:=hq7;(try simp only [zsz7] at hz);(try have hz0:=z07 w w1);(try have hz1:=z17 w w1);(try have hz2:=z27 w w1))) | (go_at_call 114;refine (HS.out _ cl0).mono ?_;rintro e w1 ⟨s,rfl,hs,hb1⟩;(have hq7:=ru7;(try clear hc hf);obtain ⟨hb,hc,hf,hz⟩:=hq7;(try simp only [zsz7] at hz);(try have hz0:=z07 w w1);(try have hz1:=z17 w w1);(try have hz2:=z27 w w1))));go_ret
  exact ⟨ret_int (by simp [validE,validB,h7]),cl0⟩
 have hv : validB ⟨ver,kinds,lives,rules⟩ = true:=by
  simp only [validB,h1,h5,h6,h7,Bool.true_and,Bool.and_true,Bool.and_eq_true,decide_eq_true_eq];omega
 have HS:=Lib.hid (HS0.out hv)
 have hsm:=HV.out hv
 have HVv:=Lib.hid hv
 clear HS0 HV hv
 go_enter Tryz.func81,Tryz.ntmps81;go_wp2_with (first | (go_at_call 107;refine (within_any _ _ _ _).mono ?_;rintro e w2 ⟨rfl,rfl⟩) | (go_at_call 108;refine (HK.out _ cl0).mono ?_;rintro e w1 ⟨rfl,hb1⟩;(have hq7:=ru7;(try clear hc hf);obtain ⟨hb,hc,hf,hz⟩:=hq7;(try simp only [zsz7] at hz);(try have hz0:=z07 w w1);(try have hz1:=z17 w w1);(try have hz2:=z27 w w1))) | (go_at_call 110;refine (HL.out _ cl0).mono ?_;rintro e w1 ⟨rfl,hb1⟩;(have hq7:=ru7;(try clear hc hf);obtain ⟨hb,hc,hf,hz⟩:=hq7;(try simp only [zsz7] at hz);(try have hz0:=z07 w w1);(try have hz1:=z17 w w1);(try have hz2:=z27 w w1))) | (go_at_call 112;refine (HR.out _ cl0).mono ?_;rintro e w1 ⟨rfl,hb1⟩;(have hq7:=ru7;(try clear hc hf);obtain ⟨hb,hc,hf,hz⟩:=hq7;(try simp only [zsz7] at hz);(try have hz0:=z07 w w1);(try have hz1:=z17 w w1);(try have hz2:=z27 w w1))) | (go_at_call 114;refine (HS.out _ cl0).mono ?_;rintro e w1 ⟨s,rfl,hs,hb1⟩;(have hq7:=ru7;(try clear hc hf);obtain ⟨hb,hc,hf,hz⟩:=hq7;(try simp only [zsz7] at hz);(try have hz0:=z07 w w1);(try have hz1:=z17 w w1);(try have hz2:=z27 w w1))));go_ret
 exact ⟨ret_int (by simp [validE,HVv.out]),cl0⟩
end
section
open Go
theorem rdl_inv {w : World} {O : Nat → Prop} {d : D} {ds : List D} {us : List Value} (h : RdL w O (d :: ds) us) : ∃ u us',us = u :: us' ∧ Rd w O d u ∧ RdL w O ds us':=by
 cases us with
 | nil=>have:=h.len;simp at this
 | cons u us'=>exact ⟨u,us',rfl,h.at_ 0 _ _ rfl rfl,⟨by have:=h.len;simpa using this,fun j d u h1 h2=>h.at_ (j + 1) d u (by simpa using h1) (by simpa using h2)⟩⟩
theorem rdl_nil {w : World} {O : Nat → Prop} {us : List Value} (h : RdL w O [] us) : us = []:=by
 have:=h.len;exact List.eq_nil_of_length_eq_zero (by simpa using this)
theorem row_of {α : Type} {k : Nat} {g : α → List D} {R : α → List Value → Prop} {w : World} {O : Nat → Prop} {xs : List α} {v : Value} (h : Rd w O (.sl k (xs.map g)) v)
  (hR : ∀ x ∈ xs,∀ us,RdL w O (g x) us → R x us) : ∃ a cap,v = .slice a xs.length cap ∧ Row k R w (fun _=>True) xs a cap:=by
 obtain ⟨a,cap,vs,rfl,hle,hk,hc,hr⟩:=h.sl_inv
 rw [List.length_map] at hle ⊢
 refine ⟨a,cap,rfl,⟨hle,fun i x hx=>?_⟩⟩
 have hgx : (xs.map g)[i]? = some (g x):=by rw [List.getElem?_map,hx];rfl
 obtain ⟨b,off,ha,_,_,hcell⟩:=hc i _ hgx
 have hl : (g x).length = k:=hk _ (List.mem_of_getElem? hgx)
 refine ⟨b,off,ha,trivial,(List.range k).map (vs i),by simp,hR x (List.mem_of_getElem? hx) _ ⟨by simp [hl],fun j d u h1 h2=>?_⟩,fun j u hu=>?_⟩
 ·have hj : j < k:=by rw [← hl];exact (List.getElem?_eq_some_iff.1 h1).1
  simp [hj] at h2
  subst h2
  exact hr i _ hgx j d h1
 ·have hj : j < k:=by have:=(List.getElem?_eq_some_iff.1 hu).1;simpa using this
  simp [hj] at hu
  subst hu
  exact hcell j hj
theorem i64_of {n : Int} (h : -9223372036854775807 ≤ n ∧ n ≤ 9223372036854775807) : I64 n:=⟨by omega,by omega⟩
variable {w : World} {O : Nat → Prop}
theorem str_of {xs : List ByteArray} {v : Value} (h : Rd w O (slS xs) v) : ∃ a cap,v = .slice a xs.length cap ∧ RStrs w (fun _=>True) xs a cap:=
 row_of h fun x _ us hu=>by
  obtain ⟨u,us',rfl,h1,h2⟩:=rdl_inv hu
  rw [rdl_nil h2,h1.val rfl];rfl
theorem int_of {xs : List Int} {v : Value} (hs : ∀ n ∈ xs,-9223372036854775807 ≤ n ∧ n ≤ 9223372036854775807) (h : Rd w O (slI xs) v) : ∃ a cap,v = .slice a xs.length cap ∧ RInts w (fun _=>True) xs a cap:=
 row_of h fun x hx us hu=>by
  obtain ⟨u,us',rfl,h1,h2⟩:=rdl_inv hu
  rw [rdl_nil h2,h1.val rfl];exact ⟨rfl,i64_of (hs x hx)⟩
theorem fld_of {f : Fld} {us : List Value} (hs : SaneF f) (hk : -9223372036854775807 ≤ f.kind ∧ f.kind ≤ 9223372036854775807) (h : RdL w O (fldC f) us) : RFld w (fun _=>True) f us:=by
 obtain ⟨u1,t1,rfl,h1,h⟩:=rdl_inv h
 obtain ⟨u2,t2,rfl,h2,h⟩:=rdl_inv h
 obtain ⟨u3,t3,rfl,h3,h⟩:=rdl_inv h
 obtain ⟨u4,t4,rfl,h4,h⟩:=rdl_inv h
 obtain ⟨u5,t5,rfl,h5,h⟩:=rdl_inv h
 obtain ⟨u6,t6,rfl,h6,h⟩:=rdl_inv h
 obtain ⟨u7,t7,rfl,h7,h⟩:=rdl_inv h
 obtain ⟨u8,t8,rfl,h8,hz⟩:=rdl_inv h
 obtain rfl:=rdl_nil hz
 obtain ⟨wa,wc,rfl,hw⟩:=str_of h7
 obtain ⟨ga,gc,rfl,hg⟩:=int_of hs.ws h8
 rw [h1.val rfl,h2.val rfl,h3.val rfl,h4.val rfl,h5.val rfl,h6.val rfl]
 exact ⟨wa,wc,ga,gc,rfl,i64_of hk,i64_of hs.lo,i64_of hs.hi,hw,hg⟩
theorem knd_of {k : Knd} {us : List Value} (hs : ∀ f ∈ k.fields,SaneF f ∧ (-9223372036854775807 ≤ f.kind ∧ f.kind ≤ 9223372036854775807)) (hk : (-9223372036854775807 ≤ k.lo ∧ k.lo ≤ 9223372036854775807) ∧ (-9223372036854775807 ≤ k.hi ∧ k.hi ≤ 9223372036854775807)) (h : RdL w O (kndC k) us) : RKnd w (fun _=>True) k us:=by
 obtain ⟨u1,t1,rfl,h1,h⟩:=rdl_inv h
 obtain ⟨u2,t2,rfl,h2,h⟩:=rdl_inv h
 obtain ⟨u3,t3,rfl,h3,h⟩:=rdl_inv h
 obtain ⟨u4,t4,rfl,h4,hz⟩:=rdl_inv h
 obtain rfl:=rdl_nil hz
 obtain ⟨fa,fc,rfl,hf⟩:=row_of (R:=RFld w (fun _=>True)) h4 fun f hf us hu=>fld_of (hs f hf).1 (hs f hf).2 hu
 rw [h1.val rfl,h2.val rfl,h3.val rfl]
 exact ⟨fa,fc,rfl,i64_of hk.1,i64_of hk.2,hf⟩
theorem lif_of {x : Lif} {us : List Value} (hm : ∀ m ∈ x.moves,(-9223372036854775807 ≤ m.1 ∧ m.1 ≤ 9223372036854775807) ∧ (-9223372036854775807 ≤ m.2 ∧ m.2 ≤ 9223372036854775807)) (h : RdL w O (lifC x) us) : RLif w (fun _=>True) x us:=by
 obtain ⟨u1,t1,rfl,h1,h⟩:=rdl_inv h
 obtain ⟨u2,t2,rfl,h2,h⟩:=rdl_inv h
 obtain ⟨u3,t3,rfl,h3,hz⟩:=rdl_inv h
 obtain rfl:=rdl_nil hz
 obtain ⟨sa,sc,rfl,hs⟩:=str_of h2
 obtain ⟨ma,mc,rfl,hmv⟩:=row_of (R:=RTwo) h3 fun m hmm us hu=>by
  obtain ⟨a,t,rfl,g1,hu⟩:=rdl_inv hu
  obtain ⟨b,t,rfl,g2,hu⟩:=rdl_inv hu
  rw [rdl_nil hu,g1.val rfl,g2.val rfl]
  exact ⟨rfl,i64_of (hm m hmm).1,i64_of (hm m hmm).2⟩
 rw [h1.val rfl]
 exact ⟨sa,sc,ma,mc,rfl,hs,hmv⟩
theorem rul_of {r : Rul} {us : List Value} (hn : -9223372036854775807 ≤ r.n ∧ r.n ≤ 9223372036854775807) (h : RdL w O (rulC r) us) : RRul r us:=by
 obtain ⟨u1,t1,rfl,h1,h⟩:=rdl_inv h
 obtain ⟨u2,t2,rfl,h2,h⟩:=rdl_inv h
 obtain ⟨u3,t3,rfl,h3,h⟩:=rdl_inv h
 obtain ⟨u4,t4,rfl,h4,h⟩:=rdl_inv h
 obtain ⟨u5,t5,rfl,h5,h⟩:=rdl_inv h
 obtain rfl:=rdl_nil h
 rw [h1.val rfl,h2.val rfl,h3.val rfl,h4.val rfl,h5.val rfl]
 exact ⟨rfl,i64_of hn⟩
theorem sch_valid (x : Sch) (g : Good x) : APure Tryz.prog 81 [schD x] (iD (validE x)):=by
 refine ⟨enters_of Tryz.func81 (by kernel_rfl) rfl,fun w O vs hv hg=>?_⟩
 obtain ⟨v,t,rfl,h1,h⟩:=rdl_inv hv
 rw [rdl_nil h]
 obtain ⟨us,rfl,hu⟩:=h1.agg_inv
 obtain ⟨u1,t1,rfl,k1,hu⟩:=rdl_inv hu
 obtain ⟨u2,t2,rfl,k2,hu⟩:=rdl_inv hu
 obtain ⟨u3,t3,rfl,k3,hu⟩:=rdl_inv hu
 obtain ⟨u4,t4,rfl,k4,hu⟩:=rdl_inv hu
 rw [rdl_nil hu,k1.val rfl]
 obtain ⟨ka,kc,rfl,hk⟩:=row_of (R:=RKnd w (fun _=>True)) k2 fun k hk us hu=>knd_of (g.fsane k hk) (g.ksane k hk) hu
 obtain ⟨la,lc,rfl,hl⟩:=row_of (R:=RLif w (fun _=>True)) k3 fun k hk us hu=>lif_of (g.msane k hk) hu
 obtain ⟨ra,rc,rfl,hr⟩:=row_of (R:=RRul) k4 fun k hk us hu=>rul_of (g.rsane k hk) hu
 exact (valid_any x w (i64_of g.ver) hk hl hr g.sm g.src ⟨hg.pow,hg.words⟩).mono fun e w' ⟨e1,e2⟩=>⟨_,e1,.v _,e2⟩
end
section
open Go Go.RowKit Go.Shelf
theorem at_flds : ∃ f0 f1 : Field,Tryz.prog.underlying 33 = some (.struct #[f0,f1]) ∧ f0.name ≠ "_" ∧ f1.name ≠ "_" ∧ f0.type = 3 ∧ f1.type = 3 ∧ f0.offset = 0 ∧ f1.offset = 1:=
 ⟨_,_,Tryz.underlying33,by decide,by decide,rfl,rfl,rfl,rfl⟩
theorem int_pl : Tryz.prog.plainKey 3 = true:=by kernel_rfl
theorem at_held : Tryz.prog.stoodInHeld 33 = false:=by kernel_rfl
theorem at_guard : Tryz.prog.eqGuardType Tryz.prog.depth 33 = false:=by kernel_rfl
theorem run_at_eq (w : World) (a1 a2 c1 c2 : Int) : (Op.equalIn 10000 33 (.agg #[.int .i64 a1,.int .i64 a2]) (.agg #[.int .i64 c1,.int .i64 c2])).run Tryz.prog w = .ok ((a1 == c1) && (a2 == c2)) w:=by
 obtain ⟨f0,f1,hu,n0,n1,t0,t1,o0,o1⟩:=at_flds
 have hf : Tryz.prog.fieldsOf 33 = #[f0,f1]:=by simp [Program.fieldsOf,hu]
 have p0 : ∀ x y : Int,(Go.part 3 #[.int .i64 x,.int .i64 y] 0).run Tryz.prog w = .ok (.int .i64 x) w:=fun x y=>run_part_plain w int_pl rfl
 have p1 : ∀ x y : Int,(Go.part 3 #[.int .i64 x,.int .i64 y] 1).run Tryz.prog w = .ok (.int .i64 y) w:=fun x y=>run_part_plain w int_pl rfl
 have q : ∀ x y : Int,(Op.equalIn 9999 3 (.int .i64 x) (.int .i64 y)).run Tryz.prog w = .ok (x == y) w:=fun x y=>run_equalIn_int w 9998 _ _ _ _ _ Tryz.underlying3
 rw [show (10000 : Nat) = 9999 + 1 from rfl,run_equalIn_agg w 9999 _ _ _ (by rw [hf];exact hu) at_held,hf]
 simp only [Op.eqFields,if_pos n0,if_pos n1,t0,t1,o0,o1,Sem.run_bind,Result.andThen,p0,p1,q,Sem.run_ite,Sem.run_pure]
 cases (a1 == c1) <;> cases (a2 == c2) <;> rfl
theorem rdl_ints2 {w : World} {O : Nat → Prop} {u : Value} {a b : Int} (h : Rd w O (.agg [.v (.int .i64 a),.v (.int .i64 b)]) u) : u = .agg #[.int .i64 a,.int .i64 b]:=by
 obtain ⟨vs,rfl,hv⟩:=h.agg_inv
 have hl:=hv.len
 match vs,hl,hv with
 | [x,y],_,hv=>
  rw [(hv.at_ 0 _ _ rfl rfl).val rfl,(hv.at_ 1 _ _ rfl rfl).val rfl]
section
variable {ρ : Operand → D} {σ : Store}
theorem yd_ateq {o : Oper} {t' : TypeId} {x y : Operand} {a1 a2 c1 c2 : Int} (ho : o.op = .binOp .eql 33 x y t') (hx : ρ x = .agg [.v (.int .i64 a1),.v (.int .i64 a2)]) (hy : ρ y = .agg [.v (.int .i64 c1),.v (.int .i64 c2)]) : Yd Tryz.prog o ρ σ (.v (.bool ((a1 == c1) && (a2 == c2)))):=by
 intro w X η hη hst
 obtain ⟨dst,op,ty,pos,aft,g⟩:=o
 simp only at ho
 subst ho
 have h1:=hη x (by simp [Op.operands])
 have h2:=hη y (by simp [Op.operands])
 rw [hx] at h1
 rw [hy] at h2
 refine yu_run (s:=do eqGuard .eql 33 x y (η x) (η y);binOp .eql 33 (η x) (η y)) (u:=.bool ((a1 == c1) && (a2 == c2))) ?_ (Ex.refl w) (.v _)
 rw [rdl_ints2 h1,rdl_ints2 h2]
 simp only [Sem.run_bind,run_eqGuard_agg w .eql _ _ _ _ _ at_guard,Result.andThen,run_eql_struct,run_at_eq]
end
end
section
open Go Go.RowKit Go.Shelf
abbrev oKp : Knd:=⟨nPerson,0,9,[⟨nId,nE,nE,0,0,0,[],[]⟩]⟩
abbrev oKo : Knd:=⟨nOrder,0,9,[⟨nId,nE,nE,0,0,0,[],[]⟩,⟨nOf,nPerson,nE,1,1,9,[],[]⟩]⟩
abbrev oX : Sch:=⟨0,[oKp,oKo],[],[]⟩
abbrev oW : Wd:=[[[0],[1]],[[0,0],[1,0],[2,1]]]
theorem l31_orders : APure Tryz.prog 47 [] (.tup [schD oX,slW oW]):=by
 refine APure.of_call (enterX mixed tget_ok Tryz.func47 (by kernel_rfl) rfl Tryz.ntmps47 rfl ?_);intro BB
 repeat' (first | refine sk2 ?_ | (intro b;conv=>whnf))
 refine Rs.ct tget_ok (m:=2) rfl rfl rfl rfl rfl rfl rfl ?_
 repeat' (first | refine sk2 ?_ | (intro b;conv=>whnf))
 refine Rt.le ?_
 repeat' (first | exact Le.refl _ | exact le_nil _ | exact LeL.nil | exact LeR.nil | refine LeL.cons ?_ ?_ | refine LeR.cons ?_ ?_ | refine le_agg ?_ | refine le_tup ?_ | refine le_sl ?_)
theorem oX_cls : Cls oX:=by
 refine ⟨by decide,by decide,fun k hk=>?_,by decide,(fun l hl=>nomatch hl),by decide,(fun r hr=>nomatch hr)⟩
 simp only [List.mem_cons,List.not_mem_nil,or_false] at hk
 have f1 : CF ⟨nId,nE,nE,0,0,0,[],[]⟩:=.e0 (by decide) (by decide) (by decide) (by decide) (by decide) (by decide)
 have f2 : CF ⟨nOf,nPerson,nE,1,1,9,[],[]⟩:=.e0 (by decide) (by decide) (by decide) (by decide) (by decide) (by decide)
 rcases hk with rfl | rfl
 ·exact ⟨by decide,by decide,by decide,by decide,fun f hf=>by rw [List.mem_singleton] at hf;subst hf;exact f1⟩
 ·exact ⟨by decide,by decide,by decide,by decide,fun f hf=>by
   simp only [List.mem_cons,List.not_mem_nil,or_false] at hf
   rcases hf with rfl | rfl
   ·exact f1
   ·exact f2⟩
theorem oW_ws : Ws oW:=⟨by decide,by decide,by decide⟩
theorem oS_ss : Ss (fullE oW):=Ss.of_len (full_lens oW) oW_ws
theorem o_t1 : togetherE oX oW (fullE oW) 1 2 = ([(0,1),(1,2)],0):=by decide +kernel
theorem o_t2 : togetherE oX oW (fullE oW) 0 0 = ([(0,0),(1,0),(1,1)],0):=by decide +kernel
theorem o_t3 : togetherE oX oW (fullE oW) 1 0 = ([(1,0)],0):=by decide +kernel
theorem o_v : validS oX oW (fullE oW) = true:=by decide +kernel
theorem o_s : sizeE (fullE oW) = 5:=by decide +kernel
theorem sk90 {A B : Prop} (k : B) (h : Hd7 B → A:=by intro hk7q;(first | refine sb0 ?_ | refine sb1 ?_ | ((with_reducible refine' Cp.by ?hc ?_);(case hc=>first | exact l31_orders | exact cl_full_p oW oW_ws | exact HT1 | exact HT2 | exact HT3 | exact HV1 | exact HS1)) | ((with_reducible refine' CE.pure ?hc ?_);(case hc=>first | exact l31_orders | exact cl_full_p oW oW_ws | exact HT1 | exact HT2 | exact HT3 | exact HV1 | exact HS1)));exact hk7q.run) : A:=h ⟨k⟩
theorem l31_lives : APure Tryz.prog 18 [] (bD true):=by
 have HV:=sch_valid oX oX_cls.good
 have HT1 : APure Tryz.prog 14 [schD oX,slW oW,slS2 (fullE oW),atD 1 2] (.tup [slAt [(0,1),(1,2)],iD 0]):=by have:=cl_together oX oW (fullE oW) oW_ws oS_ss 1 2 HV;rw [o_t1] at this;exact this
 have HT2 : APure Tryz.prog 14 [schD oX,slW oW,slS2 (fullE oW),atD 0 0] (.tup [slAt [(0,0),(1,0),(1,1)],iD 0]):=by have:=cl_together oX oW (fullE oW) oW_ws oS_ss 0 0 HV;rw [o_t2] at this;exact this
 have HT3 : APure Tryz.prog 14 [schD oX,slW oW,slS2 (fullE oW),atD 1 0] (.tup [slAt [(1,0)],iD 0]):=by have:=cl_together oX oW (fullE oW) oW_ws oS_ss 1 0 HV;rw [o_t3] at this;exact this
 have HV1 : APure Tryz.prog 21 [schD oX,slW oW,slS2 (fullE oW)] (bD true):=by have:=cl_valid oX oW (fullE oW) oW_ws oS_ss HV;rw [o_v] at this;exact this
 have HS1 : APure Tryz.prog 17 [slS2 (fullE oW)] (iD 5):=by have:=cl_size (fullE oW) oS_ss;rw [o_s] at this;exact this
 refine APure.of_call (enterX mixed tget_ok Tryz.func18 (by kernel_rfl) rfl Tryz.ntmps18 rfl ?_);intro BB
 repeat' (first | refine sk90 ?_ | (intro b;conv=>whnf) | ((with_reducible refine Br.t ?h ?_);(case h=>rfl)) | ((with_reducible refine Br.f ?h ?_);(case h=>rfl)) | ((with_reducible refine' Ot.yd ?hyd ?_);(case hyd=>exact yd_ateq rfl rfl rfl)))
 refine Rt.pure (congrArg bD ?_)
 rfl
end
section
open Go
theorem validE0 {x : Sch} (h : validB x = true) : validE x = 0:=by unfold validE;rw [if_pos h]
theorem validE1 {x : Sch} (h : validB x = false) : validE x = 1:=by unfold validE;rw [h];rfl
theorem sk91 {A B : Prop} (k : B) (h : Hd7 B → A:=by intro hk7q;(first | refine sb0 ?_ | refine sb1 ?_ | ((with_reducible refine' Cp.by ?hc ?_);(case hc=>first | exact r09_within _ _ _ | exact HK | exact HL | exact r09_isRule _)) | ((with_reducible refine' CE.pure ?hc ?_);(case hc=>first | exact r09_within _ _ _ | exact HK | exact HL | exact r09_isRule _)));exact hk7q.run) : A:=h ⟨k⟩
theorem r09_valid (x : Sch) (g : Good x) : APure Tryz.prog 94 [schD x] (iD (validE x)):=by
 refine APure.of_call (enterX mixed tget_ok Tryz.func94 (by kernel_rfl) rfl Tryz.ntmps94 rfl ?_);intro BB
 cases h1 : withinB x.version 0 1048576
 ·have hE : validE x = 1:=validE1 (by simp [validB,h1])
  repeat' (first | refine sk91 ?_ | (intro b;conv=>whnf) | (with_reducible refine Br.d (fun hc=>?_) (fun hc=>?_)) | (with_reducible refine Br.b (fun hc=>?_) (fun hc=>?_)))
  all_goals (refine Rt.pure (congrArg iD ?_);exact hE.symm)
 by_cases h2 : x.kinds.length ≤ 6
 case neg=>
  have hE : validE x = 1:=validE1 (by simp [validB,h2])
  repeat' (first | refine sk91 ?_ | (intro b;conv=>whnf) | (with_reducible refine Br.d (fun hc=>?_) (fun hc=>?_)) | (with_reducible refine Br.b (fun hc=>?_) (fun hc=>?_)))
  all_goals (refine Rt.pure (congrArg iD ?_);exact hE.symm)
 by_cases h3 : x.lives.length ≤ 6
 case neg=>
  have hE : validE x = 1:=validE1 (by simp [validB,h3])
  repeat' (first | refine sk91 ?_ | (intro b;conv=>whnf) | (with_reducible refine Br.d (fun hc=>?_) (fun hc=>?_)) | (with_reducible refine Br.b (fun hc=>?_) (fun hc=>?_)))
  all_goals (refine Rt.pure (congrArg iD ?_);exact hE.symm)
 by_cases h4 : x.rules.length ≤ 16
 case neg=>
  have hE : validE x = 1:=validE1 (by simp [validB,h4])
  repeat' (first | refine sk91 ?_ | (intro b;conv=>whnf) | (with_reducible refine Br.d (fun hc=>?_) (fun hc=>?_)) | (with_reducible refine Br.b (fun hc=>?_) (fun hc=>?_)))
  all_goals (refine Rt.pure (congrArg iD ?_);exact hE.symm)
 repeat' (first | refine sk91 ?_ | (intro b;conv=>whnf))
 refine lp_loop mixed tget_ok (γ:=Nat) (fun q=>[(3,iD q)]) (fun _=>[]) (fun q=>q ≤ x.kinds.length ∧ ∀ (m : Nat) y,m < q → x.kinds[m]? = some y → isKindB y = true) (fun q=>x.kinds.length - q) 0 rfl rfl ⟨by omega,fun m y hm=>by omega⟩ ?_
 rintro q ⟨hq,hno⟩
 by_cases hlt : q < x.kinds.length
 ·obtain ⟨k,hk⟩ : ∃ k,x.kinds[(q : Int).toNat]? = some k:=⟨_,List.getElem?_eq_getElem hlt⟩
  have hkm:=List.mem_of_getElem? hk
  have hks:=g.sm.kinds k hkm
  have HK:=r09_isKind k (fun f hf=>⟨(hks.fields f hf).nwords,(hks.fields f hf).nweights⟩) hks.nfields
  repeat' (first | refine sk91 ?_ | (intro b;conv=>whnf) | (with_reducible refine Br.d (fun hc=>?_) (fun hc=>?_)) | (with_reducible refine Br.b (fun hc=>?_) (fun hc=>?_)))
  ·exact ⟨q + 1,rfl,rfl,⟨by omega,upto_succ hno hk (by assumption)⟩,by omega⟩
  ·refine Rt.pure (congrArg iD ?_);exact (validE1 (by simp only [validB,all_snoc_false hk (by assumption : isKindB k = false)];simp)).symm
 have hall1 : x.kinds.all isKindB = true:=all_of_upto (fun m y hm hy=>hno m y (by omega) hy)
 clear hno
 repeat' (first | refine sk91 ?_ | (intro b;conv=>whnf))
 refine lp_loop mixed tget_ok (γ:=Nat) (fun q=>[(4,iD q)]) (fun _=>[]) (fun q=>q ≤ x.lives.length ∧ ∀ (m : Nat) y,m < q → x.lives[m]? = some y → isLifeB y = true) (fun q=>x.lives.length - q) 0 rfl rfl ⟨by omega,fun m y hm=>by omega⟩ ?_
 clear hq hlt
 rintro q ⟨hq,hno⟩
 by_cases hlt : q < x.lives.length
 ·obtain ⟨k,hk⟩ : ∃ k,x.lives[(q : Int).toNat]? = some k:=⟨_,List.getElem?_eq_getElem hlt⟩
  have hkm:=List.mem_of_getElem? hk
  have hks:=g.sm.lives k hkm
  have HL:=r09_isLife k hks.nstates hks.nmoves
  repeat' (first | refine sk91 ?_ | (intro b;conv=>whnf) | (with_reducible refine Br.d (fun hc=>?_) (fun hc=>?_)) | (with_reducible refine Br.b (fun hc=>?_) (fun hc=>?_)))
  ·exact ⟨q + 1,rfl,rfl,⟨by omega,upto_succ hno hk (by assumption)⟩,by omega⟩
  ·refine Rt.pure (congrArg iD ?_);exact (validE1 (by simp only [validB,all_snoc_false hk (by assumption : isLifeB k = false)];simp)).symm
 have hall2 : x.lives.all isLifeB = true:=all_of_upto (fun m y hm hy=>hno m y (by omega) hy)
 clear hno
 repeat' (first | refine sk91 ?_ | (intro b;conv=>whnf))
 refine lp_loop mixed tget_ok (γ:=Nat) (fun q=>[(5,iD q)]) (fun _=>[]) (fun q=>q ≤ x.rules.length ∧ ∀ (m : Nat) y,m < q → x.rules[m]? = some y → isRuleB y = true) (fun q=>x.rules.length - q) 0 rfl rfl ⟨by omega,fun m y hm=>by omega⟩ ?_
 clear hq hlt
 rintro q ⟨hq,hno⟩
 by_cases hlt : q < x.rules.length
 ·obtain ⟨k,hk⟩ : ∃ k,x.rules[(q : Int).toNat]? = some k:=⟨_,List.getElem?_eq_getElem hlt⟩
  repeat' (first | refine sk91 ?_ | (intro b;conv=>whnf) | (with_reducible refine Br.d (fun hc=>?_) (fun hc=>?_)) | (with_reducible refine Br.b (fun hc=>?_) (fun hc=>?_)))
  ·exact ⟨q + 1,rfl,rfl,⟨by omega,upto_succ hno hk (by assumption)⟩,by omega⟩
  ·refine Rt.pure (congrArg iD ?_);exact (validE1 (by simp only [validB,all_snoc_false hk (by assumption : isRuleB k = false)];simp)).symm
 have hall3 : x.rules.all isRuleB = true:=all_of_upto (fun m y hm hy=>hno m y (by omega) hy)
 have hvb : validB x = true:=by simp only [validB,h1,hall1,hall2,hall3];simp;omega
 have hE:=validE0 hvb
 have HS:=r09_source x (srcOK_of hvb g)
 have hsr:=g.src hvb
 repeat' (first | refine sk91 ?_ | (intro b;conv=>whnf))
 refine CE.some HS ?_
 rintro _ ⟨s,rfl,hs⟩
 repeat' (first | refine sk91 ?_ | (intro b;conv=>whnf))
 refine Rt.pure (congrArg iD ?_)
 exact hE.symm
end
section
open Go Go.RowKit Go.Shelf
theorem sk92 {A B : Prop} (k : B) (h : Hd7 B → A:=by intro hk7q;(first | refine sb0 ?_ | refine sb1 ?_ | ((with_reducible refine' Cp.by ?hc ?_);(case hc=>first | exact l31_lives | exact cl_full_p w hwo.ws | exact r31_full_p w hwo.ws | exact HSame)) | ((with_reducible refine' CE.pure ?hc ?_);(case hc=>first | exact l31_lives | exact cl_full_p w hwo.ws | exact r31_full_p w hwo.ws | exact HSame)));exact hk7q.run) : A:=h ⟨k⟩
theorem sk93 {A B : Prop} (k : B) (h : Hd7 B → A:=by intro hk7q;(first | refine sb0 ?_ | refine sb1 ?_ | ((with_reducible refine' Cp.by ?hc ?_);(case hc=>first | exact HC1 | exact HR1 | exact HC2 | exact HR2)) | ((with_reducible refine' CE.pure ?hc ?_);(case hc=>first | exact HC1 | exact HR1 | exact HC2 | exact HR2)));exact hk7q.run) : A:=h ⟨k⟩
theorem sk94 {A B : Prop} (k : B) (h : Hd7 B → A:=by intro hk7q;(first | refine sb0 ?_ | refine sb1 ?_ | ((with_reducible refine' Cp.by ?hc ?_);(case hc=>exact l31_lives)) | ((with_reducible refine' CE.pure ?hc ?_);(case hc=>exact l31_lives)));exact hk7q.run) : A:=h ⟨k⟩
end
section
open Go
variable {x : Sch} {w : Wd}
def Sub (a b : Sb) : Prop:=∀ k i,keptB a k i = true → keptB b k i = true
theorem Sub.refl (a : Sb) : Sub a a:=fun _ _ h=>h
theorem Sub.trans {a b c : Sb} (h : Sub a b) (k : Sub b c) : Sub a c:=fun i j e=>k i j (h i j e)
theorem sub_clear (s : Sb) (k i : Nat) : Sub (clearB s k i) s:=fun a b h=>by
 rw [keptB_clear] at h
 simp only [Bool.and_eq_true] at h
 exact h.1
theorem sub_sweep1 (t : Sb × Bool) (p : Nat × Nat) : Sub (sweep1 x w t p).1 t.1:=by
 unfold sweep1
 split
 ·exact sub_clear _ _ _
 ·exact Sub.refl _
theorem sub_fold : ∀ (l : List (Nat × Nat)) (t : Sb × Bool),Sub (l.foldl (sweep1 x w) t).1 t.1
 | [],_=>Sub.refl _
 | p :: l,t=>(sub_fold l (sweep1 x w t p)).trans (sub_sweep1 t p)
theorem sub_shrinkN : ∀ (n : Nat) (s : Sb),Sub (shrinkN x w n s) s
 | 0,s=>Sub.refl s
 | n + 1,s=>by
  unfold shrinkN
  split
  ·exact (sub_shrinkN n _).trans (sub_fold _ _)
  ·exact sub_fold _ _
theorem sub_shrink (s : Sb) : Sub (shrinkE x w s) s:=sub_shrinkN _ _
theorem lens_shrink (s : Sb) : (shrinkE x w s).map List.length = s.map List.length:=shrink_lens s _
theorem fold_flag : ∀ (l : List (Nat × Nat)) (t : Sb × Bool),t.2 = true → (l.foldl (sweep1 x w) t).2 = true
 | [],_,h=>h
 | p :: l,t,h=>fold_flag l _ (by
  unfold sweep1
  split
  ·rfl
  ·exact h)
theorem fold_right {s : Sb} : ∀ (l : List (Nat × Nat)),(l.foldl (sweep1 x w) (s,false)).2 = false → ∀ p ∈ l,(keptB s p.1 p.2 && wrongE x w s p.1 p.2) = false
 | [],_,p,hp=>by cases hp
 | q :: l,h,p,hp=>by
  rw [List.foldl_cons] at h
  have hq : (keptB s q.1 q.2 && wrongE x w s q.1 q.2) = false:=by
   cases hc : (keptB s q.1 q.2 && wrongE x w s q.1 q.2) with
   | false=>rfl
   | true=>
    have : (sweep1 x w (s,false) q).2 = true:=by unfold sweep1;simp only [hc,if_true]
    rw [fold_flag l _ this] at h
    cases h
  rcases List.mem_cons.1 hp with rfl | hp
  ·exact hq
  ·have : sweep1 x w (s,false) q = (s,false):=by unfold sweep1;simp only [hq];rfl
   rw [this] at h
   exact fold_right l h p hp
theorem shrink_fix : ∀ (n : Nat) (s : Sb),sizeE s ≤ n → (sweepE x w (shrinkE x w s)).2 = false
 | n,s,hn=>by
  rw [shrink_step s]
  cases h : (sweepE x w s).2 with
  | false=>simp only [Bool.false_eq_true,if_false];exact h
  | true=>
   simp only [if_true]
   have:=sweep_lt h
   cases n with
   | zero=>omega
   | succ n=>exact shrink_fix n _ (by omega)
theorem checked_lens {a b : Sb} (h : a.map List.length = b.map List.length) : checkedE x w a = checkedE x w b:=by
 unfold checkedE shapedB
 rw [h]
theorem valid_shrink {s : Sb} (h : checkedE x w s = 0) : validS x w (shrinkE x w s) = true:=by
 unfold validS
 rw [checked_lens (lens_shrink s),h]
 simp only [decide_true,Bool.true_and,List.all_eq_true]
 intro p hp
 rw [fold_right (s:=shrinkE x w s) (posOf (shrinkE x w s)) (shrink_fix _ s (Nat.le_refl _)) p hp]
 rfl
end
section
open Go Go.RowKit Go.Shelf
theorem Vd.frz {α : Type} {R : ORep α} {den : α → D} (hf : Frz R den) {a : α} {v : Value} {s σ τ ρ : Store} (h : R a v s) (hp : σ.Perm (s ++ ρ)) (hsub : ∀ b,b ∈ keysS τ → b ∈ keysS ρ) : Vd σ τ (.v v) (den a):=
 fun w X u hs hr=>rd_own_sub ((Vs.frz hf h hp).run w X u hs hr).2 hsub
theorem cl_great_p (x : Sch) (w : Wd) (s : Sb) (hw : Ws w) (hs : Ss s) (HV : APure Tryz.prog 81 [schD x] (iD (validE x))) : APure Tryz.prog 19 [schD x,slW w,slS2 s] (.tup [slS2 (greatE x w s).1,iD (greatE x w s).2]):=
 APure.of_call ((cl_greatest x w s hw hs HV).vs2 fun d σ ⟨v,s1,s2,e,e2,h⟩=>by
  subst e e2
  exact ⟨_,[],Vs.vd ⟨s1 ++ s2,by simp⟩ (Vd.tup (.cons (Vd.frz frz_s h (List.Perm.refl _) (fun b hb=>by cases hb)) (.cons (Vd.same (fun b hb=>by cases hb) _) .nil))),rfl⟩)
theorem Ss.lens {a b : Sb} (h : a.map List.length = b.map List.length) (hb : Ss b) : Ss a:=by
 have hl : a.length = b.length:=by have:=congrArg List.length h;simpa using this
 refine ⟨by rw [hl];exact hb.nk,fun l hl2=>?_⟩
 have : l.length ∈ a.map List.length:=List.mem_map.2 ⟨l,hl2,rfl⟩
 rw [h] at this
 obtain ⟨m,hm,e⟩:=List.mem_map.1 this
 rw [← e];exact hb.nr m hm
theorem sk95 {A B : Prop} (k : B) (h : Hd7 B → A:=by intro hk7q;(first | refine sb0 ?_ | refine sb1 ?_ | ((with_reducible refine' Cp.by ?hc ?_);(case hc=>first | exact HC1 | exact HR1 | exact HC2 | exact HV1 | exact HW1 | exact HS1)) | ((with_reducible refine' CE.pure ?hc ?_);(case hc=>first | exact HC1 | exact HR1 | exact HC2 | exact HV1 | exact HW1 | exact HS1)));exact hk7q.run) : A:=h ⟨k⟩
theorem sk96 {A B : Prop} (k : B) (h : Hd7 B → A:=by intro hk7q;(first | refine sb0 ?_ | refine sb1 ?_ | ((with_reducible refine' Cp.by ?hc ?_);(case hc=>first | exact HC1 | exact HR1 | exact HS1)) | ((with_reducible refine' CE.pure ?hc ?_);(case hc=>first | exact HC1 | exact HR1 | exact HS1)));exact hk7q.run) : A:=h ⟨k⟩
end
section
open Go
theorem fix_of {k : Knd} (hN : (k.fields.map Fld.name).Nodup) {j : Nat} {f : Fld} (h : k.fields[j]? = some f) : fieldIx k f.name = j:=
 idx_found h (seq_refl _) fun i y hi hy=>by
  cases hs : seq y.name f.name with
  | false=>rfl
  | true=>
   exfalso
   have he:=(seq_iff _ _).1 hs
   have hlt : i < (k.fields.map Fld.name).length:=by rw [List.length_map];exact (List.getElem?_eq_some_iff.1 hy).1
   have:=(List.getElem?_inj (j:=j) hlt hN).1 (by rw [List.getElem?_map,List.getElem?_map,hy,h];simp [he])
   omega
theorem at_of {F : List Fld} (hN : (F.map Fld.name).Nodup) {j n : Nat} {f g : Fld} (h : F[j]? = some f) (h2 : F[n]? = some g) (e : f.name = g.name) : j = n:=
 (List.getElem?_inj (by rw [List.length_map];exact (List.getElem?_eq_some_iff.1 h).1) hN).1 (by rw [List.getElem?_map,List.getElem?_map,h,h2];simp [e])
theorem idx_true {α : Type} {p : α → Bool} {xs : List α} {a : α} (h : 0 ≤ idx p xs) (ha : xs[(idx p xs).toNat]? = some a) : p a = true:=by
 unfold idx at *
 split at h
 ·rename_i o ho
  obtain ⟨h1,h2,_⟩:=List.findIdx?_eq_some_iff_getElem.1 ho
  simp only [ho,Int.toNat_natCast] at ha
  rw [List.getElem?_eq_getElem h1] at ha
  cases ha;exact h2
 ·omega
theorem has_neg {l : List Fld} {n : ByteArray} (h : hasIx l n < 0) : ∀ f ∈ l,f.name ≠ n:=by
 intro f hf e
 have:=idx_any (fun f : Fld=>seq f.name n) l
 have h2 : l.any (fun f : Fld=>seq f.name n) = true:=List.any_eq_true.2 ⟨f,hf,(seq_iff _ _).2 e⟩
 rw [h2] at this
 have:=of_decide_eq_true this
 unfold hasIx at h;omega
theorem has_pos {l : List Fld} {n : ByteArray} (h : 0 ≤ hasIx l n) : ∃ f ∈ l,f.name = n:=by
 have:=idx_any (fun f : Fld=>seq f.name n) l
 unfold hasIx at h
 rw [decide_eq_true h] at this
 obtain ⟨f,hf,e⟩:=List.any_eq_true.1 this.symm
 exact ⟨f,hf,(seq_iff _ _).1 e⟩
def ofN (t : Nat) (lo hi : Int) : Fld:=⟨nOf,knm t,nE,1,lo,hi,[],[]⟩
def byN : Fld:=⟨nBy,knm 0,nE,1,0,8,[],[]⟩
def PartTo (kj : Knd) (i : Nat) : Prop:=∃ n lo hi a b,kj.fields[1]? = some (ofN i lo hi) ∧ 1 < n ∧ kj.fields[n]? = some (partF a b) ∧ ∀ (n' : Nat) (g : Fld),kj.fields[n']? = some g → g.kind = 7 → n' = n
def SmQ (ks : List Knd) (t : Nat) (sm : List Fld) : Prop:=sm = [] ∨ ∃ (y : Knd) (n : Nat) (g : Fld),ks[t]? = some y ∧ y.fields[n]? = some g ∧ plainK g.kind = true ∧ sm = [sameF g.name]
def PtQ (ks : List Knd) (t i : Nat) (pt : List Fld) : Prop:=pt = [] ∨ ∃ (a b : Int) (y : Knd) (n : Nat),(0 ≤ a ∧ a < 3) ∧ (0 ≤ b ∧ b < 8) ∧ ks[t]? = some y ∧ y.fields[n]? = some (totF (knm i)) ∧ pt = [partF a b]
def RefQ (ks : List Knd) (i : Nat) (f1 : List Fld) : Prop:=f1 = [] ∨ ∃ (t : Nat) (lo hi : Int) (sm pt : List Fld),t < i ∧ (lo = 0 ∨ lo = 1) ∧ hi ∈ [(4 : Int),3,8,2] ∧ SmQ ks t sm ∧ PtQ ks t i pt ∧ f1 = ofN t lo hi :: (sm ++ pt)
def TotQ (ks : List Knd) (i : Nat) (tt : List Fld) : Prop:=tt = [] ∨ ∃ (j : Nat) (kj : Knd),i < j ∧ ks[j]? = some kj ∧ PartTo kj i ∧ tt = [totF (knm j)]
def KForm (ks : List Knd) (i : Nat) (k : Knd) : Prop:=∃ lo r idl f1 f2 p1 p2 tt,lo ∈ [(0 : Int),1,2,4,1,2] ∧ (0 ≤ r ∧ r < 5) ∧ idl ∈ [(0 : Int),1,100,-3] ∧ k = ⟨knm i,lo,lo + r,idF idl :: (f1 ++ (f2 ++ (p1 ++ (p2 ++ tt))))⟩ ∧ RefQ ks i f1 ∧
 (f2 = [] ∨ (0 < i ∧ f2 = [byN])) ∧ PlainF p1 ∧ PlainF p2 ∧ (p2 = [] ∨ ∃ g gs,p2 = g :: gs ∧ hasIx (idF idl :: (f1 ++ (f2 ++ p1))) g.name < 0) ∧ TotQ ks i tt
def Ext (ks ks' : List Knd) : Prop:=∀ (i : Nat) (y : Knd),ks[i]? = some y → ∃ y',ks'[i]? = some y' ∧ ∃ t,y'.fields = y.fields ++ t ∧ ∀ g ∈ t,g.kind ≠ 7
theorem get_ext {y y' : Knd} {t : List Fld} (h : y'.fields = y.fields ++ t) {n : Nat} {g : Fld} (hg : y.fields[n]? = some g) : y'.fields[n]? = some g:=by
 rw [h,List.getElem?_append_left (List.getElem?_eq_some_iff.1 hg).1];exact hg
theorem PartTo.ext {y y' : Knd} {t : List Fld} {i : Nat} (h : PartTo y i) (e : y'.fields = y.fields ++ t) (ht : ∀ g ∈ t,g.kind ≠ 7) : PartTo y' i:=by
 obtain ⟨n,lo,hi,a,b,h1,h2,h3,h4⟩:=h
 refine ⟨n,lo,hi,a,b,get_ext e h1,h2,get_ext e h3,fun n' g hg hk=>?_⟩
 rw [e] at hg
 by_cases hl : n' < y.fields.length
 ·rw [List.getElem?_append_left hl] at hg;exact h4 n' g hg hk
 ·rw [List.getElem?_append_right (by omega)] at hg;exact absurd hk (ht g (List.mem_of_getElem? hg))
theorem SmQ.ext {ks ks' : List Knd} {t : Nat} {sm : List Fld} (h : SmQ ks t sm) (e : Ext ks ks') : SmQ ks' t sm:=by
 rcases h with rfl | ⟨y,n,g,h1,h2,h3,h4⟩
 ·exact .inl rfl
 ·obtain ⟨y',g1,_,g2,_⟩:=e t y h1
  exact .inr ⟨y',n,g,g1,get_ext g2 h2,h3,h4⟩
theorem PtQ.ext {ks ks' : List Knd} {t i : Nat} {sm : List Fld} (h : PtQ ks t i sm) (e : Ext ks ks') : PtQ ks' t i sm:=by
 rcases h with rfl | ⟨a,b,y,n,ha,hb,h1,h2,h3⟩
 ·exact .inl rfl
 ·obtain ⟨y',g1,_,g2,_⟩:=e t y h1
  exact .inr ⟨a,b,y',n,ha,hb,g1,get_ext g2 h2,h3⟩
theorem RefQ.ext {ks ks' : List Knd} {i : Nat} {f1 : List Fld} (h : RefQ ks i f1) (e : Ext ks ks') : RefQ ks' i f1:=by
 rcases h with rfl | ⟨t,lo,hi,sm,pt,h1,h2,h3,h4,h5,h6⟩
 ·exact .inl rfl
 ·exact .inr ⟨t,lo,hi,sm,pt,h1,h2,h3,h4.ext e,h5.ext e,h6⟩
theorem TotQ.ext {ks ks' : List Knd} {i : Nat} {tt : List Fld} (h : TotQ ks i tt) (e : Ext ks ks') : TotQ ks' i tt:=by
 rcases h with rfl | ⟨j,kj,h1,h2,h3,h4⟩
 ·exact .inl rfl
 ·obtain ⟨y',g1,_,g2,g3⟩:=e j kj h2
  exact .inr ⟨j,y',h1,g1,h3.ext g2 g3,h4⟩
theorem KForm.ext {ks ks' : List Knd} {i : Nat} {k : Knd} (h : KForm ks i k) (e : Ext ks ks') : KForm ks' i k:=by
 obtain ⟨lo,r,idl,f1,f2,p1,p2,tt,h1,h2,h3,h4,h5,h6,h7,h8,h9,h10⟩:=h
 exact ⟨lo,r,idl,f1,f2,p1,p2,tt,h1,h2,h3,h4,h5.ext e,h6,h7,h8,h9,h10.ext e⟩
theorem KForm.name {ks : List Knd} {i : Nat} {k : Knd} (h : KForm ks i k) : k.name = knm i:=by
 obtain ⟨lo,r,idl,f1,f2,p1,p2,tt,h1,h2,h3,h4,_⟩:=h
 rw [h4]
theorem PlainF.kd {fs : List Fld} (h : PlainF fs) : ∀ f ∈ fs,f.kind = 2 ∨ f.kind = 3 ∨ f.kind = 4 ∨ f.kind = 5:=by
 cases h <;> simp
theorem uniq7 {A B : List Fld} {c : Fld} (hA : ∀ g ∈ A,g.kind ≠ 7) (hB : ∀ g ∈ B,g.kind ≠ 7) {n : Nat} {g : Fld} (h : (A ++ c :: B)[n]? = some g) (hk : g.kind = 7) : n = A.length:=by
 by_cases h1 : n < A.length
 ·rw [List.getElem?_append_left h1] at h;exact absurd hk (hA g (List.mem_of_getElem? h))
 ·rw [List.getElem?_append_right (by omega)] at h
  by_cases h2 : n - A.length = 0
  ·omega
  ·obtain ⟨m,hm⟩ : ∃ m,n - A.length = m + 1:=⟨n - A.length - 1,by omega⟩
   rw [hm,List.getElem?_cons_succ] at h
   exact absurd hk (hB g (List.mem_of_getElem? h))
theorem ext_snoc (ks : List Knd) (k : Knd) : Ext ks (ks ++ [k]):=fun i y h=>⟨y,by rw [List.getElem?_append_left (List.getElem?_eq_some_iff.1 h).1];exact h,[],by simp,by simp⟩
theorem ext_set (ks : List Knd) (tw : Nat) (y : Knd) (k : Knd) (nm : ByteArray) (hy : ks[tw]? = some y) : Ext ks (ks.set tw ⟨y.name,y.lo,y.hi,y.fields ++ [totF nm]⟩ ++ [k]):=fun i z h=>by
 have hl:=(List.getElem?_eq_some_iff.1 h).1
 rw [List.getElem?_append_left (by rw [List.length_set];exact hl)]
 by_cases e : i = tw
 ·subst e
  rw [hy] at h;cases h
  exact ⟨_,List.getElem?_set_self hl,[totF nm],rfl,fun g hg=>by rw [List.mem_singleton] at hg;subst hg;show (6 : Int) ≠ 7;decide⟩
 ·rw [List.getElem?_set_ne (Ne.symm e)]
  exact ⟨z,h,[],by simp,by simp⟩
theorem smq_of {ks : List Knd} {t : Nat} {y : Knd} {sm : List Fld} (hy : ks[t]? = some y) (hs : sm = [] ∨ ∃ g,0 ≤ copyIx y ∧ y.fields[(copyIx y).toNat]? = some g ∧ sm = [sameF g.name]) : SmQ ks t sm:=by
 rcases hs with rfl | ⟨g,h1,h2,h3⟩
 ·exact .inl rfl
 ·exact .inr ⟨y,_,g,hy,h2,idx_true (p:=fun f : Fld=>plainK f.kind) h1 h2,h3⟩
theorem KChain.form {ks : List Knd} (h : KChain ks) : ∀ (i : Nat) k,ks[i]? = some k → KForm ks i k:=by
 induction h with
 | nil=>intro i k h;simp at h
 | @step ks ks' k h m l ih=>
  obtain ⟨lo,r,idl,f1,f2,p1,p2,hlo,hr,hid,rfl,hR,hf2,hp1,hp2,hp2n⟩:=m.ex
  have hf2' : f2 = [] ∨ (0 < ks.length ∧ f2 = [byN]):=by
   rcases hf2 with rfl | ⟨y,hy,hl,rfl⟩
   ·exact .inl rfl
   ·exact .inr ⟨by omega,by rw [byF,byN,(ih 0 y hy).name]⟩
  have ofn : ∀ {t : Nat} {y : Knd} (lo hi : Int),ks[t]? = some y → ofF y lo hi = ofN t lo hi:=fun lo hi hy=>by rw [ofF,ofN,(ih _ _ hy).name]
  cases hR with
  | none hks=>
   subst hks
   intro i k hk
   have hi : i = 0:=by have:=(List.getElem?_eq_some_iff.1 hk).1;simp at this;omega
   subst hi
   rw [List.nil_append,List.getElem?_cons_zero] at hk
   cases hk
   exact ⟨lo,r,idl,[],f2,p1,p2,[],hlo,hr,hid,by simp,.inl rfl,hf2',hp1,hp2,hp2n,.inl rfl⟩
  | of tw y lo1 hi1 sm hy hl1 hh1 hs=>
   intro i k hk
   by_cases hi : i < ks.length
   ·rw [List.getElem?_append_left hi] at hk
    exact (ih i k hk).ext (ext_snoc _ _)
   ·have hi : i = ks.length:=by have:=(List.getElem?_eq_some_iff.1 hk).1;rw [List.length_append,List.length_singleton] at this;omega
    subst hi
    rw [List.getElem?_append_right (Nat.le_refl _),Nat.sub_self,List.getElem?_cons_zero] at hk
    cases hk
    refine ⟨lo,r,idl,_,f2,p1,p2,[],hlo,hr,hid,by simp,.inr ⟨tw,lo1,hi1,sm,[],(List.getElem?_eq_some_iff.1 hy).1,hl1,hh1,(smq_of hy hs).ext (ext_snoc _ _),.inl rfl,by rw [ofn _ _ hy];simp⟩,hf2',hp1,hp2,hp2n,.inl rfl⟩
  | part tw y lo1 hi1 a b sm hy hl1 hh1 hs ht ha hb=>
   have hto:=(List.getElem?_eq_some_iff.1 hy).1
   have hE:=ext_set ks tw y ⟨knm ks.length,lo,lo + r,idF idl :: (ofF y lo1 hi1 :: (sm ++ [partF a b]) ++ (f2 ++ (p1 ++ p2)))⟩ (knm ks.length) hy
   have hsm7 : ∀ g ∈ sm,g.kind ≠ 7:=by
    rcases hs with rfl | ⟨g,_,_,rfl⟩
    ·simp
    ·intro g hg;rw [List.mem_singleton] at hg;subst hg;show (8 : Int) ≠ 7;decide
   have hrest7 : ∀ g ∈ f2 ++ (p1 ++ p2),g.kind ≠ 7:=by
    intro g hg
    rcases List.mem_append.1 hg with hg | hg
    ·rcases hf2' with rfl | ⟨_,rfl⟩
     ·cases hg
     ·rw [List.mem_singleton] at hg;subst hg;show (1 : Int) ≠ 7;decide
    ·rcases List.mem_append.1 hg with hg | hg
     ·have:=hp1.kd g hg;omega
     ·have:=hp2.kd g hg;omega
   have hP : PartTo ⟨knm ks.length,lo,lo + r,idF idl :: (ofF y lo1 hi1 :: (sm ++ [partF a b]) ++ (f2 ++ (p1 ++ p2)))⟩ tw:=by
    have hF : idF idl :: (ofF y lo1 hi1 :: (sm ++ [partF a b]) ++ (f2 ++ (p1 ++ p2))) = (idF idl :: ofN tw lo1 hi1 :: sm) ++ partF a b :: (f2 ++ (p1 ++ p2)):=by rw [ofn _ _ hy];simp
    refine ⟨(idF idl :: ofN tw lo1 hi1 :: sm).length,lo1,hi1,a,b,by rw [hF];rfl,by simp,by show (idF idl :: _)[_]? = _;rw [hF,List.getElem?_append_right (Nat.le_refl _),Nat.sub_self];rfl,fun n' g hg hk=>?_⟩
    change (idF idl :: _)[n']? = _ at hg
    rw [hF] at hg
    refine uniq7 (fun g hg=>?_) hrest7 hg hk
    rcases List.mem_cons.1 hg with rfl | hg
    ·show (0 : Int) ≠ 7;decide
    ·rcases List.mem_cons.1 hg with rfl | hg
     ·show (1 : Int) ≠ 7;decide
     ·exact hsm7 g hg
   intro i k hk
   by_cases hi : i < ks.length
   ·have hk':=hk
    rw [List.getElem?_append_left (by rw [List.length_set];exact hi)] at hk
    by_cases e : i = tw
    ·subst e
     rw [List.getElem?_set_self hi] at hk
     cases hk
     obtain ⟨lo2,r2,idl2,g1,g2,q1,q2,tt,h1,h2,h3,h4,h5,h6,h7,h8,h9,h10⟩:=ih i y hy
     have htt : tt = []:=by
      rcases h10 with rfl | ⟨j,kj,_,_,_,rfl⟩
      ·rfl
      ·exact absurd rfl (has_neg ht (totF (knm j)) (by rw [h4];simp))
     subst htt
     refine ⟨lo2,r2,idl2,g1,g2,q1,q2,[totF (knm ks.length)],h1,h2,h3,by rw [h4];simp,h5.ext hE,h6,h7,h8,h9,.inr ⟨ks.length,_,hi,by rw [List.getElem?_append_right (by rw [List.length_set];exact Nat.le_refl _),List.length_set,Nat.sub_self];rfl,hP,rfl⟩⟩
    ·rw [List.getElem?_set_ne (Ne.symm e)] at hk
     exact (ih i k hk).ext hE
   ·have hi : i = ks.length:=by have:=(List.getElem?_eq_some_iff.1 hk).1;rw [List.length_append,List.length_set,List.length_singleton] at this;omega
    subst hi
    rw [List.getElem?_append_right (by rw [List.length_set];exact Nat.le_refl _),List.length_set,Nat.sub_self,List.getElem?_cons_zero] at hk
    cases hk
    refine ⟨lo,r,idl,_,f2,p1,p2,[],hlo,hr,hid,by simp,.inr ⟨tw,lo1,hi1,sm,[partF a b],hto,hl1,hh1,(smq_of hy hs).ext hE,.inr ⟨a,b,⟨y.name,y.lo,y.hi,y.fields ++ [totF (knm ks.length)]⟩,y.fields.length,ha,hb,?_,?_,rfl⟩,by rw [ofn _ _ hy]⟩,hf2',hp1,hp2,hp2n,.inl rfl⟩
    ·rw [List.getElem?_append_left (by rw [List.length_set];exact hto)];exact List.getElem?_set_self hto
    ·show (y.fields ++ [_])[_]? = _
     rw [List.getElem?_append_right (Nat.le_refl _),Nat.sub_self];rfl
end
end Go.Proofs.YtjbbmjjildhfbaaGreatDoor
