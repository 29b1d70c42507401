/- A part of the proof: SrcC Own SchemaA SchemaB SrcD SchemaC SchemaD. -/
import Derived.Test.YtjbbmjjildhfbaaGreatDoorW22
import Derived.Deep.RegionHeld3
import Derived.Maps.AppendAt
import Derived.Lib.ConvBytes
import Derived.Deep.QuietTactic
import Derived.BigQuiet
import Derived.RegionTactic
import Derived.BigRegion
set_option maxRecDepth 100000
set_option maxHeartbeats 4000000
set_option linter.unusedVariables false
set_option linter.unusedSimpArgs false
namespace Go.Proofs.YtjbbmjjildhfbaaGreatDoor
section
open Go.RowKit Go.Shelf
theorem field_1 (n o u:ByteArray) (lo hi:Int) (nw ng:Nat) (w:World) (wa ga:Option Addr) (cw cg:Nat) (hr1:n.size≤1000000) (hr2:o.size≤1000000) (hr3:u.size≤1000000) (h1:I64 lo) (h2:I64 hi) (hp:Pow10 w) (hwd:WordsAt w) :
  Calls Tryz.prog 140 #[.agg #[.string n,.string o,.string u,.int .i64 1,.int .i64 lo,.int .i64 hi,.slice wa nw cw,.slice ga ng cg]] w fun e w'=>∃ s:ByteArray,e = .returned (.string s)∧s.size≤16+n.size+o.size+u.size+intB lo+intB hi∧Ex w w':=by
 have c0:=hwd 1 _ rfl
 have lB:1<w.heap.size:=World.block_lt_of_cell? _ _ c0
 have i1:=ae9 lo
 have i2:=ae9 hi
 have HB:Hid (∀ t:ByteArray,t.size≤o.size+1→ab8 [.inr n,.inr t,.inl lo,.inl hi]+6≤16+n.size+o.size+u.size+intB lo+intB hi):=by unfold Hid;intro t ht;simp [ab8,au4];omega
 have HL:Hid (∀ (W:World) (N:Nat) (t:ByteArray),t.size≤o.size+1→Ex w W→N=W.heap.size→Calls Tryz.prog 139 #[.string ⟨#[114,101,102]⟩,.slice (some ⟨N,0,none⟩) 4 4] (W.alloc (.cells #[.iface 9 (.string n),.iface 9 (.string t),.iface 3 (.int .i64 lo),.iface 3 (.int .i64 hi)] 20)) fun e w'=>∃ s:ByteArray,e = .returned (.string s)∧s.size≤3+ab8 [.inr n,.inr t,.inl lo,.inl hi]+1∧Ex W w'):=Lib.hid (by
  intro W N t ht he hN
  subst hN
  exact al8 ⟨#[114,101,102]⟩ [.inr n,.inr t,.inl lo,.inl hi] W (by simp [h1,h2]) (hp.ex he) (by simp) (by have:=HB.out t ht;show 3+_≤_;omega))
 go_enter Tryz.func140,Tryz.ntmps140
 go_wp2
 go_region_held3 (fun W=>W.cell? ⟨w.heap.size,0,none⟩=some (.string n)∧W.cell? ⟨w.heap.size,1,none⟩=some (.string o)∧W.cell? ⟨w.heap.size,4,none⟩=some (.int .i64 lo)∧W.cell? ⟨w.heap.size,5,none⟩=some (.int .i64 hi)) (go_keep) (first|(go_at_call 141;refine (aF8 _ _).mono ?_;rintro e w1 ⟨t,rfl,ht,hb1⟩;(have hq7:=ru7;(try clear hc hf);obtain ⟨hb,hc,hf,hz⟩:=hq7;(try simp only [zsz7] at hz);(try have hz0:=z07 w w1);(try have hz1:=z17 w w1);(try have hz2:=z27 w w1)))|(go_at_call 139;refine (HL.out _ _ _ ht cl0 (by first|rfl|simp)).mono ?_;rintro e w1 ⟨s,rfl,hs,hb1⟩;(have hq7:=ru7;(try clear hc hf);obtain ⟨hb,hc,hf,hz⟩:=hq7;(try simp only [zsz7] at hz);(try have hz0:=z07 w w1);(try have hz1:=z17 w w1);(try have hz2:=z27 w w1))))
 all_goals go_wp2
 all_goals go_ret
 all_goals
  refine ⟨s,rfl,?_,cl0⟩
  have:=HB.out t ht
  omega
theorem field_4 (n o u:ByteArray) (lo hi:Int) (nw ng:Nat) (w:World) (wa ga:Option Addr) (cw cg:Nat) (hr1:n.size≤1000000) (hr2:o.size≤1000000) (hr3:u.size≤1000000) (h1:I64 lo) (h2:I64 hi) (hp:Pow10 w) (hwd:WordsAt w) :
  Calls Tryz.prog 140 #[.agg #[.string n,.string o,.string u,.int .i64 4,.int .i64 lo,.int .i64 hi,.slice wa nw cw,.slice ga ng cg]] w fun e w'=>∃ s:ByteArray,e = .returned (.string s)∧s.size≤16+n.size+o.size+u.size+intB lo+intB hi∧Ex w w':=by
 have c0:=hwd 4 _ rfl
 have lB:1<w.heap.size:=World.block_lt_of_cell? _ _ c0
 have i1:=ae9 lo
 have i2:=ae9 hi
 have HB:Hid (∀ t:ByteArray,t.size≤o.size+1→ab8 [.inr n,.inr t,.inl lo,.inl hi]+6≤16+n.size+o.size+u.size+intB lo+intB hi):=by unfold Hid;intro t ht;simp [ab8,au4];omega
 have HL:Hid (∀ (W:World) (N:Nat) (t:ByteArray),t.size≤o.size+1→Ex w W→N=W.heap.size→Calls Tryz.prog 139 #[.string ⟨#[100,97,121]⟩,.slice (some ⟨N,0,none⟩) 4 4] (W.alloc (.cells #[.iface 9 (.string n),.iface 9 (.string t),.iface 3 (.int .i64 lo),.iface 3 (.int .i64 hi)] 20)) fun e w'=>∃ s:ByteArray,e = .returned (.string s)∧s.size≤3+ab8 [.inr n,.inr t,.inl lo,.inl hi]+1∧Ex W w'):=Lib.hid (by
  intro W N t ht he hN
  subst hN
  exact al8 ⟨#[100,97,121]⟩ [.inr n,.inr t,.inl lo,.inl hi] W (by simp [h1,h2]) (hp.ex he) (by simp) (by have:=HB.out t ht;show 3+_≤_;omega))
 go_enter Tryz.func140,Tryz.ntmps140
 go_wp2
 go_region_held3 (fun W=>W.cell? ⟨w.heap.size,0,none⟩=some (.string n)∧W.cell? ⟨w.heap.size,1,none⟩=some (.string o)∧W.cell? ⟨w.heap.size,4,none⟩=some (.int .i64 lo)∧W.cell? ⟨w.heap.size,5,none⟩=some (.int .i64 hi)) (go_keep) (first|(go_at_call 141;refine (aF8 _ _).mono ?_;rintro e w1 ⟨t,rfl,ht,hb1⟩;(have hq7:=ru7;(try clear hc hf);obtain ⟨hb,hc,hf,hz⟩:=hq7;(try simp only [zsz7] at hz);(try have hz0:=z07 w w1);(try have hz1:=z17 w w1);(try have hz2:=z27 w w1)))|(go_at_call 139;refine (HL.out _ _ _ ht cl0 (by first|rfl|simp)).mono ?_;rintro e w1 ⟨s,rfl,hs,hb1⟩;(have hq7:=ru7;(try clear hc hf);obtain ⟨hb,hc,hf,hz⟩:=hq7;(try simp only [zsz7] at hz);(try have hz0:=z07 w w1);(try have hz1:=z17 w w1);(try have hz2:=z27 w w1))))
 all_goals go_wp2
 all_goals go_ret
 all_goals
  refine ⟨s,rfl,?_,cl0⟩
  have:=HB.out t ht
  omega
theorem field_5 (n o u:ByteArray) (lo hi:Int) (nw ng:Nat) (w:World) (wa ga:Option Addr) (cw cg:Nat) (hr1:n.size≤1000000) (hr2:o.size≤1000000) (hr3:u.size≤1000000) (h1:I64 lo) (h2:I64 hi) (hp:Pow10 w) (hwd:WordsAt w) :
  Calls Tryz.prog 140 #[.agg #[.string n,.string o,.string u,.int .i64 5,.int .i64 lo,.int .i64 hi,.slice wa nw cw,.slice ga ng cg]] w fun e w'=>∃ s:ByteArray,e = .returned (.string s)∧s.size≤16+n.size+o.size+u.size+intB lo+intB hi∧Ex w w':=by
 have c0:=hwd 5 _ rfl
 have lB:1<w.heap.size:=World.block_lt_of_cell? _ _ c0
 have i1:=ae9 lo
 have i2:=ae9 hi
 have HB:Hid (∀ t:ByteArray,t.size≤o.size+1→ab8 [.inr n,.inr t,.inl lo,.inl hi]+6≤16+n.size+o.size+u.size+intB lo+intB hi):=by unfold Hid;intro t ht;simp [ab8,au4];omega
 have HL:Hid (∀ (W:World) (N:Nat) (t:ByteArray),t.size≤o.size+1→Ex w W→N=W.heap.size→Calls Tryz.prog 139 #[.string ⟨#[115,116,101,112]⟩,.slice (some ⟨N,0,none⟩) 4 4] (W.alloc (.cells #[.iface 9 (.string n),.iface 9 (.string t),.iface 3 (.int .i64 lo),.iface 3 (.int .i64 hi)] 20)) fun e w'=>∃ s:ByteArray,e = .returned (.string s)∧s.size≤4+ab8 [.inr n,.inr t,.inl lo,.inl hi]+1∧Ex W w'):=Lib.hid (by
  intro W N t ht he hN
  subst hN
  exact al8 ⟨#[115,116,101,112]⟩ [.inr n,.inr t,.inl lo,.inl hi] W (by simp [h1,h2]) (hp.ex he) (by simp) (by have:=HB.out t ht;show 4+_≤_;omega))
 go_enter Tryz.func140,Tryz.ntmps140
 go_wp2
 go_region_held3 (fun W=>W.cell? ⟨w.heap.size,0,none⟩=some (.string n)∧W.cell? ⟨w.heap.size,1,none⟩=some (.string o)∧W.cell? ⟨w.heap.size,4,none⟩=some (.int .i64 lo)∧W.cell? ⟨w.heap.size,5,none⟩=some (.int .i64 hi)) (go_keep) (first|(go_at_call 141;refine (aF8 _ _).mono ?_;rintro e w1 ⟨t,rfl,ht,hb1⟩;(have hq7:=ru7;(try clear hc hf);obtain ⟨hb,hc,hf,hz⟩:=hq7;(try simp only [zsz7] at hz);(try have hz0:=z07 w w1);(try have hz1:=z17 w w1);(try have hz2:=z27 w w1)))|(go_at_call 139;refine (HL.out _ _ _ ht cl0 (by first|rfl|simp)).mono ?_;rintro e w1 ⟨s,rfl,hs,hb1⟩;(have hq7:=ru7;(try clear hc hf);obtain ⟨hb,hc,hf,hz⟩:=hq7;(try simp only [zsz7] at hz);(try have hz0:=z07 w w1);(try have hz1:=z17 w w1);(try have hz2:=z27 w w1))))
 all_goals go_wp2
 all_goals go_ret
 all_goals
  refine ⟨s,rfl,?_,cl0⟩
  have:=HB.out t ht
  omega
end
section
open Go.RowKit
def cellsOf {α:Type} (C:α→List Value) (xs:List α):List Value:=xs.flatMap C
theorem aR2 {α:Type} {C:α→List Value} {k:Nat}:∀ {xs:List α} {i:Nat} {x:α} {j:Nat} {v:Value},(∀ x,x∈xs→(C x).length=k)→xs[i]?=some x→(C x)[j]?=some v→(cellsOf C xs)[i*k+j]?=some v
 | [],i,x,j,v,_,h,_=>by simp at h
 | y :: xs,0,x,j,v,hk,h,hj=>by
  simp at h;subst h
  simp only [cellsOf,List.flatMap_cons,Nat.zero_mul,Nat.zero_add]
  rw [List.getElem?_append_left (List.getElem?_eq_some_iff.1 hj).1];exact hj
 | y :: xs,i+1,x,j,v,hk,h,hj=>by
  simp at h
  have:=aR2 (xs:=xs) (fun z hz=>hk z (List.mem_cons_of_mem _ hz)) h hj
  simp only [cellsOf,List.flatMap_cons] at *
  have hy:=hk y (List.mem_cons_self ..)
  rw [List.getElem?_append_right (by rw [hy,Nat.add_mul];omega),hy,Nat.add_mul]
  rw [show i*k+1*k+j - k=i*k+j from by omega];exact this
theorem aO4 {α:Type} {w:World} {base k:Nat} {e:TypeId} {v:Value} {C:α→List Value} {R:α→List Value→Prop} {xs:List α} {n:Nat} (hn:n=xs.length)
  (h:w.ownsRow base e k v n (cellsOf C xs)) (hk:∀ x,x∈xs→(C x).length=k) (hR:∀ x,x∈xs→R x (C x)) :
  ∃ a cap,v = .slice a xs.length cap∧Row k R w (fun b=>some b=v.ownBlock) xs a cap:=by
 subst hn
 rcases h.2 with ⟨rfl,h0⟩|⟨g,cap,cur,rfl,hg,hh,hle,_,hs,ht⟩
 ·have:xs=[]:=List.eq_nil_of_length_eq_zero h0
  subst this
  exact ⟨none,0,rfl,Row.nil⟩
 ·refine ⟨_,cap,rfl,hle,fun i x hx=>⟨g,0,rfl,rfl,C x,hk x (List.mem_of_getElem? hx),hR x (List.mem_of_getElem? hx),fun j u hj=>?_⟩⟩
  have h1:=aR2 hk hx hj
  rw [← ht] at h1
  have h2:cur.toList[i*k+j]?=some u:=by
   have:=(List.getElem?_eq_some_iff.1 h1).1
   rw [List.getElem?_take] at h1
   split at h1
   ·exact h1
   ·simp at h1
  simp only [World.cell?,hh,Nat.zero_add]
  simpa using h2
theorem aB4 {w:World} {base k n:Nat} {e:TypeId} {v:Value} {xs:List Value} (h:w.ownsRow base e k v n xs):∃ a cap,v = .slice a n cap:=by
 rcases h.2 with ⟨rfl,h0⟩|⟨g,cap,cur,rfl,_⟩
 ·exact ⟨none,0,by rw [h0]⟩
 ·exact ⟨_,_,rfl⟩
theorem Ex.appended {w wr w':World} {base k n:Nat} {e:TypeId} {v:Value} {xs:List Value} (he:Ex w wr) (h:wr.ownsRow base e k v n xs) (hB:w.heap.size≤base) (hg:wr.grownBy w' v.ownBlock):Ex w w':=
 he.grown hg (fun j hj=>by have:=(h.lt j hj).1;omega)
end
section
open Go.RowKit Go.Shelf
theorem ab0 {a b:Bool} (h:a=b):Ending.returned (.bool a) = .returned (.bool b):=by rw [h]
theorem az9 {k:IntKind} {a b:Int} (h:a=b):Ending.returned (.int k a) = .returned (.int k b):=by rw [h]
theorem ab1 (n a b:Int) (w:World):Calls Tryz.prog 107 #[.int .i64 n,.int .i64 a,.int .i64 b] w fun e w'=>e = .returned (.bool (ab5 n a b))∧w=w':=by
 by_cases h1:a≤n
 all_goals
  go_enter Tryz.func107,Tryz.ntmps107
  go_wp2
  go_ret
  exact ⟨ab0 (by simp [ab5];try omega),rfl⟩
theorem ai8 (lo hi a b:Int) (w:World):Calls Tryz.prog 130 #[.int .i64 lo,.int .i64 hi,.int .i64 a,.int .i64 b] w fun e w'=>e = .returned (.bool (ao6 lo hi a b))∧w=w':=by
 by_cases h1:a≤lo <;> by_cases h2:lo≤hi
 all_goals
  go_enter Tryz.func130,Tryz.ntmps130
  go_wp2
  go_ret
  exact ⟨ab0 (by simp only [ao6];rw [Bool.eq_iff_iff];simp;try omega),rfl⟩
theorem aK3 (c:UInt8) (w:World):Calls Tryz.prog 152 #[.int .u8 c.toNat] w fun e w'=>e = .returned (.bool (aA3 c))∧w=w':=by
 by_cases h1:97≤(c.toNat:Int)
 all_goals
  go_enter Tryz.func152,Tryz.ntmps152
  go_wp2
  go_ret
  exact ⟨ab0 (by simp [aA3];try omega),rfl⟩
theorem isDigit_any (c:UInt8) (w:World):Calls Tryz.prog 155 #[.int .u8 c.toNat] w fun e w'=>e = .returned (.bool (digit c))∧w=w':=by
 by_cases h1:48≤(c.toNat:Int)
 all_goals
  go_enter Tryz.func155,Tryz.ntmps155
  go_wp2
  go_ret
  exact ⟨ab0 (by simp [digit];try omega),rfl⟩
theorem bh8 (w:World) (l:List UInt8):Asks Tryz.prog 154 #[] w au3 RByte l (fun c=>!alnum c):=by
 refine ⟨enters_of Tryz.func154 (by kernel_rfl) rfl,fun c vs W hm hr hW=>?_⟩
 cases hr
 show Calls _ _ #[.int .u8 c.toNat] _ _
 cases h:aA3 c
 all_goals
  go_enter Tryz.func154,Tryz.ntmps154
  go_wp2_with (first|(go_at_call 152;refine (aK3 _ _).mono ?_;rintro e w' ⟨rfl,rfl⟩)|(go_at_call 155;refine (isDigit_any _ _).mono ?_;rintro e w' ⟨rfl,rfl⟩))
  go_ret
  exact ⟨ab0 (by simp [alnum,h]),Ex.refl _⟩
theorem bb7 (w:World) (e:TypeId) (s:ByteArray):Ex w (Lib.bytesWorld w e s):=
 ⟨rfl,rfl,rfl,
  by rw [Lib.bytesWorld_size];omega,fun b hb _=>Lib.bytesWorld_at_old w e s b hb⟩
theorem aS8 (w:World) (e:TypeId) (s:ByteArray) (cap:Nat) (hc:s.size≤cap):Row 1 RByte (Lib.bytesWorld w e s) (fun _=>True) (bytes s) (some ⟨w.heap.size,0,none⟩) cap:=
 ⟨by unfold bytes;simpa using hc,fun i x hx=>⟨w.heap.size,0,rfl,trivial,[.int .u8 x.toNat],rfl,rfl,fun j v hj=>by
  unfold bytes at hx
  obtain ⟨hi,rfl⟩:=List.getElem?_eq_some_iff.1 hx
  have hi':i<s.size:=by simpa using hi
  have:=Lib.bytesWorld_cell w e s i hi'
  cases j with
  | zero=>simp at hj;subst hj;simpa [List.getD,hi'] using this
  | succ j=>simp at hj⟩⟩
theorem aN5 (s:ByteArray):s.size=(bytes s).length:=by unfold bytes;rw [Array.length_toList];rfl
theorem ab6 (s:ByteArray) (w:World) (hs:s.size≤9223372036854775807):Calls Tryz.prog 129 #[.string s] w fun e w'=>e = .returned (.bool (isNm s))∧Ex w w':=by
 have HW:=Lib.hid (fun n (w:World)=>ab1 n 1 12 w)
 have HL:=Lib.hid aK3
 cases hw:ab5 s.size 1 12 with
 | false=>
  have HN:Hid (isNm s=false):=Lib.hid (by simp [isNm,hw])
  go_enter Tryz.func129,Tryz.ntmps129
  go_wp2_with (go_at_call 107;refine (HW.out _ _).mono ?_;rintro e w' ⟨rfl,rfl⟩)
  go_ret
  exact ⟨ab0 HN.out.symm,Ex.refl _⟩
 | true=>
  have h1:1≤s.size:=by simp [ab5] at hw;omega
  have h12:s.size≤12:=by simp [ab5] at hw;omega
  obtain ⟨c,r,hcr⟩:∃ c r,bytes s=c :: r:=by
   cases h:bytes s with
   | nil=>rw [aN5,h] at h1;simp at h1
   | cons c r=>exact ⟨c,r,rfl⟩
  have hs0:s[0]=c:=by
   have:(bytes s)[0]?=some c:=by rw [hcr];rfl
   unfold bytes at this
   simp only [Array.getElem?_toList] at this
   exact (Array.getElem?_eq_some_iff.1 this).2
  cases hl:aA3 c with
  | false=>
   have HN:Hid (isNm s=false):=Lib.hid (by simp [isNm,hw,hcr,hl])
   have HS:=Lib.hid hs0;clear hs0 hcr
   go_enter Tryz.func129,Tryz.ntmps129
   go_wp2_with (first|(go_at_call 107;refine (HW.out _ _).mono ?_;rintro e w' ⟨rfl,rfl⟩)|(go_at_call 152;rw [HS.out];refine (HL.out _ _).mono ?_;rintro e w' ⟨rfl,rfl⟩))
   go_ret
   exact ⟨ab0 HN.out.symm,Ex.refl _⟩
  | true=>
   have HN:Hid (isNm s=(bytes s).all alnum):=Lib.hid (by simp [isNm,hw,hcr,hl])
   have HA:=Lib.hid (am5 alnum (bytes s))
   have HS:=Lib.hid hs0;clear hs0 hcr
   have hlen:(bytes s).length≤140737488355328:=by rw [← aN5];omega
   have HC:Hid (∀ cap,s.size≤cap→Calls Tryz.prog 153 #[.slice (some ⟨w.heap.size,0,none⟩) s.size cap,.func (.func 154) #[] #[]] (Lib.bytesWorld w 5 s) fun e w'=>e = .returned (.bool ((bytes s).any fun c=>!alnum c))∧Ex (Lib.bytesWorld w 5 s) w'):=
    Lib.hid (fun cap hc=>by
     have:=contains_byt (aS8 w 5 s cap hc) hlen (bh8 _ _)
     rw [← aN5] at this;exact this)
   clear hlen
   have kc:=fun (w:World)=>Lib.run_convert_string_bytes (P:=Tryz.prog) w 9 204 5 s Tryz.underlying9 Tryz.underlying204 Tryz.underlying5
   have hcap:s.size≤grownCap w s.size 0 5:=grownCap_ge _ _ _ _
   go_enter Tryz.func129,Tryz.ntmps129
   go_wp2_with (first|(go_at_call 107;refine (HW.out _ _).mono ?_;rintro e w' ⟨rfl,rfl⟩)|(go_at_call 152;rw [HS.out];refine (HL.out _ _).mono ?_;rintro e w' ⟨rfl,rfl⟩)|(go_at_call 153;refine (HC.out _ hcap).mono ?_;rintro e w' ⟨rfl,hb⟩))
   go_ret
   exact ⟨ab0 (by rw [HN.out,← HA.out]),(bb7 _ _ _).trans hb⟩
end
section
open Go.RowKit Go.Shelf
theorem aG6 {w w':World} {F:Nat→Prop} {xs:List Int} {a:Option Addr} {cap:Nat} (h:RInts w F xs a cap) (hex:Same F w w') {i:Nat} (hi:i<xs.length) :
  ∃ x b off,Hid (xs[i]?=some x)∧a=some ⟨b,off,none⟩∧F b∧w'.cell? ⟨b,off+i,none⟩=some (.int .i64 x)∧I64 x:=by
 obtain ⟨b,off,ha,hb,vs,hl,⟨rfl,hx⟩,hc⟩:=h.at_ i xs[i] (List.getElem?_eq_getElem hi)
 exact ⟨xs[i],b,off,Lib.hid (List.getElem?_eq_getElem hi),ha,hb,hex.cell (p:=⟨b,off+i,none⟩) (by have:=hc 0 _ rfl;simpa using this) hb,hx⟩
theorem aQ4 (w:World) (l:List ByteArray) (hl:∀ s,s∈l→s.size≤9223372036854775807):Asks Tryz.prog 129 #[] w au3 RStr l isNm:=by
 refine ⟨enters_of Tryz.func129 (by kernel_rfl) rfl,fun s vs W hm hr hW=>?_⟩
 cases hr
 exact ab6 s W (hl s hm)
theorem aW4 (gs:List Int) (j:Nat) (x:Int) (h:gs[j]?=some x):(gs.take (j+1)).sum=(gs.take j).sum+x:=by
 rw [List.take_add_one,h];simp [List.sum_append]
theorem all_upto {α:Type} {p:α→Bool} {xs:List α} {j:Nat} (h:∀ i y,i<j→xs[i]?=some y→p y=true) (hj:xs.length≤j):xs.all p=true:=by
 rw [List.all_eq_true];intro x hx
 obtain ⟨i,hi⟩:=List.getElem?_of_mem hx
 exact h i x (by have:=(List.getElem?_eq_some_iff.1 hi).1;omega) hi
theorem all_no {α:Type} {p:α→Bool} {xs:List α} {j:Nat} {x:α} (hx:xs[j]?=some x) (hp:p x=false):xs.all p=false:=by
 rw [List.all_eq_false];exact ⟨x,List.mem_of_getElem? hx,by simp [hp]⟩
theorem all_more {α:Type} {xs:List α} {p:α→Bool} {j:Nat} {x:α} (hno:∀ i y,i<j→xs[i]?=some y→p y=true) (hx:xs[j]?=some x) (hp:p x=true) :
  ∀ i y,i<j+1→xs[i]?=some y→p y=true:=fun i y hi hy=>by
 rcases Nat.lt_or_ge i j with h|h
 ·exact hno i y h hy
 ·obtain rfl:i=j:=by omega
  rw [hx] at hy;cases hy;exact hp
theorem isPick_any (ws:List ByteArray) (gs:List Int) (w:World) {F:Nat→Prop} {wa ga:Option Addr} {wc gc:Nat} (hw:az4 w F ws wa wc) (hg:RInts w F gs ga gc)
  (hl:∀ s,s∈ws→s.size≤9223372036854775807) (hgl:gs.length≤1000000) (hwl:ws.length≤1000000) :
  Calls Tryz.prog 160 #[.slice wa ws.length wc,.slice ga gs.length gc] w fun e w'=>e = .returned (.bool (af4 ws gs))∧Ex w w':=by
 have HA:=Lib.hid (fun (w':World) (hx:Ex w w')=>all_str (hw.keep (w':=w') hx.same (fun _ h=>h) (fun _ _ _ h=>h)) (by omega) (aQ4 w' ws hl))
 go_enter Tryz.func160,Tryz.ntmps160
 go_wp2
 go_loop [5,10] (fun s i=>∃ j:Nat,j≤gs.length∧i = .int .i64 j∧Hid (∀ i y,i<j→gs[i]?=some y→ab5 y 0 1048576=true)∧∃ t:Int,Hid (t=(gs.take j).sum)∧0≤t∧t≤j*1048576∧s = .int .i64 t) (fun _ i=>gs.length - (intOf i).toNat)
 case atStart=>exact ⟨0,by omega,rfl,fun i y h=>by omega,0,by simp [Hid],by omega,by omega,rfl⟩
 case round=>
  obtain ⟨j,hj,rfl,hno,t,ht,ht0,ht1,rfl⟩:=hrel
  by_cases hlt:j<gs.length
  ·obtain ⟨x,b,off,hx,rfl,_,c0,hx1,hx2⟩:=aG6 hg (Ex.refl w).same hlt
   cases hp:ab5 x 0 1048576 with
   | true=>
    have h0:0≤x:=by simp [ab5] at hp;omega
    have h1:x≤1048576:=by simp [ab5] at hp;omega
    have Hi:=Lib.hid (all_more (p:=fun n=>ab5 n 0 1048576) hno.out hx.out hp);clear hno
    have Ht:=Lib.hid (aW4 gs j x hx.out)
    go_wp2_with (go_at_call 107;refine (ab1 _ _ _ _).mono ?_;rintro e w' ⟨rfl,rfl⟩)
    go_round
    case rel=>exact ⟨j+1,by omega,by go_num,Hi,t+x,by unfold Hid;rw [Ht.out,ht.out],by omega,by push_cast;omega,rfl⟩
    case measure=>simp [intOf];omega
   | false=>
    have Hr:Hid (af4 ws gs=false):=Lib.hid (by simp only [af4,all_no (p:=fun n=>ab5 n 0 1048576) hx.out hp,Bool.false_and])
    go_wp2_with (go_at_call 107;refine (ab1 _ _ _ _).mono ?_;rintro e w' ⟨rfl,rfl⟩)
    go_ret
    exact ⟨ab0 Hr.out.symm,Ex.refl _⟩
  ·have hall:(gs.all fun n=>ab5 n 0 1048576)=true:=all_upto (p:=fun n=>ab5 n 0 1048576) hno.out (by omega)
   have hsum:t=gs.sum:=by rw [ht.out,List.take_of_length_le (by omega)]
   cases h1:ab5 ws.length 1 12 with
   | false=>
    have Hr:Hid (af4 ws gs=false):=Lib.hid (by simp only [af4,h1,Bool.false_and,Bool.and_false])
    clear hall hsum
    go_wp2_with (go_at_call 107;refine (ab1 _ _ _ _).mono ?_;rintro e w' ⟨rfl,rfl⟩)
    go_ret
    exact ⟨ab0 Hr.out.symm,Ex.refl _⟩
   | true=>
    cases h2:decide (ws.length=gs.length) with
    | false=>
     have Hr:Hid (af4 ws gs=false):=Lib.hid (by simp only [af4,h2,Bool.false_and,Bool.and_false])
     have h2':((ws.length:Int) == (gs.length:Int))=false:=by simp at h2 ⊢;omega
     clear hall hsum h2
     go_wp2_with (go_at_call 107;refine (ab1 _ _ _ _).mono ?_;rintro e w' ⟨rfl,rfl⟩)
     go_ret
     exact ⟨ab0 Hr.out.symm,Ex.refl _⟩
    | true=>
     have h2':((ws.length:Int) == (gs.length:Int))=true:=by simp at h2 ⊢;omega
     by_cases h3:0<t
     ·have Hr:Hid (af4 ws gs=ws.all isNm):=Lib.hid (by rw [hsum] at h3;simp only [af4,hall,h1,h2,Bool.true_and,decide_eq_true h3])
      clear hall hsum h2
      go_wp2_with (first|(go_at_call 107;refine (ab1 _ _ _ _).mono ?_;rintro e w' ⟨rfl,rfl⟩)|(go_at_call 134;refine (HA.out _ (Ex.refl _)).mono ?_;rintro e w' ⟨rfl,hb⟩))
      go_ret
      exact ⟨ab0 Hr.out.symm,hb⟩
     ·have Hr:Hid (af4 ws gs=false):=Lib.hid (by rw [hsum] at h3;simp only [af4,decide_eq_false h3,Bool.false_and,Bool.and_false])
      clear hall hsum h2
      go_wp2_with (go_at_call 107;refine (ab1 _ _ _ _).mono ?_;rintro e w' ⟨rfl,rfl⟩)
      go_ret
      exact ⟨ab0 Hr.out.symm,Ex.refl _⟩
theorem cl26 {p:Prop} (h:p:=by first|exact hr1|exact hr2|exact hr3|exact hr4):p:=h
theorem isRule_any (r:Rul) (w:World) (hs:SmR r) :
  Calls Tryz.prog 113 #[.agg #[.string r.name,.string r.kind,.string r.a,.string r.b,.int .i64 r.n]] w fun e w'=>e = .returned (.bool (an3 r))∧Ex w w':=by
 have hr1:=hs.name.le
 have hr2:=hs.kind.le
 have hr3:=hs.a.le
 have hr4:=hs.b.le
 have hab:r.a.size+r.b.size≤9223372036854775807:=by have:=hs.a;have:=hs.b;unfold SmS at *;omega
 clear hs
 obtain ⟨rname,rkind,ra,rb,rn⟩:=r
 simp only at *
 cases h1:isNm rname
 ·go_enter Tryz.func113,Tryz.ntmps113
  go_wp2_with (first|(go_at_call 129;refine (ab6 _ _ cl26).mono ?_;rintro e w1 ⟨rfl,hb1⟩;(have hq7:=ru7;(try clear hc hf);obtain ⟨hb,hc,hf,hz⟩:=hq7;(try simp only [zsz7] at hz);(try have hz0:=z07 w w1);(try have hz1:=z17 w w1);(try have hz2:=z27 w w1)))|(go_at_call 107;refine (ab1 _ _ _ _).mono ?_;rintro e w' ⟨rfl,rfl⟩))
  go_ret
  exact ⟨ab0 (by simp [an3,h1]),cl0⟩
 cases h2:isNm rkind
 ·go_enter Tryz.func113,Tryz.ntmps113
  go_wp2_with (first|(go_at_call 129;refine (ab6 _ _ cl26).mono ?_;rintro e w1 ⟨rfl,hb1⟩;(have hq7:=ru7;(try clear hc hf);obtain ⟨hb,hc,hf,hz⟩:=hq7;(try simp only [zsz7] at hz);(try have hz0:=z07 w w1);(try have hz1:=z17 w w1);(try have hz2:=z27 w w1)))|(go_at_call 107;refine (ab1 _ _ _ _).mono ?_;rintro e w' ⟨rfl,rfl⟩))
  go_ret
  exact ⟨ab0 (by simp [an3,h2]),cl0⟩
 cases h3:ra.toList.isEmpty
 all_goals cases h3a:isNm ra
 all_goals cases h4:rb.toList.isEmpty
 all_goals cases h4a:isNm rb
 all_goals
  have h5:=isE_append ra rb
  simp only [isE,h3,h4,Bool.and_self,Bool.and_false,Bool.false_and] at h5
  go_enter Tryz.func113,Tryz.ntmps113
  go_wp2_with (first|(go_at_call 129;refine (ab6 _ _ cl26).mono ?_;rintro e w1 ⟨rfl,hb1⟩;(have hq7:=ru7;(try clear hc hf);obtain ⟨hb,hc,hf,hz⟩:=hq7;(try simp only [zsz7] at hz);(try have hz0:=z07 w w1);(try have hz1:=z17 w w1);(try have hz2:=z27 w w1)))|(go_at_call 107;refine (ab1 _ _ _ _).mono ?_;rintro e w' ⟨rfl,rfl⟩))
  go_ret
  exact ⟨ab0 (by simp [an3,isE,h1,h2,h3,h4,h3a,h4a]),cl0⟩
end
section
open Go.RowKit Go.Shelf
def ah1:List ByteArray→List Int→List (Int ⊕ ByteArray)
 | s :: ws,n :: gs=>.inr s :: .inl n :: ah1 ws gs
 | _,_=>[]
theorem aJ8:∀ (ws:List ByteArray) (gs:List Int) (j:Nat) (s:ByteArray) (n:Int),ws[j]?=some s→gs[j]?=some n→ah1 (ws.take (j+1)) (gs.take (j+1))=ah1 (ws.take j) (gs.take j) ++ [.inr s,.inl n]
 | [],_,j,s,n,h,_=>by simp at h
 | _ :: _,[],j,s,n,_,h=>by simp at h
 | a :: ws,b :: gs,0,s,n,h,h'=>by simp at h h';subst h h';simp [ah1]
 | a :: ws,b :: gs,j+1,s,n,h,h'=>by
  have:=aJ8 ws gs j s n (by simpa using h) (by simpa using h')
  simp [ah1,this]
theorem aC2:∀ (ws:List ByteArray) (gs:List Int),ws.length=gs.length→(ah1 ws gs).length=2*ws.length
 | [],_,_=>by simp [ah1]
 | _ :: _,[],h=>by simp at h
 | a :: ws,b :: gs,h=>by simp [ah1,aC2 ws gs (by simpa using h)];omega
theorem bg0:∀ (ws:List ByteArray) (gs:List Int),ws.length=gs.length→ab8 (ah1 ws gs)=(ws.map fun s=>1+s.size).sum+(gs.map fun n=>1+intB n).sum
 | [],[],_=>by simp [ah1,ab8]
 | [],_ :: _,h=>by simp at h
 | _ :: _,[],h=>by simp at h
 | a :: ws,b :: gs,h=>by
  have:=bg0 ws gs (by simpa using h)
  simp only [ab8,ah1,List.map_cons,List.sum_cons,au4] at *;omega
theorem aO9:∀ (ws:List ByteArray) (gs:List Int),(∀ n,n∈gs→I64 n)→∀ n,Sum.inl n∈ah1 ws gs→I64 n
 | [],_,_,n,h=>by simp [ah1] at h
 | _ :: _,[],_,n,h=>by simp [ah1] at h
 | a :: ws,b :: gs,hg,n,h=>by
  simp only [ah1,List.mem_cons] at h
  rcases h with h|h|h
  ·cases h
  ·cases h;exact hg _ (List.mem_cons_self ..)
  ·exact aO9 ws gs (fun m hm=>hg m (List.mem_cons_of_mem _ hm)) n h
theorem aV4 (l:List (Int ⊕ ByteArray)):cellsOf (fun x=>[anyV x]) l=l.map anyV:=by
 induction l with
 | nil=>rfl
 | cons x l ih=>simp only [cellsOf,List.flatMap_cons,List.map_cons] at *;rw [ih];rfl
theorem infoAny:(Tryz.prog.info? 20).map (fun i=>(i.zero,i.size,i.bytes))=some (some .nilIface,1,16):=by kernel_rfl
theorem RInts.i64 {w:World} {F:Nat→Prop} {xs:List Int} {a:Option Addr} {c:Nat} (h:RInts w F xs a c):∀ n,n∈xs→I64 n:=fun n hn=>by
 obtain ⟨i,hi⟩:=List.getElem?_of_mem hn
 obtain ⟨b,off,_,_,vs,_,⟨_,hx⟩,_⟩:=h.at_ i n hi
 exact hx
theorem two_new (w:World) (x y:Value) (t:TypeId):∀ j u,[x,y][j]?=some u→(w.alloc (.cells #[x,y] t)).cell? ((⟨w.heap.size,0,none⟩:Addr).add j)=some u:=by
 intro j u hj
 match j,hj with
 | 0,hj=>simp at hj;subst hj;simp [Addr.add]
 | 1,hj=>simp at hj;subst hj;simp [Addr.add]
theorem two_one (a b:Int ⊕ ByteArray):∀ u∈[anyV a,anyV b],u.oneCell'=true:=by
 cases a <;> cases b <;> simp [anyV,Value.oneCell']
def ah7 (n:ByteArray) (ws:List ByteArray) (gs:List Int) (j:Nat):List (Int ⊕ ByteArray):=Sum.inr n :: Sum.inl (ws.length:Int) :: ah1 (ws.take j) (gs.take j)
theorem aK9 (n:ByteArray) (ws:List ByteArray) (gs:List Int) (j:Nat) (h:ws.length=gs.length) (hj:j≤ws.length):(ah7 n ws gs j).length=2+2*j:=by
 simp only [ah7,List.length_cons];rw [aC2 _ _ (by simp [h])];simp;omega
theorem aS3 (n:ByteArray) (ws:List ByteArray) (gs:List Int) (j:Nat) (s:ByteArray) (g:Int) (h:ws[j]?=some s) (h':gs[j]?=some g):ah7 n ws gs (j+1)=ah7 n ws gs j ++ [.inr s,.inl g]:=by
 simp only [ah7,aJ8 ws gs j s g h h',List.cons_append]
theorem field_3 (n o u:ByteArray) (lo hi:Int) (ws:List ByteArray) (gs:List Int) (w:World) {F:Nat→Prop} (wa ga:Option Addr) (cw cg:Nat) (hws:az4 w F ws wa cw) (hgs:RInts w F gs ga cg) (hlen:ws.length=gs.length) (hl:ws.length≤1000) (hr1:n.size≤1000000)
  (hb:ab8 (ah1 ws gs)≤1000000) (hp:Pow10 w) (hwd:WordsAt w) :
  Calls Tryz.prog 140 #[.agg #[.string n,.string o,.string u,.int .i64 3,.int .i64 lo,.int .i64 hi,.slice wa ws.length cw,.slice ga gs.length cg]] w
   fun e w'=>∃ s:ByteArray,e = .returned (.string s)∧s.size≤7+n.size+intB ws.length+ab8 (ah1 ws gs)∧Ex w w':=by
 have c0:=hwd 3 _ rfl
 have lB:1<w.heap.size:=World.block_lt_of_cell? _ _ c0
 obtain ⟨i0,hiA,hzA,hz1,hz2⟩:=info_parts infoAny
 have HE:=Lib.hid hlen
 have HBB:=Lib.hid hb
 clear hlen hb
 go_enter Tryz.func140,Tryz.ntmps140
 go_wp2
 go_loopw [4,51] (fun s4 i wr=>∃ (j:Nat),j≤ws.length∧i = .int .i64 j∧Ex (w.alloc (.cells #[.string n,.string o,.string u,.int .i64 3,.int .i64 lo,.int .i64 hi,.slice wa ws.length cw,.slice ga gs.length cg] 111)) wr ∧
  Hid (wr.ownsRow (w.heap.size+1) 20 1 s4 (2+2*j) ((ah7 n ws gs j).map anyV))) (fun _ i _=>ws.length - (intOf i).toNat)
 case atStart=>
  refine ⟨0,by omega,rfl,cl0,?_⟩
  have:=World.ownsRow_lit (base:=w.heap.size+1) (e:=20) (size:=1) (w.alloc (.cells #[.string n,.string o,.string u,.int .i64 3,.int .i64 lo,.int .i64 hi,.slice wa ws.length cw,.slice ga gs.length cg] 111)) #[anyV (.inr n),anyV (.inl ws.length)] 2 (by simp) (by decide) rfl
  simpa [ah7,ah1,Hid,anyV] using this
 case round=>
  obtain ⟨j,hj,rfl,hex,hown⟩:=hrel
  obtain ⟨hc,hf⟩:=hex.rules
  have hz:=hex.size
  simp only [World.size_alloc] at hz
  have hz0:w.heap.size<wr.heap.size:=by omega
  have hexw:=((Ex.refl w).alloc (o:=.cells #[.string n,.string o,.string u,.int .i64 3,.int .i64 lo,.int .i64 hi,.slice wa ws.length cw,.slice ga gs.length cg] 111)).trans hex
  obtain ⟨a4,cap4,rfl⟩:=aB4 hown.out
  by_cases hlt:j<ws.length
  ·obtain ⟨s,b,off,hs,rfl,_,c1,_⟩:=aw5 hws hexw.same hlt
   have hlt2:j<gs.length:=by rw [← HE.out];exact hlt
   obtain ⟨g,b2,off2,hg,rfl,_,c2,hgi⟩:=aG6 hgs hexw.same hlt2
   have hs1:b<wr.heap.size:=World.block_lt_of_cell? _ _ c1
   have hs2:b2<wr.heap.size:=World.block_lt_of_cell? _ _ c2
   have i2:(j:Int)<gs.length:=by omega
   have Hs:=Lib.hid (aS3 n ws gs j s g hs.out hg.out)
   go_wp2_with (at_builtin;refine wpList_append_own_at _ rfl _ _ 213 rfl (w.heap.size+1) 20 i0 .nilIface 1 16 Tryz.underlying213 hiA hzA hz1 hz2 rfl (by decide) (.slice a4 (2+2*j) cap4) _ _ rfl (hown.out.alloc _) ⟨wr.heap.size,0,none⟩ 2 2 [anyV (.inr s),anyV (.inl g)] rfl rfl ?c1 ?c2 ?c3 ?c4 ?c5 ?_)
   case c1=>exact two_new _ _ _ _
   case c2=>exact two_one _ _
   case c3=>unfold maxLen;omega
   case c4=>omega
   case c5=>simp;omega
   intro v' w2 hown' hgrow _ hat
   have hex2:=Ex.appended (hex.alloc (o:=.cells #[anyV (.inr s),anyV (.inl g)] 20)) (hown.out.alloc _) (by simp) hgrow
   have HO:Hid (w2.ownsRow (w.heap.size+1) 20 1 v' (2+2*(j+1)) ((ah7 n ws gs (j+1)).map anyV)):=by
    unfold Hid
    rw [Hs.out,List.map_append]
    rw [show 2+2*(j+1)=2+2*j+2 from by omega]
    exact hown'
   clear hown' hgrow hat hown
   obtain ⟨a5,cap5,rfl⟩:=aB4 HO.out
   go_wp2
   go_roundw
   case rel=>exact ⟨j+1,by omega,by go_num,hex2,HO⟩
   case measure=>simp [intOf];omega
  ·obtain rfl:j=ws.length:=by omega
   have hpl:=aK9 n ws gs ws.length HE.out (Nat.le_refl _)
   have hpi:ah7 n ws gs ws.length=Sum.inr n :: Sum.inl (ws.length:Int) :: ah1 ws gs:=by
    rw [ah7,List.take_of_length_le (Nat.le_refl _),List.take_of_length_le (by rw [HE.out];exact Nat.le_refl _)]
   have hi64:∀ m,Sum.inl m∈ah7 n ws gs ws.length→I64 m:=by
    rw [hpi];intro m hm
    simp only [List.mem_cons] at hm
    rcases hm with h|h|h
    ·cases h
    ·cases h;unfold I64;omega
    ·exact aO9 ws gs (RInts.i64 hgs) m h
   obtain ⟨a6,cap6,hv6,hrow⟩:=aO4 (C:=fun x=>[anyV x]) (R:=RAny) (xs:=ah7 n ws gs ws.length) hpl.symm (by rw [aV4];exact hown.out) (fun _ _=>rfl) (fun x hx=>by
    cases x with
    | inl m=>exact ⟨rfl,hi64 m hx⟩
    | inr t=>rfl)
   rw [hpl] at hv6
   cases hv6
   have hB:ab8 (ah7 n ws gs ws.length)=1+n.size+(1+intB ws.length)+ab8 (ah1 ws gs):=by
    rw [hpi];simp only [ab8,List.map_cons,List.sum_cons,au4];omega
   have hib:=ae9 (ws.length:Int)
   have HLn:=Lib.hid (ba2 ⟨#[112,105,99,107]⟩ (ah7 n ws gs ws.length) wr hrow (hp.ex hexw) (by rw [hpl];omega) (by rw [hB];have:=HBB.out;show 4+_≤_;omega))
   rw [hpl,hB] at HLn
   clear hpl hpi hi64 hrow hB hown
   go_wp2_with (go_at_call 139;refine HLn.out.mono ?_;rintro e w1 ⟨s,rfl,hs,hb1⟩)
   go_ret
   refine ⟨s,rfl,?_,hexw.trans hb1⟩
   have hs':s.size≤4+(1+n.size+(1+intB ↑ws.length)+ab8 (ah1 ws gs))+1:=hs
   omega
end
section
open Go.RowKit Go.Shelf
theorem bh9 (w:World) (l:List (Int × Int)) (B n:Nat) (hn:n≤1000000) (hB:w.cell? ⟨B,0,none⟩=some (.int .i64 n)) :
  Asks Tryz.prog 136 #[.pointer (some ⟨B,0,none⟩)] w ah9 RTwo l (bg7 n):=by
 refine ⟨enters_of Tryz.func136 (by kernel_rfl) rfl,fun m vs W hm hr hW=>?_⟩
 obtain ⟨rfl,h1,h2⟩:=hr
 have c0:=hW.cell hB
 have lB:B<W.heap.size:=World.block_lt_of_cell? _ _ c0
 obtain ⟨m1,m2⟩:=m
 simp only at h1 h2
 show Calls _ _ #[.agg #[.int .i64 m1,.int .i64 m2],.pointer (some ⟨B,0,none⟩)] _ _
 cases h:ab5 m1 0 (n - 1)
 all_goals
  go_enter Tryz.func136,Tryz.ntmps136
  go_wp2_with ((go_at_call 107;refine (ab1 _ _ _ _).mono ?_;rintro e w1 ⟨rfl,rfl⟩))
  go_ret
  exact ⟨ab0 (by simp [bg7,h]),cl0⟩
theorem isLife_any (x:Lif) (w:World) {F:Nat→Prop} {sa ma:Option Addr} {sc mc:Nat} (hs:az4 w F x.states sa sc) (hm:RTwos w F x.moves ma mc) (hx:SmL x) :
  Calls Tryz.prog 111 #[.agg #[.string x.name,.slice sa x.states.length sc,.slice ma x.moves.length mc]] w fun e w'=>e = .returned (.bool (ag7 x))∧Ex w w':=by
 have hn:=hx.name.le
 have hl1:=hx.nstates
 have hl2:=hx.nmoves
 have HS:=Lib.hid (fun (w':World) (he:Ex w w')=>all_str (hs.keep (w':=w') he.same (fun _ h=>h) (fun _ _ _ h=>h)) (by omega) (aQ4 w' x.states (fun s h=>(hx.states s h).le)))
 have HT:=Lib.hid (fun (w':World) B (he:Ex w w') hB=>all_two (hm.keep (w':=w') he.same (fun _ h=>h) (fun _ _ _ h=>h)) (by omega) (bh9 w' x.moves B x.states.length hl1 hB))
 clear hx hs hm
 obtain ⟨name,states,moves⟩:=x
 simp only at *
 cases h1:isNm name
 ·go_enter Tryz.func111,Tryz.ntmps111;go_wp2_with (first|(go_at_call 129;refine (ab6 _ _ hn).mono ?_;rintro e w1 ⟨rfl,hb1⟩;(have hq7:=ru7;(try clear hc hf);obtain ⟨hb,hc,hf,hz⟩:=hq7;(try simp only [zsz7] at hz);(try have hz0:=z07 w w1);(try have hz1:=z17 w w1);(try have hz2:=z27 w w1)))|(go_at_call 107;refine (ab1 _ _ _ _).mono ?_;rintro e w1 ⟨rfl,rfl⟩)|(go_at_call 134;refine (HS.out _ cl0).mono ?_;rintro e w1 ⟨rfl,hb1⟩;(have hq7:=ru7;(try clear hc hf);obtain ⟨hb,hc,hf,hz⟩:=hq7;(try simp only [zsz7] at hz);(try have hz0:=z07 w w1);(try have hz1:=z17 w w1);(try have hz2:=z27 w w1)))|(go_at_call 135;refine (HT.out _ _ cl0 (by simp [*])).mono ?_;rintro e w1 ⟨rfl,hb1⟩;(have hq7:=ru7;(try clear hc hf);obtain ⟨hb,hc,hf,hz⟩:=hq7;(try simp only [zsz7] at hz);(try have hz0:=z07 w w1);(try have hz1:=z17 w w1);(try have hz2:=z27 w w1))));go_ret
  exact ⟨ab0 (by simp [ag7,h1]),cl0⟩
 cases h2:ab5 states.length 1 12
 ·go_enter Tryz.func111,Tryz.ntmps111;go_wp2_with (first|(go_at_call 129;refine (ab6 _ _ hn).mono ?_;rintro e w1 ⟨rfl,hb1⟩;(have hq7:=ru7;(try clear hc hf);obtain ⟨hb,hc,hf,hz⟩:=hq7;(try simp only [zsz7] at hz);(try have hz0:=z07 w w1);(try have hz1:=z17 w w1);(try have hz2:=z27 w w1)))|(go_at_call 107;refine (ab1 _ _ _ _).mono ?_;rintro e w1 ⟨rfl,rfl⟩)|(go_at_call 134;refine (HS.out _ cl0).mono ?_;rintro e w1 ⟨rfl,hb1⟩;(have hq7:=ru7;(try clear hc hf);obtain ⟨hb,hc,hf,hz⟩:=hq7;(try simp only [zsz7] at hz);(try have hz0:=z07 w w1);(try have hz1:=z17 w w1);(try have hz2:=z27 w w1)))|(go_at_call 135;refine (HT.out _ _ cl0 (by simp [*])).mono ?_;rintro e w1 ⟨rfl,hb1⟩;(have hq7:=ru7;(try clear hc hf);obtain ⟨hb,hc,hf,hz⟩:=hq7;(try simp only [zsz7] at hz);(try have hz0:=z07 w w1);(try have hz1:=z17 w w1);(try have hz2:=z27 w w1))));go_ret
  exact ⟨ab0 (by simp [ag7,h2]),cl0⟩
 cases h3:states.all isNm
 ·go_enter Tryz.func111,Tryz.ntmps111;go_wp2_with (first|(go_at_call 129;refine (ab6 _ _ hn).mono ?_;rintro e w1 ⟨rfl,hb1⟩;(have hq7:=ru7;(try clear hc hf);obtain ⟨hb,hc,hf,hz⟩:=hq7;(try simp only [zsz7] at hz);(try have hz0:=z07 w w1);(try have hz1:=z17 w w1);(try have hz2:=z27 w w1)))|(go_at_call 107;refine (ab1 _ _ _ _).mono ?_;rintro e w1 ⟨rfl,rfl⟩)|(go_at_call 134;refine (HS.out _ cl0).mono ?_;rintro e w1 ⟨rfl,hb1⟩;(have hq7:=ru7;(try clear hc hf);obtain ⟨hb,hc,hf,hz⟩:=hq7;(try simp only [zsz7] at hz);(try have hz0:=z07 w w1);(try have hz1:=z17 w w1);(try have hz2:=z27 w w1)))|(go_at_call 135;refine (HT.out _ _ cl0 (by simp [*])).mono ?_;rintro e w1 ⟨rfl,hb1⟩;(have hq7:=ru7;(try clear hc hf);obtain ⟨hb,hc,hf,hz⟩:=hq7;(try simp only [zsz7] at hz);(try have hz0:=z07 w w1);(try have hz1:=z17 w w1);(try have hz2:=z27 w w1))));go_ret
  exact ⟨ab0 (by simp [ag7,h3]),cl0⟩
 by_cases h4:(moves.length:Int)≤32
 ·have HR:Hid (ag7 ⟨name,states,moves⟩=moves.all (bg7 states.length)):=Lib.hid (by simp [ag7,h1,h2,h3];intro;omega)
  go_enter Tryz.func111,Tryz.ntmps111;go_wp2_with (first|(go_at_call 129;refine (ab6 _ _ hn).mono ?_;rintro e w1 ⟨rfl,hb1⟩;(have hq7:=ru7;(try clear hc hf);obtain ⟨hb,hc,hf,hz⟩:=hq7;(try simp only [zsz7] at hz);(try have hz0:=z07 w w1);(try have hz1:=z17 w w1);(try have hz2:=z27 w w1)))|(go_at_call 107;refine (ab1 _ _ _ _).mono ?_;rintro e w1 ⟨rfl,rfl⟩)|(go_at_call 134;refine (HS.out _ cl0).mono ?_;rintro e w1 ⟨rfl,hb1⟩;(have hq7:=ru7;(try clear hc hf);obtain ⟨hb,hc,hf,hz⟩:=hq7;(try simp only [zsz7] at hz);(try have hz0:=z07 w w1);(try have hz1:=z17 w w1);(try have hz2:=z27 w w1)))|(go_at_call 135;refine (HT.out _ _ cl0 (by simp [*])).mono ?_;rintro e w1 ⟨rfl,hb1⟩;(have hq7:=ru7;(try clear hc hf);obtain ⟨hb,hc,hf,hz⟩:=hq7;(try simp only [zsz7] at hz);(try have hz0:=z07 w w1);(try have hz1:=z17 w w1);(try have hz2:=z27 w w1))));go_ret
  exact ⟨ab0 HR.out.symm,cl0⟩
 ·go_enter Tryz.func111,Tryz.ntmps111;go_wp2_with (first|(go_at_call 129;refine (ab6 _ _ hn).mono ?_;rintro e w1 ⟨rfl,hb1⟩;(have hq7:=ru7;(try clear hc hf);obtain ⟨hb,hc,hf,hz⟩:=hq7;(try simp only [zsz7] at hz);(try have hz0:=z07 w w1);(try have hz1:=z17 w w1);(try have hz2:=z27 w w1)))|(go_at_call 107;refine (ab1 _ _ _ _).mono ?_;rintro e w1 ⟨rfl,rfl⟩)|(go_at_call 134;refine (HS.out _ cl0).mono ?_;rintro e w1 ⟨rfl,hb1⟩;(have hq7:=ru7;(try clear hc hf);obtain ⟨hb,hc,hf,hz⟩:=hq7;(try simp only [zsz7] at hz);(try have hz0:=z07 w w1);(try have hz1:=z17 w w1);(try have hz2:=z27 w w1)))|(go_at_call 135;refine (HT.out _ _ cl0 (by simp [*])).mono ?_;rintro e w1 ⟨rfl,hb1⟩;(have hq7:=ru7;(try clear hc hf);obtain ⟨hb,hc,hf,hz⟩:=hq7;(try simp only [zsz7] at hz);(try have hz0:=z07 w w1);(try have hz1:=z17 w w1);(try have hz2:=z27 w w1))));go_ret
  exact ⟨ab0 (by simp [ag7];intros;omega),cl0⟩
def aw3 {α:Type} (eq:α→α→Bool):List α→List α→Bool
 | [],[]=>true
 | x :: xs,y :: ys=>eq x y && aw3 eq xs ys
 | _,_=>false
theorem aR6 {α:Type} {eq:α→α→Bool}:∀ {xs ys:List α},xs.length≠ys.length→aw3 eq xs ys=false
 | [],[],h=>absurd rfl h
 | [],_ :: _,_=>rfl
 | _ :: _,[],_=>rfl
 | x :: xs,y :: ys,h=>by simp only [aw3,aR6 (eq:=eq) (xs:=xs) (ys:=ys) (by simpa using h),Bool.and_false]
theorem aR5 {α:Type} {eq:α→α→Bool}:∀ {xs ys:List α},xs.length=ys.length→(∀ (i:Nat) x y,xs[i]?=some x→ys[i]?=some y→eq x y=true)→aw3 eq xs ys=true
 | [],[],_,_=>rfl
 | [],_ :: _,h,_=>by simp at h
 | _ :: _,[],h,_=>by simp at h
 | x :: xs,y :: ys,h,he=>by
  simp only [aw3,he 0 x y rfl rfl,Bool.true_and]
  exact aR5 (by simpa using h) (fun i x' y' hx hy=>he (i+1) x' y' (by simpa using hx) (by simpa using hy))
theorem bb8 {α:Type} {eq:α→α→Bool}:∀ {xs ys:List α} {i:Nat} {x y:α},xs[i]?=some x→ys[i]?=some y→eq x y=false→aw3 eq xs ys=false
 | [],_,i,x,y,hx,_,_=>by simp at hx
 | _ :: _,[],i,x,y,_,hy,_=>by simp at hy
 | a :: xs,b :: ys,0,x,y,hx,hy,he=>by simp at hx hy;subst hx hy;simp [aw3,he]
 | a :: xs,b :: ys,i+1,x,y,hx,hy,he=>by
  have:=bb8 (xs:=xs) (ys:=ys) (i:=i) (by simpa using hx) (by simpa using hy) he
  simp [aw3,this]
def ieq (x y:Int):Bool:=x == y
theorem equal_int {w:World} {F G:Nat→Prop} {xs ys:List Int} {a a':Option Addr} {c c':Nat} (hx:RInts w F xs a c) (hy:RInts w G ys a' c') (hl:xs.length≤140737488355328) (hl2:ys.length≤140737488355328) :
  Calls Tryz.prog 177 #[.slice a xs.length c,.slice a' ys.length c'] w fun e w'=>e = .returned (.bool (aw3 ieq xs ys))∧Ex w w':=by
 by_cases hlen:(xs.length:Int)=ys.length
 ·have he:xs.length=ys.length:=by omega
  have hlen':((xs.length:Int) == (ys.length:Int))=true:=by simp;omega
  have hlen2:((xs.length:Int) != (ys.length:Int))=false:=by simp;omega
  clear hlen
  have HE:=Lib.hid he;clear he hlen'
  go_enter Tryz.func177,Tryz.ntmps177
  go_wp2
  clear hlen2
  go_loopw [13] (fun i wr=>∃ j:Nat,j≤xs.length∧i = .int .i64 j∧Hid (∀ i x y,i<j→xs[i]?=some x→ys[i]?=some y→ieq x y=true)∧Ex w wr) (fun i _=>xs.length - (intOf i).toNat)
  case atStart=>exact ⟨0,by omega,rfl,fun i x y h=>by omega,Ex.refl _⟩
  case round=>
   obtain ⟨j,hj,rfl,hno,hex⟩:=hrel
   by_cases hlt:j<xs.length
   ·obtain ⟨x,b,off,hxx,rfl,_,c0,_⟩:=aG6 hx hex.same hlt
    have hlt2:j<ys.length:=by rw [← HE.out];exact hlt
    obtain ⟨y,b2,off2,hyy,rfl,_,c1,_⟩:=aG6 hy hex.same hlt2
    have i1:(j:Int)<xs.length:=by omega
    have i2:(j:Int)<ys.length:=by omega
    cases he:ieq x y with
    | true=>
     have Hi:=Lib.hid (fun i x' y' (hi:i<j+1) (hx':xs[i]?=some x') (hy':ys[i]?=some y')=>show ieq x' y'=true from by
      rcases Nat.lt_or_ge i j with h|h
      ·exact hno.out i x' y' h hx' hy'
      ·obtain rfl:i=j:=by omega
       rw [hxx.out] at hx';rw [hyy.out] at hy';cases hx';cases hy';exact he)
     have e1:(x != y)=false:=by unfold ieq at he;simp at he;simp [he]
     clear hno he
     go_wp2
     go_quiet (fail)
     go_wp2
     go_roundw
     case rel=>exact ⟨j+1,by omega,by go_num,Hi,cl0⟩
     case measure=>simp [intOf];omega
    | false=>
     have HR:=Lib.hid (bb8 hxx.out hyy.out he)
     have e1:(x != y)=true:=by unfold ieq at he;simp at he;simp [he]
     clear hno he
     go_wp2
     go_quiet (fail)
     go_wp2
     go_ret
     exact ⟨ab0 HR.out.symm,cl0⟩
   ·have HR:=Lib.hid (aR5 HE.out (fun i x y h1 h2=>hno.out i x y (by have:=(List.getElem?_eq_some_iff.1 h1).1;omega) h1 h2))
    clear hno
    go_wp2
    go_ret
    exact ⟨ab0 HR.out.symm,cl0⟩
 ·have HR:=Lib.hid (aR6 (eq:=ieq) (xs:=xs) (ys:=ys) (by omega))
  have hlen2:((xs.length:Int) != (ys.length:Int))=true:=by simp;omega
  clear hlen
  go_enter Tryz.func177,Tryz.ntmps177
  go_wp2
  go_ret
  exact ⟨ab0 HR.out.symm,cl0⟩
theorem equal_str {w:World} {F G:Nat→Prop} {xs ys:List ByteArray} {a a':Option Addr} {c c':Nat} (hx:az4 w F xs a c) (hy:az4 w G ys a' c') (hl:xs.length≤140737488355328) (hl2:ys.length≤140737488355328) :
  Calls Tryz.prog 176 #[.slice a xs.length c,.slice a' ys.length c'] w fun e w'=>e = .returned (.bool (aw3 seq xs ys))∧Ex w w':=by
 by_cases hlen:(xs.length:Int)=ys.length
 ·have he:xs.length=ys.length:=by omega
  have hlen':((xs.length:Int) == (ys.length:Int))=true:=by simp;omega
  have hlen2:((xs.length:Int) != (ys.length:Int))=false:=by simp;omega
  clear hlen
  have HE:=Lib.hid he;clear he hlen'
  go_enter Tryz.func176,Tryz.ntmps176
  go_wp2
  clear hlen2
  go_loopw [13] (fun i wr=>∃ j:Nat,j≤xs.length∧i = .int .i64 j∧Hid (∀ i x y,i<j→xs[i]?=some x→ys[i]?=some y→seq x y=true)∧Ex w wr) (fun i _=>xs.length - (intOf i).toNat)
  case atStart=>exact ⟨0,by omega,rfl,fun i x y h=>by omega,Ex.refl _⟩
  case round=>
   obtain ⟨j,hj,rfl,hno,hex⟩:=hrel
   by_cases hlt:j<xs.length
   ·obtain ⟨x,b,off,hxx,rfl,_,c0,_⟩:=aw5 hx hex.same hlt
    have hlt2:j<ys.length:=by rw [← HE.out];exact hlt
    obtain ⟨y,b2,off2,hyy,rfl,_,c1,_⟩:=aw5 hy hex.same hlt2
    have i1:(j:Int)<xs.length:=by omega
    have i2:(j:Int)<ys.length:=by omega
    cases he:seq x y with
    | true=>
     have Hi:=Lib.hid (fun i x' y' (hi:i<j+1) (hx':xs[i]?=some x') (hy':ys[i]?=some y')=>show seq x' y'=true from by
      rcases Nat.lt_or_ge i j with h|h
      ·exact hno.out i x' y' h hx' hy'
      ·obtain rfl:i=j:=by omega
       rw [hxx.out] at hx';rw [hyy.out] at hy';cases hx';cases hy';exact he)
     have e1:(x.toList == y.toList)=true:=he
     clear hno he
     go_wp2
     go_quiet (fail)
     go_wp2
     go_roundw
     case rel=>exact ⟨j+1,by omega,by go_num,Hi,cl0⟩
     case measure=>simp [intOf];omega
    | false=>
     have HR:=Lib.hid (bb8 hxx.out hyy.out he)
     have e1:(x.toList == y.toList)=false:=he
     clear hno he
     go_wp2
     go_quiet (fail)
     go_wp2
     go_ret
     exact ⟨ab0 HR.out.symm,cl0⟩
   ·have HR:=Lib.hid (aR5 HE.out (fun i x y h1 h2=>hno.out i x y (by have:=(List.getElem?_eq_some_iff.1 h1).1;omega) h1 h2))
    clear hno
    go_wp2
    go_ret
    exact ⟨ab0 HR.out.symm,cl0⟩
 ·have HR:=Lib.hid (aR6 (eq:=seq) (xs:=xs) (ys:=ys) (by omega))
  have hlen2:((xs.length:Int) != (ys.length:Int))=true:=by simp;omega
  clear hlen
  go_enter Tryz.func176,Tryz.ntmps176
  go_wp2
  go_ret
  exact ⟨ab0 HR.out.symm,cl0⟩
end
section
open Go.RowKit Go.Shelf
def nos:ByteArray:=⟨#[]⟩
def ax1 (f:Fld):Fld:=⟨f.name,if ad5 f.kind then f.of else nos,if ad4 f.kind then f.up else nos,f.kind,if ad8 f.kind then f.lo else 0,if ad6 f.kind then f.hi else 0,if ac1 f.kind then f.words else [],if ac1 f.kind then f.weights else []⟩
theorem only_0 (name of up:ByteArray) (lo hi:Int) (wa ga:Option Addr) (nw wc ng gc:Nat) (w:World) :
  Calls Tryz.prog 159 #[.agg #[.string name,.string of,.string up,.int .i64 0,.int .i64 lo,.int .i64 hi,.slice wa nw wc,.slice ga ng gc]] w fun e w'=>e = .returned (.agg #[.string name,.string nos,.string nos,.int .i64 0,.int .i64 lo,.int .i64 0,.slice none 0 0,.slice none 0 0])∧Ex w w':=by
 go_enter Tryz.func159,Tryz.ntmps159
 go_wp2
 all_goals exact bodyPost_ret (v:=.agg #[.string name,.string nos,.string nos,.int .i64 0,.int .i64 lo,.int .i64 0,.slice none 0 0,.slice none 0 0]) (by simp [results,Tryz.results159,go_sem,nos]) rfl ⟨rfl,cl0⟩
theorem only_1 (name of up:ByteArray) (lo hi:Int) (wa ga:Option Addr) (nw wc ng gc:Nat) (w:World) :
  Calls Tryz.prog 159 #[.agg #[.string name,.string of,.string up,.int .i64 1,.int .i64 lo,.int .i64 hi,.slice wa nw wc,.slice ga ng gc]] w fun e w'=>e = .returned (.agg #[.string name,.string of,.string nos,.int .i64 1,.int .i64 lo,.int .i64 hi,.slice none 0 0,.slice none 0 0])∧Ex w w':=by
 go_enter Tryz.func159,Tryz.ntmps159
 go_wp2
 go_region
 all_goals go_wp2
 all_goals exact bodyPost_ret (v:=.agg #[.string name,.string of,.string nos,.int .i64 1,.int .i64 lo,.int .i64 hi,.slice none 0 0,.slice none 0 0]) (by simp [results,Tryz.results159,go_sem,nos]) rfl ⟨rfl,cl0⟩
theorem only_2 (name of up:ByteArray) (lo hi:Int) (wa ga:Option Addr) (nw wc ng gc:Nat) (w:World) :
  Calls Tryz.prog 159 #[.agg #[.string name,.string of,.string up,.int .i64 2,.int .i64 lo,.int .i64 hi,.slice wa nw wc,.slice ga ng gc]] w fun e w'=>e = .returned (.agg #[.string name,.string nos,.string nos,.int .i64 2,.int .i64 lo,.int .i64 hi,.slice none 0 0,.slice none 0 0])∧Ex w w':=by
 go_enter Tryz.func159,Tryz.ntmps159
 go_wp2
 go_region
 all_goals go_wp2
 all_goals exact bodyPost_ret (v:=.agg #[.string name,.string nos,.string nos,.int .i64 2,.int .i64 lo,.int .i64 hi,.slice none 0 0,.slice none 0 0]) (by simp [results,Tryz.results159,go_sem,nos]) rfl ⟨rfl,cl0⟩
theorem only_3 (name of up:ByteArray) (lo hi:Int) (wa ga:Option Addr) (nw wc ng gc:Nat) (w:World) :
  Calls Tryz.prog 159 #[.agg #[.string name,.string of,.string up,.int .i64 3,.int .i64 lo,.int .i64 hi,.slice wa nw wc,.slice ga ng gc]] w fun e w'=>e = .returned (.agg #[.string name,.string nos,.string nos,.int .i64 3,.int .i64 0,.int .i64 0,.slice wa nw wc,.slice ga ng gc])∧Ex w w':=by
 go_enter Tryz.func159,Tryz.ntmps159
 go_wp2
 go_region
 all_goals go_wp2
 all_goals exact bodyPost_ret (v:=.agg #[.string name,.string nos,.string nos,.int .i64 3,.int .i64 0,.int .i64 0,.slice wa nw wc,.slice ga ng gc]) (by simp [results,Tryz.results159,go_sem,nos]) rfl ⟨rfl,cl0⟩
theorem only_4 (name of up:ByteArray) (lo hi:Int) (wa ga:Option Addr) (nw wc ng gc:Nat) (w:World) :
  Calls Tryz.prog 159 #[.agg #[.string name,.string of,.string up,.int .i64 4,.int .i64 lo,.int .i64 hi,.slice wa nw wc,.slice ga ng gc]] w fun e w'=>e = .returned (.agg #[.string name,.string of,.string nos,.int .i64 4,.int .i64 lo,.int .i64 hi,.slice none 0 0,.slice none 0 0])∧Ex w w':=by
 go_enter Tryz.func159,Tryz.ntmps159
 go_wp2
 go_region
 all_goals go_wp2
 all_goals exact bodyPost_ret (v:=.agg #[.string name,.string of,.string nos,.int .i64 4,.int .i64 lo,.int .i64 hi,.slice none 0 0,.slice none 0 0]) (by simp [results,Tryz.results159,go_sem,nos]) rfl ⟨rfl,cl0⟩
theorem only_5 (name of up:ByteArray) (lo hi:Int) (wa ga:Option Addr) (nw wc ng gc:Nat) (w:World) :
  Calls Tryz.prog 159 #[.agg #[.string name,.string of,.string up,.int .i64 5,.int .i64 lo,.int .i64 hi,.slice wa nw wc,.slice ga ng gc]] w fun e w'=>e = .returned (.agg #[.string name,.string of,.string nos,.int .i64 5,.int .i64 lo,.int .i64 hi,.slice none 0 0,.slice none 0 0])∧Ex w w':=by
 go_enter Tryz.func159,Tryz.ntmps159
 go_wp2
 go_region
 all_goals go_wp2
 all_goals exact bodyPost_ret (v:=.agg #[.string name,.string of,.string nos,.int .i64 5,.int .i64 lo,.int .i64 hi,.slice none 0 0,.slice none 0 0]) (by simp [results,Tryz.results159,go_sem,nos]) rfl ⟨rfl,cl0⟩
theorem only_6 (name of up:ByteArray) (lo hi:Int) (wa ga:Option Addr) (nw wc ng gc:Nat) (w:World) :
  Calls Tryz.prog 159 #[.agg #[.string name,.string of,.string up,.int .i64 6,.int .i64 lo,.int .i64 hi,.slice wa nw wc,.slice ga ng gc]] w fun e w'=>e = .returned (.agg #[.string name,.string of,.string nos,.int .i64 6,.int .i64 0,.int .i64 0,.slice none 0 0,.slice none 0 0])∧Ex w w':=by
 go_enter Tryz.func159,Tryz.ntmps159
 go_wp2
 all_goals exact bodyPost_ret (v:=.agg #[.string name,.string of,.string nos,.int .i64 6,.int .i64 0,.int .i64 0,.slice none 0 0,.slice none 0 0]) (by simp [results,Tryz.results159,go_sem,nos]) rfl ⟨rfl,cl0⟩
theorem only_7 (name of up:ByteArray) (lo hi:Int) (wa ga:Option Addr) (nw wc ng gc:Nat) (w:World) :
  Calls Tryz.prog 159 #[.agg #[.string name,.string of,.string up,.int .i64 7,.int .i64 lo,.int .i64 hi,.slice wa nw wc,.slice ga ng gc]] w fun e w'=>e = .returned (.agg #[.string name,.string of,.string up,.int .i64 7,.int .i64 lo,.int .i64 hi,.slice none 0 0,.slice none 0 0])∧Ex w w':=by
 go_enter Tryz.func159,Tryz.ntmps159
 go_wp2
 go_region
 all_goals go_wp2
 all_goals exact bodyPost_ret (v:=.agg #[.string name,.string of,.string up,.int .i64 7,.int .i64 lo,.int .i64 hi,.slice none 0 0,.slice none 0 0]) (by simp [results,Tryz.results159,go_sem,nos]) rfl ⟨rfl,cl0⟩
theorem only_8 (name of up:ByteArray) (lo hi:Int) (wa ga:Option Addr) (nw wc ng gc:Nat) (w:World) :
  Calls Tryz.prog 159 #[.agg #[.string name,.string of,.string up,.int .i64 8,.int .i64 lo,.int .i64 hi,.slice wa nw wc,.slice ga ng gc]] w fun e w'=>e = .returned (.agg #[.string name,.string of,.string up,.int .i64 8,.int .i64 0,.int .i64 0,.slice none 0 0,.slice none 0 0])∧Ex w w':=by
 go_enter Tryz.func159,Tryz.ntmps159
 go_wp2
 go_region
 all_goals go_wp2
 all_goals exact bodyPost_ret (v:=.agg #[.string name,.string of,.string up,.int .i64 8,.int .i64 0,.int .i64 0,.slice none 0 0,.slice none 0 0]) (by simp [results,Tryz.results159,go_sem,nos]) rfl ⟨rfl,cl0⟩
theorem only_no (name of up:ByteArray) (k:Int) (h0:(k == 0)=false) (h1:(k == 1)=false) (h2:(k == 2)=false) (h3:(k == 3)=false) (h4:(k == 4)=false) (h5:(k == 5)=false) (h6:(k == 6)=false) (h7:(k == 7)=false) (h8:(k == 8)=false) (lo hi:Int) (wa ga:Option Addr) (nw wc ng gc:Nat) (w:World) :
  Calls Tryz.prog 159 #[.agg #[.string name,.string of,.string up,.int .i64 k,.int .i64 lo,.int .i64 hi,.slice wa nw wc,.slice ga ng gc]] w fun e w'=>e = .returned (.agg #[.string name,.string nos,.string nos,.int .i64 k,.int .i64 0,.int .i64 0,.slice none 0 0,.slice none 0 0])∧Ex w w':=by
 go_enter Tryz.func159,Tryz.ntmps159
 go_wp2
 all_goals exact bodyPost_ret (v:=.agg #[.string name,.string nos,.string nos,.int .i64 k,.int .i64 0,.int .i64 0,.slice none 0 0,.slice none 0 0]) (by simp [results,Tryz.results159,go_sem,nos]) rfl ⟨rfl,cl0⟩
def aK8 (f g:Fld):Bool:=seq f.name g.name && (seq f.of g.of && (seq f.up g.up && (f.kind == g.kind && (f.lo == g.lo && (f.hi == g.hi && (aw3 seq f.words g.words && aw3 ieq f.weights g.weights))))))
theorem same_any (f g:Fld) (w:World) {F G:Nat→Prop} {wa ga wa' ga':Option Addr} {wc gc wc' gc':Nat} (hw:az4 w F f.words wa wc) (hg:RInts w F f.weights ga gc) (hw':az4 w G g.words wa' wc') (hg':RInts w G g.weights ga' gc')
  (l1:f.words.length≤1000000) (l2:f.weights.length≤1000000) (l3:g.words.length≤1000000) (l4:g.weights.length≤1000000) :
  Calls Tryz.prog 158 #[.agg #[.string f.name,.string f.of,.string f.up,.int .i64 f.kind,.int .i64 f.lo,.int .i64 f.hi,.slice wa f.words.length wc,.slice ga f.weights.length gc],
   .agg #[.string g.name,.string g.of,.string g.up,.int .i64 g.kind,.int .i64 g.lo,.int .i64 g.hi,.slice wa' g.words.length wc',.slice ga' g.weights.length gc']] w fun e w'=>e = .returned (.bool (aK8 f g))∧Ex w w':=by
 have HS:=Lib.hid (fun (w':World) (he:Ex w w')=>equal_str (hw.keep (w':=w') he.same (fun _ h=>h) (fun _ _ _ h=>h)) (hw'.keep (w':=w') he.same (fun _ h=>h) (fun _ _ _ h=>h)) (by omega) (by omega))
 have HI:=Lib.hid (fun (w':World) (he:Ex w w')=>equal_int (hg.keep (w':=w') he.same (fun _ h=>h) (fun _ _ _ h=>h)) (hg'.keep (w':=w') he.same (fun _ h=>h) (fun _ _ _ h=>h)) (by omega) (by omega))
 clear hw hg hw' hg' l1 l2 l3 l4
 obtain ⟨n1,o1,u1,k1,lo1,hi1,ws1,gs1⟩:=f
 obtain ⟨n2,o2,u2,k2,lo2,hi2,ws2,gs2⟩:=g
 simp only at *
 cases h1:(n1.toList == n2.toList)
 ·go_enter Tryz.func158,Tryz.ntmps158;go_wp2_with (first|(go_at_call 176;refine (HS.out _ cl0).mono ?_;rintro e w1 ⟨rfl,hb1⟩;(have hq7:=ru7;(try clear hc hf);obtain ⟨hb,hc,hf,hz⟩:=hq7;(try simp only [zsz7] at hz);(try have hz0:=z07 w w1);(try have hz1:=z17 w w1);(try have hz2:=z27 w w1)))|(go_at_call 177;refine (HI.out _ cl0).mono ?_;rintro e w1 ⟨rfl,hb1⟩;(have hq7:=ru7;(try clear hc hf);obtain ⟨hb,hc,hf,hz⟩:=hq7;(try simp only [zsz7] at hz);(try have hz0:=z07 w w1);(try have hz1:=z17 w w1);(try have hz2:=z27 w w1))));go_ret
  exact ⟨ab0 (by simp only [aK8,seq,h1,Bool.false_and]),cl0⟩
 cases h2:(o1.toList == o2.toList)
 ·go_enter Tryz.func158,Tryz.ntmps158;go_wp2_with (first|(go_at_call 176;refine (HS.out _ cl0).mono ?_;rintro e w1 ⟨rfl,hb1⟩;(have hq7:=ru7;(try clear hc hf);obtain ⟨hb,hc,hf,hz⟩:=hq7;(try simp only [zsz7] at hz);(try have hz0:=z07 w w1);(try have hz1:=z17 w w1);(try have hz2:=z27 w w1)))|(go_at_call 177;refine (HI.out _ cl0).mono ?_;rintro e w1 ⟨rfl,hb1⟩;(have hq7:=ru7;(try clear hc hf);obtain ⟨hb,hc,hf,hz⟩:=hq7;(try simp only [zsz7] at hz);(try have hz0:=z07 w w1);(try have hz1:=z17 w w1);(try have hz2:=z27 w w1))));go_ret
  exact ⟨ab0 (by simp only [aK8,seq,h1,h2,Bool.false_and,Bool.true_and]),cl0⟩
 cases h3:(u1.toList == u2.toList)
 ·go_enter Tryz.func158,Tryz.ntmps158;go_wp2_with (first|(go_at_call 176;refine (HS.out _ cl0).mono ?_;rintro e w1 ⟨rfl,hb1⟩;(have hq7:=ru7;(try clear hc hf);obtain ⟨hb,hc,hf,hz⟩:=hq7;(try simp only [zsz7] at hz);(try have hz0:=z07 w w1);(try have hz1:=z17 w w1);(try have hz2:=z27 w w1)))|(go_at_call 177;refine (HI.out _ cl0).mono ?_;rintro e w1 ⟨rfl,hb1⟩;(have hq7:=ru7;(try clear hc hf);obtain ⟨hb,hc,hf,hz⟩:=hq7;(try simp only [zsz7] at hz);(try have hz0:=z07 w w1);(try have hz1:=z17 w w1);(try have hz2:=z27 w w1))));go_ret
  exact ⟨ab0 (by simp only [aK8,seq,h1,h2,h3,Bool.false_and,Bool.true_and]),cl0⟩
 cases h4:(k1 == k2)
 ·go_enter Tryz.func158,Tryz.ntmps158;go_wp2_with (first|(go_at_call 176;refine (HS.out _ cl0).mono ?_;rintro e w1 ⟨rfl,hb1⟩;(have hq7:=ru7;(try clear hc hf);obtain ⟨hb,hc,hf,hz⟩:=hq7;(try simp only [zsz7] at hz);(try have hz0:=z07 w w1);(try have hz1:=z17 w w1);(try have hz2:=z27 w w1)))|(go_at_call 177;refine (HI.out _ cl0).mono ?_;rintro e w1 ⟨rfl,hb1⟩;(have hq7:=ru7;(try clear hc hf);obtain ⟨hb,hc,hf,hz⟩:=hq7;(try simp only [zsz7] at hz);(try have hz0:=z07 w w1);(try have hz1:=z17 w w1);(try have hz2:=z27 w w1))));go_ret
  exact ⟨ab0 (by simp only [aK8,seq,h1,h2,h3,h4,Bool.false_and,Bool.true_and]),cl0⟩
 cases h5:(lo1 == lo2)
 ·go_enter Tryz.func158,Tryz.ntmps158;go_wp2_with (first|(go_at_call 176;refine (HS.out _ cl0).mono ?_;rintro e w1 ⟨rfl,hb1⟩;(have hq7:=ru7;(try clear hc hf);obtain ⟨hb,hc,hf,hz⟩:=hq7;(try simp only [zsz7] at hz);(try have hz0:=z07 w w1);(try have hz1:=z17 w w1);(try have hz2:=z27 w w1)))|(go_at_call 177;refine (HI.out _ cl0).mono ?_;rintro e w1 ⟨rfl,hb1⟩;(have hq7:=ru7;(try clear hc hf);obtain ⟨hb,hc,hf,hz⟩:=hq7;(try simp only [zsz7] at hz);(try have hz0:=z07 w w1);(try have hz1:=z17 w w1);(try have hz2:=z27 w w1))));go_ret
  exact ⟨ab0 (by simp only [aK8,seq,h1,h2,h3,h4,h5,Bool.false_and,Bool.true_and]),cl0⟩
 cases h6:(hi1 == hi2)
 ·go_enter Tryz.func158,Tryz.ntmps158;go_wp2_with (first|(go_at_call 176;refine (HS.out _ cl0).mono ?_;rintro e w1 ⟨rfl,hb1⟩;(have hq7:=ru7;(try clear hc hf);obtain ⟨hb,hc,hf,hz⟩:=hq7;(try simp only [zsz7] at hz);(try have hz0:=z07 w w1);(try have hz1:=z17 w w1);(try have hz2:=z27 w w1)))|(go_at_call 177;refine (HI.out _ cl0).mono ?_;rintro e w1 ⟨rfl,hb1⟩;(have hq7:=ru7;(try clear hc hf);obtain ⟨hb,hc,hf,hz⟩:=hq7;(try simp only [zsz7] at hz);(try have hz0:=z07 w w1);(try have hz1:=z17 w w1);(try have hz2:=z27 w w1))));go_ret
  exact ⟨ab0 (by simp only [aK8,seq,h1,h2,h3,h4,h5,h6,Bool.false_and,Bool.true_and]),cl0⟩
 cases h7:aw3 seq ws1 ws2
 ·go_enter Tryz.func158,Tryz.ntmps158;go_wp2_with (first|(go_at_call 176;refine (HS.out _ cl0).mono ?_;rintro e w1 ⟨rfl,hb1⟩;(have hq7:=ru7;(try clear hc hf);obtain ⟨hb,hc,hf,hz⟩:=hq7;(try simp only [zsz7] at hz);(try have hz0:=z07 w w1);(try have hz1:=z17 w w1);(try have hz2:=z27 w w1)))|(go_at_call 177;refine (HI.out _ cl0).mono ?_;rintro e w1 ⟨rfl,hb1⟩;(have hq7:=ru7;(try clear hc hf);obtain ⟨hb,hc,hf,hz⟩:=hq7;(try simp only [zsz7] at hz);(try have hz0:=z07 w w1);(try have hz1:=z17 w w1);(try have hz2:=z27 w w1))));go_ret
  exact ⟨ab0 (by simp only [aK8,h7,Bool.false_and,Bool.and_false]),cl0⟩
 ·have HR:Hid (aK8 ⟨n1,o1,u1,k1,lo1,hi1,ws1,gs1⟩ ⟨n2,o2,u2,k2,lo2,hi2,ws2,gs2⟩=aw3 ieq gs1 gs2):=Lib.hid (by simp only [aK8,seq,h1,h2,h3,h4,h5,h6,Bool.true_and];simp only [show aw3 (fun a b:ByteArray=>a.toList == b.toList) ws1 ws2=true from h7,show aw3 seq ws1 ws2=true from h7,Bool.true_and])
  go_enter Tryz.func158,Tryz.ntmps158;go_wp2_with (first|(go_at_call 176;refine (HS.out _ cl0).mono ?_;rintro e w1 ⟨rfl,hb1⟩;(have hq7:=ru7;(try clear hc hf);obtain ⟨hb,hc,hf,hz⟩:=hq7;(try simp only [zsz7] at hz);(try have hz0:=z07 w w1);(try have hz1:=z17 w w1);(try have hz2:=z27 w w1)))|(go_at_call 177;refine (HI.out _ cl0).mono ?_;rintro e w1 ⟨rfl,hb1⟩;(have hq7:=ru7;(try clear hc hf);obtain ⟨hb,hc,hf,hz⟩:=hq7;(try simp only [zsz7] at hz);(try have hz0:=z07 w w1);(try have hz1:=z17 w w1);(try have hz2:=z27 w w1))));go_ret
  exact ⟨ab0 HR.out.symm,cl0⟩
end
end Go.Proofs.YtjbbmjjildhfbaaGreatDoor
