/- A part of the proof: SrcC Own SchemaA SchemaB SrcD SchemaC SchemaD SchemaE SchemaF SchemaG SrcE. -/
import Derived.Test.YtlcfiilejnnlnaaGreatDoorO11
import Derived.Deep.RegionHeld3
import Derived.Maps.AppendAt
import Derived.Lib.ConvBytes
import Derived.Deep.QuietTactic
import Derived.BigQuiet
import Derived.RegionTactic
import Derived.BigRegion
import Derived.Deep.RegionWith
import Derived.Deep.DeepCutAuto
set_option maxRecDepth 100000
set_option maxHeartbeats 20000000
set_option linter.unusedVariables false
set_option linter.unusedSimpArgs false
namespace Go.Proofs.YtlcfiilejnnlnaaGreatDoor
section
open Go.RowKit Go.Shelf
theorem cf7 (n o u:ByteArray) (lo hi:Int) (nw ng:Nat) (w:World) (wa ga:Option Addr) (cw cg:Nat) (hr1:n.size≤1000000) (hr2:o.size≤1000000) (hr3:u.size≤1000000) (h1:I64 lo) (h2:I64 hi) (hp:Pow10 w) (hwd:WordsAt w) :
  Calls Tryz.prog 235 #[.agg #[.string n,.string o,.string u,.int .i64 1,.int .i64 lo,.int .i64 hi,.slice wa nw cw,.slice ga ng cg]] w fun e w'=>∃ s:ByteArray,e = .returned (.string s)∧s.size≤16+n.size+o.size+u.size+intB lo+intB hi∧Ex w w':=by
 have c0:=hwd 1 _ rfl
 have lB:3<w.heap.size:=World.block_lt_of_cell? _ _ c0
 have i1:=ae3 lo
 have i2:=ae3 hi
 have HB:Hid (∀ t:ByteArray,t.size≤o.size+1→ac0 [.inr n,.inr t,.inl lo,.inl hi]+6≤16+n.size+o.size+u.size+intB lo+intB hi):=by unfold Hid;intro t ht;simp [ac0,as3];omega
 have HL:Hid (∀ (W:World) (N:Nat) (t:ByteArray),t.size≤o.size+1→Ex w W→N=W.heap.size→Calls Tryz.prog 234 #[.string ⟨#[114,101,102]⟩,.slice (some ⟨N,0,none⟩) 4 4] (W.alloc (.cells #[.iface 9 (.string n),.iface 9 (.string t),.iface 3 (.int .i64 lo),.iface 3 (.int .i64 hi)] 20)) fun e w'=>∃ s:ByteArray,e = .returned (.string s)∧s.size≤3+ac0 [.inr n,.inr t,.inl lo,.inl hi]+1∧Ex W w'):=Lib.hid (by
  intro W N t ht he hN
  subst hN
  exact ak7 ⟨#[114,101,102]⟩ [.inr n,.inr t,.inl lo,.inl hi] W (by simp [h1,h2]) (hp.ex he) (by simp) (by have:=HB.out t ht;show 3+_≤_;omega))
 go_enter Tryz.func235,Tryz.ntmps235
 go_wp2
 go_region_held3 (fun W=>W.cell? ⟨w.heap.size,0,none⟩=some (.string n)∧W.cell? ⟨w.heap.size,1,none⟩=some (.string o)∧W.cell? ⟨w.heap.size,4,none⟩=some (.int .i64 lo)∧W.cell? ⟨w.heap.size,5,none⟩=some (.int .i64 hi)) (go_keep) (first|(go_at_call 236;refine (aB6 _ _).mono ?_;rintro e w1 ⟨t,rfl,ht,hb1⟩;(have hq7:=ru7;(try clear hc hf);obtain ⟨hb,hc,hf,hz⟩:=hq7;(try simp only [zsz7] at hz);(try have hz0:=z07 w w1);(try have hz1:=z17 w w1);(try have hz2:=z27 w w1)))|(go_at_call 234;refine (HL.out _ _ _ ht cl0 (by first|rfl|simp)).mono ?_;rintro e w1 ⟨s,rfl,hs,hb1⟩;(have hq7:=ru7;(try clear hc hf);obtain ⟨hb,hc,hf,hz⟩:=hq7;(try simp only [zsz7] at hz);(try have hz0:=z07 w w1);(try have hz1:=z17 w w1);(try have hz2:=z27 w w1))))
 all_goals go_wp2
 all_goals go_ret
 all_goals
  refine ⟨s,rfl,?_,cl0⟩
  have:=HB.out t ht
  omega
theorem cf4 (n o u:ByteArray) (lo hi:Int) (nw ng:Nat) (w:World) (wa ga:Option Addr) (cw cg:Nat) (hr1:n.size≤1000000) (hr2:o.size≤1000000) (hr3:u.size≤1000000) (h1:I64 lo) (h2:I64 hi) (hp:Pow10 w) (hwd:WordsAt w) :
  Calls Tryz.prog 235 #[.agg #[.string n,.string o,.string u,.int .i64 4,.int .i64 lo,.int .i64 hi,.slice wa nw cw,.slice ga ng cg]] w fun e w'=>∃ s:ByteArray,e = .returned (.string s)∧s.size≤16+n.size+o.size+u.size+intB lo+intB hi∧Ex w w':=by
 have c0:=hwd 4 _ rfl
 have lB:3<w.heap.size:=World.block_lt_of_cell? _ _ c0
 have i1:=ae3 lo
 have i2:=ae3 hi
 have HB:Hid (∀ t:ByteArray,t.size≤o.size+1→ac0 [.inr n,.inr t,.inl lo,.inl hi]+6≤16+n.size+o.size+u.size+intB lo+intB hi):=by unfold Hid;intro t ht;simp [ac0,as3];omega
 have HL:Hid (∀ (W:World) (N:Nat) (t:ByteArray),t.size≤o.size+1→Ex w W→N=W.heap.size→Calls Tryz.prog 234 #[.string ⟨#[100,97,121]⟩,.slice (some ⟨N,0,none⟩) 4 4] (W.alloc (.cells #[.iface 9 (.string n),.iface 9 (.string t),.iface 3 (.int .i64 lo),.iface 3 (.int .i64 hi)] 20)) fun e w'=>∃ s:ByteArray,e = .returned (.string s)∧s.size≤3+ac0 [.inr n,.inr t,.inl lo,.inl hi]+1∧Ex W w'):=Lib.hid (by
  intro W N t ht he hN
  subst hN
  exact ak7 ⟨#[100,97,121]⟩ [.inr n,.inr t,.inl lo,.inl hi] W (by simp [h1,h2]) (hp.ex he) (by simp) (by have:=HB.out t ht;show 3+_≤_;omega))
 go_enter Tryz.func235,Tryz.ntmps235
 go_wp2
 go_region_held3 (fun W=>W.cell? ⟨w.heap.size,0,none⟩=some (.string n)∧W.cell? ⟨w.heap.size,1,none⟩=some (.string o)∧W.cell? ⟨w.heap.size,4,none⟩=some (.int .i64 lo)∧W.cell? ⟨w.heap.size,5,none⟩=some (.int .i64 hi)) (go_keep) (first|(go_at_call 236;refine (aB6 _ _).mono ?_;rintro e w1 ⟨t,rfl,ht,hb1⟩;(have hq7:=ru7;(try clear hc hf);obtain ⟨hb,hc,hf,hz⟩:=hq7;(try simp only [zsz7] at hz);(try have hz0:=z07 w w1);(try have hz1:=z17 w w1);(try have hz2:=z27 w w1)))|(go_at_call 234;refine (HL.out _ _ _ ht cl0 (by first|rfl|simp)).mono ?_;rintro e w1 ⟨s,rfl,hs,hb1⟩;(have hq7:=ru7;(try clear hc hf);obtain ⟨hb,hc,hf,hz⟩:=hq7;(try simp only [zsz7] at hz);(try have hz0:=z07 w w1);(try have hz1:=z17 w w1);(try have hz2:=z27 w w1))))
 all_goals go_wp2
 all_goals go_ret
 all_goals
  refine ⟨s,rfl,?_,cl0⟩
  have:=HB.out t ht
  omega
theorem cf3 (n o u:ByteArray) (lo hi:Int) (nw ng:Nat) (w:World) (wa ga:Option Addr) (cw cg:Nat) (hr1:n.size≤1000000) (hr2:o.size≤1000000) (hr3:u.size≤1000000) (h1:I64 lo) (h2:I64 hi) (hp:Pow10 w) (hwd:WordsAt w) :
  Calls Tryz.prog 235 #[.agg #[.string n,.string o,.string u,.int .i64 5,.int .i64 lo,.int .i64 hi,.slice wa nw cw,.slice ga ng cg]] w fun e w'=>∃ s:ByteArray,e = .returned (.string s)∧s.size≤16+n.size+o.size+u.size+intB lo+intB hi∧Ex w w':=by
 have c0:=hwd 5 _ rfl
 have lB:3<w.heap.size:=World.block_lt_of_cell? _ _ c0
 have i1:=ae3 lo
 have i2:=ae3 hi
 have HB:Hid (∀ t:ByteArray,t.size≤o.size+1→ac0 [.inr n,.inr t,.inl lo,.inl hi]+6≤16+n.size+o.size+u.size+intB lo+intB hi):=by unfold Hid;intro t ht;simp [ac0,as3];omega
 have HL:Hid (∀ (W:World) (N:Nat) (t:ByteArray),t.size≤o.size+1→Ex w W→N=W.heap.size→Calls Tryz.prog 234 #[.string ⟨#[115,116,101,112]⟩,.slice (some ⟨N,0,none⟩) 4 4] (W.alloc (.cells #[.iface 9 (.string n),.iface 9 (.string t),.iface 3 (.int .i64 lo),.iface 3 (.int .i64 hi)] 20)) fun e w'=>∃ s:ByteArray,e = .returned (.string s)∧s.size≤4+ac0 [.inr n,.inr t,.inl lo,.inl hi]+1∧Ex W w'):=Lib.hid (by
  intro W N t ht he hN
  subst hN
  exact ak7 ⟨#[115,116,101,112]⟩ [.inr n,.inr t,.inl lo,.inl hi] W (by simp [h1,h2]) (hp.ex he) (by simp) (by have:=HB.out t ht;show 4+_≤_;omega))
 go_enter Tryz.func235,Tryz.ntmps235
 go_wp2
 go_region_held3 (fun W=>W.cell? ⟨w.heap.size,0,none⟩=some (.string n)∧W.cell? ⟨w.heap.size,1,none⟩=some (.string o)∧W.cell? ⟨w.heap.size,4,none⟩=some (.int .i64 lo)∧W.cell? ⟨w.heap.size,5,none⟩=some (.int .i64 hi)) (go_keep) (first|(go_at_call 236;refine (aB6 _ _).mono ?_;rintro e w1 ⟨t,rfl,ht,hb1⟩;(have hq7:=ru7;(try clear hc hf);obtain ⟨hb,hc,hf,hz⟩:=hq7;(try simp only [zsz7] at hz);(try have hz0:=z07 w w1);(try have hz1:=z17 w w1);(try have hz2:=z27 w w1)))|(go_at_call 234;refine (HL.out _ _ _ ht cl0 (by first|rfl|simp)).mono ?_;rintro e w1 ⟨s,rfl,hs,hb1⟩;(have hq7:=ru7;(try clear hc hf);obtain ⟨hb,hc,hf,hz⟩:=hq7;(try simp only [zsz7] at hz);(try have hz0:=z07 w w1);(try have hz1:=z17 w w1);(try have hz2:=z27 w w1))))
 all_goals go_wp2
 all_goals go_ret
 all_goals
  refine ⟨s,rfl,?_,cl0⟩
  have:=HB.out t ht
  omega
end
section
open Go.RowKit
def cellsOf {α:Type} (C:α→List Value) (xs:List α):List Value:=xs.flatMap C
theorem aN5 {α:Type} {C:α→List Value} {k:Nat}:∀ {xs:List α} {i:Nat} {x:α} {j:Nat} {v:Value},(∀ x,x∈xs→(C x).length=k)→xs[i]?=some x→(C x)[j]?=some v→(cellsOf C xs)[i*k+j]?=some v
 | [],i,x,j,v,_,h,_=>by simp at h
 | y :: xs,0,x,j,v,hk,h,hj=>by
  simp at h;subst h
  simp only [cellsOf,List.flatMap_cons,Nat.zero_mul,Nat.zero_add]
  rw [List.getElem?_append_left (List.getElem?_eq_some_iff.1 hj).1];exact hj
 | y :: xs,i+1,x,j,v,hk,h,hj=>by
  simp at h
  have:=aN5 (xs:=xs) (fun z hz=>hk z (List.mem_cons_of_mem _ hz)) h hj
  simp only [cellsOf,List.flatMap_cons] at *
  have hy:=hk y (List.mem_cons_self ..)
  rw [List.getElem?_append_right (by rw [hy,Nat.add_mul];omega),hy,Nat.add_mul]
  rw [show i*k+1*k+j - k=i*k+j from by omega];exact this
theorem aK7 {α:Type} {w:World} {base k:Nat} {e:TypeId} {v:Value} {C:α→List Value} {R:α→List Value→Prop} {xs:List α} {n:Nat} (hn:n=xs.length)
  (h:w.ownsRow base e k v n (cellsOf C xs)) (hk:∀ x,x∈xs→(C x).length=k) (hR:∀ x,x∈xs→R x (C x)) :
  ∃ a cap,v = .slice a xs.length cap∧Row k R w (fun b=>some b=v.ownBlock) xs a cap:=by
 subst hn
 rcases h.2 with ⟨rfl,h0⟩|⟨g,cap,cur,rfl,hg,hh,hle,_,hs,ht⟩
 ·have:xs=[]:=List.eq_nil_of_length_eq_zero h0
  subst this
  exact ⟨none,0,rfl,Row.nil⟩
 ·refine ⟨_,cap,rfl,hle,fun i x hx=>⟨g,0,rfl,rfl,C x,hk x (List.mem_of_getElem? hx),hR x (List.mem_of_getElem? hx),fun j u hj=>?_⟩⟩
  have h1:=aN5 hk hx hj
  rw [← ht] at h1
  have h2:cur.toList[i*k+j]?=some u:=by
   have:=(List.getElem?_eq_some_iff.1 h1).1
   rw [List.getElem?_take] at h1
   split at h1
   ·exact h1
   ·simp at h1
  simp only [World.cell?,hh,Nat.zero_add]
  simpa using h2
theorem ay5 {w:World} {base k n:Nat} {e:TypeId} {v:Value} {xs:List Value} (h:w.ownsRow base e k v n xs):∃ a cap,v = .slice a n cap:=by
 rcases h.2 with ⟨rfl,h0⟩|⟨g,cap,cur,rfl,_⟩
 ·exact ⟨none,0,by rw [h0]⟩
 ·exact ⟨_,_,rfl⟩
theorem Ex.appended {w wr w':World} {base k n:Nat} {e:TypeId} {v:Value} {xs:List Value} (he:Ex w wr) (h:wr.ownsRow base e k v n xs) (hB:w.heap.size≤base) (hg:wr.grownBy w' v.ownBlock):Ex w w':=
 he.grown hg (fun j hj=>by have:=(h.lt j hj).1;omega)
end
section
open Go.RowKit Go.Shelf
theorem ab2 {a b:Bool} (h:a=b):Ending.returned (.bool a) = .returned (.bool b):=by rw [h]
theorem ax1 {k:IntKind} {a b:Int} (h:a=b):Ending.returned (.int k a) = .returned (.int k b):=by rw [h]
theorem ab6 (n a b:Int) (w:World):Calls Tryz.prog 189 #[.int .i64 n,.int .i64 a,.int .i64 b] w fun e w'=>e = .returned (.bool (aa7 n a b))∧w=w':=by
 by_cases h1:a≤n
 all_goals
  go_enter Tryz.func189,Tryz.ntmps189
  go_wp2
  go_ret
  exact ⟨ab2 (by simp [aa7];try omega),rfl⟩
theorem ai1 (lo hi a b:Int) (w:World):Calls Tryz.prog 226 #[.int .i64 lo,.int .i64 hi,.int .i64 a,.int .i64 b] w fun e w'=>e = .returned (.bool (an9 lo hi a b))∧w=w':=by
 by_cases h1:a≤lo <;> by_cases h2:lo≤hi
 all_goals
  go_enter Tryz.func226,Tryz.ntmps226
  go_wp2
  go_ret
  exact ⟨ab2 (by simp only [an9];rw [Bool.eq_iff_iff];simp;try omega),rfl⟩
theorem aG0 (c:UInt8) (w:World):Calls Tryz.prog 248 #[.int .u8 c.toNat] w fun e w'=>e = .returned (.bool (an7 c))∧w=w':=by
 by_cases h1:97≤(c.toNat:Int)
 all_goals
  go_enter Tryz.func248,Tryz.ntmps248
  go_wp2
  go_ret
  exact ⟨ab2 (by simp [an7];try omega),rfl⟩
theorem bh7 (c:UInt8) (w:World):Calls Tryz.prog 251 #[.int .u8 c.toNat] w fun e w'=>e = .returned (.bool (aX1 c))∧w=w':=by
 by_cases h1:48≤(c.toNat:Int)
 all_goals
  go_enter Tryz.func251,Tryz.ntmps251
  go_wp2
  go_ret
  exact ⟨ab2 (by simp [aX1];try omega),rfl⟩
theorem bc2 (w:World) (l:List UInt8):Asks Tryz.prog 250 #[] w as2 bf0 l (fun c=>!alnum c):=by
 refine ⟨enters_of Tryz.func250 (by kernel_rfl) rfl,fun c vs W hm hr hW=>?_⟩
 cases hr
 show Calls _ _ #[.int .u8 c.toNat] _ _
 cases h:an7 c
 all_goals
  go_enter Tryz.func250,Tryz.ntmps250
  go_wp2_with (first|(go_at_call 248;refine (aG0 _ _).mono ?_;rintro e w' ⟨rfl,rfl⟩)|(go_at_call 251;refine (bh7 _ _).mono ?_;rintro e w' ⟨rfl,rfl⟩))
  go_ret
  exact ⟨ab2 (by simp [alnum,h]),Ex.refl _⟩
theorem aX5 (w:World) (e:TypeId) (s:ByteArray):Ex w (Lib.bytesWorld w e s):=
 ⟨rfl,rfl,rfl,
  by rw [Lib.bytesWorld_size];omega,fun b hb _=>Lib.bytesWorld_at_old w e s b hb⟩
theorem aP0 (w:World) (e:TypeId) (s:ByteArray) (cap:Nat) (hc:s.size≤cap):Row 1 bf0 (Lib.bytesWorld w e s) (fun _=>True) (bytes s) (some ⟨w.heap.size,0,none⟩) cap:=
 ⟨by unfold bytes;simpa using hc,fun i x hx=>⟨w.heap.size,0,rfl,trivial,[.int .u8 x.toNat],rfl,rfl,fun j v hj=>by
  unfold bytes at hx
  obtain ⟨hi,rfl⟩:=List.getElem?_eq_some_iff.1 hx
  have hi':i<s.size:=by simpa using hi
  have:=Lib.bytesWorld_cell w e s i hi'
  cases j with
  | zero=>simp at hj;subst hj;simpa [List.getD,hi'] using this
  | succ j=>simp at hj⟩⟩
theorem aJ9 (s:ByteArray):s.size=(bytes s).length:=by unfold bytes;rw [Array.length_toList];rfl
theorem ab8 (s:ByteArray) (w:World) (hs:s.size≤9223372036854775807):Calls Tryz.prog 225 #[.string s] w fun e w'=>e = .returned (.bool (isNm s))∧Ex w w':=by
 have HW:=Lib.hid (fun n (w:World)=>ab6 n 1 12 w)
 have HL:=Lib.hid aG0
 cases hw:aa7 s.size 1 12 with
 | false=>
  have HN:Hid (isNm s=false):=Lib.hid (by simp [isNm,hw])
  go_enter Tryz.func225,Tryz.ntmps225
  go_wp2_with (go_at_call 189;refine (HW.out _ _).mono ?_;rintro e w' ⟨rfl,rfl⟩)
  go_ret
  exact ⟨ab2 HN.out.symm,Ex.refl _⟩
 | true=>
  have h1:1≤s.size:=by simp [aa7] at hw;omega
  have h12:s.size≤12:=by simp [aa7] at hw;omega
  obtain ⟨c,r,hcr⟩:∃ c r,bytes s=c :: r:=by
   cases h:bytes s with
   | nil=>rw [aJ9,h] at h1;simp at h1
   | cons c r=>exact ⟨c,r,rfl⟩
  have hs0:s[0]=c:=by
   have:(bytes s)[0]?=some c:=by rw [hcr];rfl
   unfold bytes at this
   simp only [Array.getElem?_toList] at this
   exact (Array.getElem?_eq_some_iff.1 this).2
  cases hl:an7 c with
  | false=>
   have HN:Hid (isNm s=false):=Lib.hid (by simp [isNm,hw,hcr,hl])
   have HS:=Lib.hid hs0;clear hs0 hcr
   go_enter Tryz.func225,Tryz.ntmps225
   go_wp2_with (first|(go_at_call 189;refine (HW.out _ _).mono ?_;rintro e w' ⟨rfl,rfl⟩)|(go_at_call 248;rw [HS.out];refine (HL.out _ _).mono ?_;rintro e w' ⟨rfl,rfl⟩))
   go_ret
   exact ⟨ab2 HN.out.symm,Ex.refl _⟩
  | true=>
   have HN:Hid (isNm s=(bytes s).all alnum):=Lib.hid (by simp [isNm,hw,hcr,hl])
   have HA:=Lib.hid (al6 alnum (bytes s))
   have HS:=Lib.hid hs0;clear hs0 hcr
   have hlen:(bytes s).length≤140737488355328:=by rw [← aJ9];omega
   have HC:Hid (∀ cap,s.size≤cap→Calls Tryz.prog 249 #[.slice (some ⟨w.heap.size,0,none⟩) s.size cap,.func (.func 250) #[] #[]] (Lib.bytesWorld w 5 s) fun e w'=>e = .returned (.bool ((bytes s).any fun c=>!alnum c))∧Ex (Lib.bytesWorld w 5 s) w'):=
    Lib.hid (fun cap hc=>by
     have:=bd8 (aP0 w 5 s cap hc) hlen (bc2 _ _)
     rw [← aJ9] at this;exact this)
   clear hlen
   have kc:=fun (w:World)=>Lib.run_convert_string_bytes (P:=Tryz.prog) w 9 23 5 s Tryz.underlying9 Tryz.underlying23 Tryz.underlying5
   have hcap:s.size≤grownCap w s.size 0 5:=grownCap_ge _ _ _ _
   go_enter Tryz.func225,Tryz.ntmps225
   go_wp2_with (first|(go_at_call 189;refine (HW.out _ _).mono ?_;rintro e w' ⟨rfl,rfl⟩)|(go_at_call 248;rw [HS.out];refine (HL.out _ _).mono ?_;rintro e w' ⟨rfl,rfl⟩)|(go_at_call 249;refine (HC.out _ hcap).mono ?_;rintro e w' ⟨rfl,hb⟩))
   go_ret
   exact ⟨ab2 (by rw [HN.out,← HA.out]),(aX5 _ _ _).trans hb⟩
end
section
open Go.RowKit Go.Shelf
theorem aC4 {w w':World} {F:Nat→Prop} {xs:List Int} {a:Option Addr} {cap:Nat} (h:RInts w F xs a cap) (hex:Same F w w') {i:Nat} (hi:i<xs.length) :
  ∃ x b off,Hid (xs[i]?=some x)∧a=some ⟨b,off,none⟩∧F b∧w'.cell? ⟨b,off+i,none⟩=some (.int .i64 x)∧I64 x:=by
 obtain ⟨b,off,ha,hb,vs,hl,⟨rfl,hx⟩,hc⟩:=h.at_ i xs[i] (List.getElem?_eq_getElem hi)
 exact ⟨xs[i],b,off,Lib.hid (List.getElem?_eq_getElem hi),ha,hb,hex.cell (p:=⟨b,off+i,none⟩) (by have:=hc 0 _ rfl;simpa using this) hb,hx⟩
theorem aM4 (w:World) (l:List ByteArray) (hl:∀ s,s∈l→s.size≤9223372036854775807):Asks Tryz.prog 225 #[] w as2 RStr l isNm:=by
 refine ⟨enters_of Tryz.func225 (by kernel_rfl) rfl,fun s vs W hm hr hW=>?_⟩
 cases hr
 exact ab8 s W (hl s hm)
theorem aT2 (gs:List Int) (j:Nat) (x:Int) (h:gs[j]?=some x):(gs.take (j+1)).sum=(gs.take j).sum+x:=by
 rw [List.take_add_one,h];simp [List.sum_append]
theorem bR8 {α:Type} {p:α→Bool} {xs:List α} {j:Nat} (h:∀ i y,i<j→xs[i]?=some y→p y=true) (hj:xs.length≤j):xs.all p=true:=by
 rw [List.all_eq_true];intro x hx
 obtain ⟨i,hi⟩:=List.getElem?_of_mem hx
 exact h i x (by have:=(List.getElem?_eq_some_iff.1 hi).1;omega) hi
theorem cu7 {α:Type} {p:α→Bool} {xs:List α} {j:Nat} {x:α} (hx:xs[j]?=some x) (hp:p x=false):xs.all p=false:=by
 rw [List.all_eq_false];exact ⟨x,List.mem_of_getElem? hx,by simp [hp]⟩
theorem bR9 {α:Type} {xs:List α} {p:α→Bool} {j:Nat} {x:α} (hno:∀ i y,i<j→xs[i]?=some y→p y=true) (hx:xs[j]?=some x) (hp:p x=true) :
  ∀ i y,i<j+1→xs[i]?=some y→p y=true:=fun i y hi hy=>by
 rcases Nat.lt_or_ge i j with h|h
 ·exact hno i y h hy
 ·obtain rfl:i=j:=by omega
  rw [hx] at hy;cases hy;exact hp
theorem bs9 (ws:List ByteArray) (gs:List Int) (w:World) {F:Nat→Prop} {wa ga:Option Addr} {wc gc:Nat} (hw:aw8 w F ws wa wc) (hg:RInts w F gs ga gc)
  (hl:∀ s,s∈ws→s.size≤9223372036854775807) (hgl:gs.length≤1000000) (hwl:ws.length≤1000000) :
  Calls Tryz.prog 256 #[.slice wa ws.length wc,.slice ga gs.length gc] w fun e w'=>e = .returned (.bool (ae7 ws gs))∧Ex w w':=by
 have HA:=Lib.hid (fun (w':World) (hx:Ex w w')=>bI2 (hw.keep (w':=w') hx.same (fun _ h=>h) (fun _ _ _ h=>h)) (by omega) (aM4 w' ws hl))
 go_enter Tryz.func256,Tryz.ntmps256
 go_wp2
 go_loop [5,10] (fun s i=>∃ j:Nat,j≤gs.length∧i = .int .i64 j∧Hid (∀ i y,i<j→gs[i]?=some y→aa7 y 0 1048576=true)∧∃ t:Int,Hid (t=(gs.take j).sum)∧0≤t∧t≤j*1048576∧s = .int .i64 t) (fun _ i=>gs.length - (intOf i).toNat)
 case atStart=>exact ⟨0,by omega,rfl,fun i y h=>by omega,0,by simp [Hid],by omega,by omega,rfl⟩
 case round=>
  obtain ⟨j,hj,rfl,hno,t,ht,ht0,ht1,rfl⟩:=hrel
  by_cases hlt:j<gs.length
  ·obtain ⟨x,b,off,hx,rfl,_,c0,hx1,hx2⟩:=aC4 hg (Ex.refl w).same hlt
   cases hp:aa7 x 0 1048576 with
   | true=>
    have h0:0≤x:=by simp [aa7] at hp;omega
    have h1:x≤1048576:=by simp [aa7] at hp;omega
    have Hi:=Lib.hid (bR9 (p:=fun n=>aa7 n 0 1048576) hno.out hx.out hp);clear hno
    have Ht:=Lib.hid (aT2 gs j x hx.out)
    go_wp2_with (go_at_call 189;refine (ab6 _ _ _ _).mono ?_;rintro e w' ⟨rfl,rfl⟩)
    go_round
    case rel=>exact ⟨j+1,by omega,by go_num,Hi,t+x,by unfold Hid;rw [Ht.out,ht.out],by omega,by push_cast;omega,rfl⟩
    case measure=>simp [intOf];omega
   | false=>
    have Hr:Hid (ae7 ws gs=false):=Lib.hid (by simp only [ae7,cu7 (p:=fun n=>aa7 n 0 1048576) hx.out hp,Bool.false_and])
    go_wp2_with (go_at_call 189;refine (ab6 _ _ _ _).mono ?_;rintro e w' ⟨rfl,rfl⟩)
    go_ret
    exact ⟨ab2 Hr.out.symm,Ex.refl _⟩
  ·have hall:(gs.all fun n=>aa7 n 0 1048576)=true:=bR8 (p:=fun n=>aa7 n 0 1048576) hno.out (by omega)
   have hsum:t=gs.sum:=by rw [ht.out,List.take_of_length_le (by omega)]
   cases h1:aa7 ws.length 1 12 with
   | false=>
    have Hr:Hid (ae7 ws gs=false):=Lib.hid (by simp only [ae7,h1,Bool.false_and,Bool.and_false])
    clear hall hsum
    go_wp2_with (go_at_call 189;refine (ab6 _ _ _ _).mono ?_;rintro e w' ⟨rfl,rfl⟩)
    go_ret
    exact ⟨ab2 Hr.out.symm,Ex.refl _⟩
   | true=>
    cases h2:decide (ws.length=gs.length) with
    | false=>
     have Hr:Hid (ae7 ws gs=false):=Lib.hid (by simp only [ae7,h2,Bool.false_and,Bool.and_false])
     have h2':((ws.length:Int) == (gs.length:Int))=false:=by simp at h2 ⊢;omega
     clear hall hsum h2
     go_wp2_with (go_at_call 189;refine (ab6 _ _ _ _).mono ?_;rintro e w' ⟨rfl,rfl⟩)
     go_ret
     exact ⟨ab2 Hr.out.symm,Ex.refl _⟩
    | true=>
     have h2':((ws.length:Int) == (gs.length:Int))=true:=by simp at h2 ⊢;omega
     by_cases h3:0<t
     ·have Hr:Hid (ae7 ws gs=ws.all isNm):=Lib.hid (by rw [hsum] at h3;simp only [ae7,hall,h1,h2,Bool.true_and,decide_eq_true h3])
      clear hall hsum h2
      go_wp2_with (first|(go_at_call 189;refine (ab6 _ _ _ _).mono ?_;rintro e w' ⟨rfl,rfl⟩)|(go_at_call 230;refine (HA.out _ (Ex.refl _)).mono ?_;rintro e w' ⟨rfl,hb⟩))
      go_ret
      exact ⟨ab2 Hr.out.symm,hb⟩
     ·have Hr:Hid (ae7 ws gs=false):=Lib.hid (by rw [hsum] at h3;simp only [ae7,decide_eq_false h3,Bool.false_and,Bool.and_false])
      clear hall hsum h2
      go_wp2_with (go_at_call 189;refine (ab6 _ _ _ _).mono ?_;rintro e w' ⟨rfl,rfl⟩)
      go_ret
      exact ⟨ab2 Hr.out.symm,Ex.refl _⟩
theorem cl14 {p:Prop} (h:p:=by first|exact hr1|exact hr2|exact hr3|exact hr4):p:=h
theorem bs8 (r:Rul) (w:World) (hs:SmR r) :
  Calls Tryz.prog 195 #[.agg #[.string r.name,.string r.kind,.string r.a,.string r.b,.int .i64 r.n]] w fun e w'=>e = .returned (.bool (at7 r))∧Ex w w':=by
 have hr1:=hs.name.le
 have hr2:=hs.kind.le
 have hr3:=hs.a.le
 have hr4:=hs.b.le
 have hab:r.a.size+r.b.size≤9223372036854775807:=by have:=hs.a;have:=hs.b;unfold SmS at *;omega
 clear hs
 obtain ⟨rname,rkind,ra,rb,rn⟩:=r
 simp only at *
 cases h1:isNm rname
 ·go_enter Tryz.func195,Tryz.ntmps195
  go_wp2_with (first|(go_at_call 225;refine (ab8 _ _ cl14).mono ?_;rintro e w1 ⟨rfl,hb1⟩;(have hq7:=ru7;(try clear hc hf);obtain ⟨hb,hc,hf,hz⟩:=hq7;(try simp only [zsz7] at hz);(try have hz0:=z07 w w1);(try have hz1:=z17 w w1);(try have hz2:=z27 w w1)))|(go_at_call 189;refine (ab6 _ _ _ _).mono ?_;rintro e w' ⟨rfl,rfl⟩))
  go_ret
  exact ⟨ab2 (by simp [at7,h1]),cl0⟩
 cases h2:isNm rkind
 ·go_enter Tryz.func195,Tryz.ntmps195
  go_wp2_with (first|(go_at_call 225;refine (ab8 _ _ cl14).mono ?_;rintro e w1 ⟨rfl,hb1⟩;(have hq7:=ru7;(try clear hc hf);obtain ⟨hb,hc,hf,hz⟩:=hq7;(try simp only [zsz7] at hz);(try have hz0:=z07 w w1);(try have hz1:=z17 w w1);(try have hz2:=z27 w w1)))|(go_at_call 189;refine (ab6 _ _ _ _).mono ?_;rintro e w' ⟨rfl,rfl⟩))
  go_ret
  exact ⟨ab2 (by simp [at7,h2]),cl0⟩
 cases h3:ra.toList.isEmpty
 all_goals cases h3a:isNm ra
 all_goals cases h4:rb.toList.isEmpty
 all_goals cases h4a:isNm rb
 all_goals
  have h5:=bt2 ra rb
  simp only [isE,h3,h4,Bool.and_self,Bool.and_false,Bool.false_and] at h5
  go_enter Tryz.func195,Tryz.ntmps195
  go_wp2_with (first|(go_at_call 225;refine (ab8 _ _ cl14).mono ?_;rintro e w1 ⟨rfl,hb1⟩;(have hq7:=ru7;(try clear hc hf);obtain ⟨hb,hc,hf,hz⟩:=hq7;(try simp only [zsz7] at hz);(try have hz0:=z07 w w1);(try have hz1:=z17 w w1);(try have hz2:=z27 w w1)))|(go_at_call 189;refine (ab6 _ _ _ _).mono ?_;rintro e w' ⟨rfl,rfl⟩))
  go_ret
  exact ⟨ab2 (by simp [at7,isE,h1,h2,h3,h4,h3a,h4a]),cl0⟩
end
section
open Go.RowKit Go.Shelf
def af3:List ByteArray→List Int→List (Int ⊕ ByteArray)
 | s :: ws,n :: gs=>.inr s :: .inl n :: af3 ws gs
 | _,_=>[]
theorem aF7:∀ (ws:List ByteArray) (gs:List Int) (j:Nat) (s:ByteArray) (n:Int),ws[j]?=some s→gs[j]?=some n→af3 (ws.take (j+1)) (gs.take (j+1))=af3 (ws.take j) (gs.take j) ++ [.inr s,.inl n]
 | [],_,j,s,n,h,_=>by simp at h
 | _ :: _,[],j,s,n,_,h=>by simp at h
 | a :: ws,b :: gs,0,s,n,h,h'=>by simp at h h';subst h h';simp [af3]
 | a :: ws,b :: gs,j+1,s,n,h,h'=>by
  have:=aF7 ws gs j s n (by simpa using h) (by simpa using h')
  simp [af3,this]
theorem az3:∀ (ws:List ByteArray) (gs:List Int),ws.length=gs.length→(af3 ws gs).length=2*ws.length
 | [],_,_=>by simp [af3]
 | _ :: _,[],h=>by simp at h
 | a :: ws,b :: gs,h=>by simp [af3,az3 ws gs (by simpa using h)];omega
theorem ba8:∀ (ws:List ByteArray) (gs:List Int),ws.length=gs.length→ac0 (af3 ws gs)=(ws.map fun s=>1+s.size).sum+(gs.map fun n=>1+intB n).sum
 | [],[],_=>by simp [af3,ac0]
 | [],_ :: _,h=>by simp at h
 | _ :: _,[],h=>by simp at h
 | a :: ws,b :: gs,h=>by
  have:=ba8 ws gs (by simpa using h)
  simp only [ac0,af3,List.map_cons,List.sum_cons,as3] at *;omega
theorem aL5:∀ (ws:List ByteArray) (gs:List Int),(∀ n,n∈gs→I64 n)→∀ n,Sum.inl n∈af3 ws gs→I64 n
 | [],_,_,n,h=>by simp [af3] at h
 | _ :: _,[],_,n,h=>by simp [af3] at h
 | a :: ws,b :: gs,hg,n,h=>by
  simp only [af3,List.mem_cons] at h
  rcases h with h|h|h
  ·cases h
  ·cases h;exact hg _ (List.mem_cons_self ..)
  ·exact aL5 ws gs (fun m hm=>hg m (List.mem_cons_of_mem _ hm)) n h
theorem aR7 (l:List (Int ⊕ ByteArray)):cellsOf (fun x=>[anyV x]) l=l.map anyV:=by
 induction l with
 | nil=>rfl
 | cons x l ih=>simp only [cellsOf,List.flatMap_cons,List.map_cons] at *;rw [ih];rfl
theorem bE1:(Tryz.prog.info? 20).map (fun i=>(i.zero,i.size,i.bytes))=some (some .nilIface,1,16):=by kernel_rfl
theorem RInts.i64 {w:World} {F:Nat→Prop} {xs:List Int} {a:Option Addr} {c:Nat} (h:RInts w F xs a c):∀ n,n∈xs→I64 n:=fun n hn=>by
 obtain ⟨i,hi⟩:=List.getElem?_of_mem hn
 obtain ⟨b,off,_,_,vs,_,⟨_,hx⟩,_⟩:=h.at_ i n hi
 exact hx
theorem bY7 (w:World) (x y:Value) (t:TypeId):∀ j u,[x,y][j]?=some u→(w.alloc (.cells #[x,y] t)).cell? ((⟨w.heap.size,0,none⟩:Addr).add j)=some u:=by
 intro j u hj
 match j,hj with
 | 0,hj=>simp at hj;subst hj;simp [Addr.add]
 | 1,hj=>simp at hj;subst hj;simp [Addr.add]
theorem bY6 (a b:Int ⊕ ByteArray):∀ u∈[anyV a,anyV b],u.oneCell'=true:=by
 cases a <;> cases b <;> simp [anyV,Value.oneCell']
def af5 (n:ByteArray) (ws:List ByteArray) (gs:List Int) (j:Nat):List (Int ⊕ ByteArray):=Sum.inr n :: Sum.inl (ws.length:Int) :: af3 (ws.take j) (gs.take j)
theorem aG9 (n:ByteArray) (ws:List ByteArray) (gs:List Int) (j:Nat) (h:ws.length=gs.length) (hj:j≤ws.length):(af5 n ws gs j).length=2+2*j:=by
 simp only [af5,List.length_cons];rw [az3 _ _ (by simp [h])];simp;omega
theorem aO6 (n:ByteArray) (ws:List ByteArray) (gs:List Int) (j:Nat) (s:ByteArray) (g:Int) (h:ws[j]?=some s) (h':gs[j]?=some g):af5 n ws gs (j+1)=af5 n ws gs j ++ [.inr s,.inl g]:=by
 simp only [af5,aF7 ws gs j s g h h',List.cons_append]
theorem cf5 (n o u:ByteArray) (lo hi:Int) (ws:List ByteArray) (gs:List Int) (w:World) {F:Nat→Prop} (wa ga:Option Addr) (cw cg:Nat) (hws:aw8 w F ws wa cw) (hgs:RInts w F gs ga cg) (hlen:ws.length=gs.length) (hl:ws.length≤1000) (hr1:n.size≤1000000)
  (hb:ac0 (af3 ws gs)≤1000000) (hp:Pow10 w) (hwd:WordsAt w) :
  Calls Tryz.prog 235 #[.agg #[.string n,.string o,.string u,.int .i64 3,.int .i64 lo,.int .i64 hi,.slice wa ws.length cw,.slice ga gs.length cg]] w
   fun e w'=>∃ s:ByteArray,e = .returned (.string s)∧s.size≤7+n.size+intB ws.length+ac0 (af3 ws gs)∧Ex w w':=by
 have c0:=hwd 3 _ rfl
 have lB:3<w.heap.size:=World.block_lt_of_cell? _ _ c0
 obtain ⟨i0,hiA,hzA,hz1,hz2⟩:=info_parts bE1
 have HE:=Lib.hid hlen
 have HBB:=Lib.hid hb
 clear hlen hb
 go_enter Tryz.func235,Tryz.ntmps235
 go_wp2
 go_loopw [4,51] (fun s4 i wr=>∃ (j:Nat),j≤ws.length∧i = .int .i64 j∧Ex (w.alloc (.cells #[.string n,.string o,.string u,.int .i64 3,.int .i64 lo,.int .i64 hi,.slice wa ws.length cw,.slice ga gs.length cg] 97)) wr ∧
  Hid (wr.ownsRow (w.heap.size+1) 20 1 s4 (2+2*j) ((af5 n ws gs j).map anyV))) (fun _ i _=>ws.length - (intOf i).toNat)
 case atStart=>
  refine ⟨0,by omega,rfl,cl0,?_⟩
  have:=World.ownsRow_lit (base:=w.heap.size+1) (e:=20) (size:=1) (w.alloc (.cells #[.string n,.string o,.string u,.int .i64 3,.int .i64 lo,.int .i64 hi,.slice wa ws.length cw,.slice ga gs.length cg] 97)) #[anyV (.inr n),anyV (.inl ws.length)] 2 (by simp) (by decide) rfl
  simpa [af5,af3,Hid,anyV] using this
 case round=>
  obtain ⟨j,hj,rfl,hex,hown⟩:=hrel
  obtain ⟨hc,hf⟩:=hex.rules
  have hz:=hex.size
  simp only [World.size_alloc] at hz
  have hz0:w.heap.size<wr.heap.size:=by omega
  have hexw:=((Ex.refl w).alloc (o:=.cells #[.string n,.string o,.string u,.int .i64 3,.int .i64 lo,.int .i64 hi,.slice wa ws.length cw,.slice ga gs.length cg] 97)).trans hex
  obtain ⟨a4,cap4,rfl⟩:=ay5 hown.out
  by_cases hlt:j<ws.length
  ·obtain ⟨s,b,off,hs,rfl,_,c1,_⟩:=au1 hws hexw.same hlt
   have hlt2:j<gs.length:=by rw [← HE.out];exact hlt
   obtain ⟨g,b2,off2,hg,rfl,_,c2,hgi⟩:=aC4 hgs hexw.same hlt2
   have hs1:b<wr.heap.size:=World.block_lt_of_cell? _ _ c1
   have hs2:b2<wr.heap.size:=World.block_lt_of_cell? _ _ c2
   have i2:(j:Int)<gs.length:=by omega
   have Hs:=Lib.hid (aO6 n ws gs j s g hs.out hg.out)
   go_wp2_with (at_builtin;refine wpList_append_own_at _ rfl _ _ 320 rfl (w.heap.size+1) 20 i0 .nilIface 1 16 Tryz.underlying320 hiA hzA hz1 hz2 rfl (by decide) (.slice a4 (2+2*j) cap4) _ _ rfl (hown.out.alloc _) ⟨wr.heap.size,0,none⟩ 2 2 [anyV (.inr s),anyV (.inl g)] rfl rfl ?c1 ?c2 ?c3 ?c4 ?c5 ?_)
   case c1=>exact bY7 _ _ _ _
   case c2=>exact bY6 _ _
   case c3=>unfold maxLen;omega
   case c4=>omega
   case c5=>simp;omega
   intro v' w2 hown' hgrow _ hat
   have hex2:=Ex.appended (hex.alloc (o:=.cells #[anyV (.inr s),anyV (.inl g)] 20)) (hown.out.alloc _) (by simp) hgrow
   have HO:Hid (w2.ownsRow (w.heap.size+1) 20 1 v' (2+2*(j+1)) ((af5 n ws gs (j+1)).map anyV)):=by
    unfold Hid
    rw [Hs.out,List.map_append]
    rw [show 2+2*(j+1)=2+2*j+2 from by omega]
    exact hown'
   clear hown' hgrow hat hown
   obtain ⟨a5,cap5,rfl⟩:=ay5 HO.out
   go_wp2
   go_roundw
   case rel=>exact ⟨j+1,by omega,by go_num,hex2,HO⟩
   case measure=>simp [intOf];omega
  ·obtain rfl:j=ws.length:=by omega
   have hpl:=aG9 n ws gs ws.length HE.out (Nat.le_refl _)
   have hpi:af5 n ws gs ws.length=Sum.inr n :: Sum.inl (ws.length:Int) :: af3 ws gs:=by
    rw [af5,List.take_of_length_le (Nat.le_refl _),List.take_of_length_le (by rw [HE.out];exact Nat.le_refl _)]
   have hi64:∀ m,Sum.inl m∈af5 n ws gs ws.length→I64 m:=by
    rw [hpi];intro m hm
    simp only [List.mem_cons] at hm
    rcases hm with h|h|h
    ·cases h
    ·cases h;unfold I64;omega
    ·exact aL5 ws gs (RInts.i64 hgs) m h
   obtain ⟨a6,cap6,hv6,hrow⟩:=aK7 (C:=fun x=>[anyV x]) (R:=RAny) (xs:=af5 n ws gs ws.length) hpl.symm (by rw [aR7];exact hown.out) (fun _ _=>rfl) (fun x hx=>by
    cases x with
    | inl m=>exact ⟨rfl,hi64 m hx⟩
    | inr t=>rfl)
   rw [hpl] at hv6
   cases hv6
   have hB:ac0 (af5 n ws gs ws.length)=1+n.size+(1+intB ws.length)+ac0 (af3 ws gs):=by
    rw [hpi];simp only [ac0,List.map_cons,List.sum_cons,as3];omega
   have hib:=ae3 (ws.length:Int)
   have HLn:=Lib.hid (aW1 ⟨#[112,105,99,107]⟩ (af5 n ws gs ws.length) wr hrow (hp.ex hexw) (by rw [hpl];omega) (by rw [hB];have:=HBB.out;show 4+_≤_;omega))
   rw [hpl,hB] at HLn
   clear hpl hpi hi64 hrow hB hown
   go_wp2_with (go_at_call 234;refine HLn.out.mono ?_;rintro e w1 ⟨s,rfl,hs,hb1⟩)
   go_ret
   refine ⟨s,rfl,?_,hexw.trans hb1⟩
   have hs':s.size≤4+(1+n.size+(1+intB ↑ws.length)+ac0 (af3 ws gs))+1:=hs
   omega
end
section
open Go.RowKit Go.Shelf
theorem bc3 (w:World) (l:List (Int × Int)) (B n:Nat) (hn:n≤1000000) (hB:w.cell? ⟨B,0,none⟩=some (.int .i64 n)) :
  Asks Tryz.prog 232 #[.pointer (some ⟨B,0,none⟩)] w ag1 RTwo l (moveB n):=by
 refine ⟨enters_of Tryz.func232 (by kernel_rfl) rfl,fun m vs W hm hr hW=>?_⟩
 obtain ⟨rfl,h1,h2⟩:=hr
 have c0:=hW.cell hB
 have lB:B<W.heap.size:=World.block_lt_of_cell? _ _ c0
 obtain ⟨m1,m2⟩:=m
 simp only at h1 h2
 show Calls _ _ #[.agg #[.int .i64 m1,.int .i64 m2],.pointer (some ⟨B,0,none⟩)] _ _
 cases h:aa7 m1 0 (n - 1)
 all_goals
  go_enter Tryz.func232,Tryz.ntmps232
  go_wp2_with ((go_at_call 189;refine (ab6 _ _ _ _).mono ?_;rintro e w1 ⟨rfl,rfl⟩))
  go_ret
  exact ⟨ab2 (by simp [moveB,h]),cl0⟩
theorem bt0 (x:Lif) (w:World) {F:Nat→Prop} {sa ma:Option Addr} {sc mc:Nat} (hs:aw8 w F x.states sa sc) (hm:cu8 w F x.moves ma mc) (hx:SmL x) :
  Calls Tryz.prog 193 #[.agg #[.string x.name,.slice sa x.states.length sc,.slice ma x.moves.length mc]] w fun e w'=>e = .returned (.bool (aj9 x))∧Ex w w':=by
 have hn:=hx.name.le
 have hl1:=hx.nstates
 have hl2:=hx.nmoves
 have HS:=Lib.hid (fun (w':World) (he:Ex w w')=>bI2 (hs.keep (w':=w') he.same (fun _ h=>h) (fun _ _ _ h=>h)) (by omega) (aM4 w' x.states (fun s h=>(hx.states s h).le)))
 have HT:=Lib.hid (fun (w':World) B (he:Ex w w') hB=>ch3 (hm.keep (w':=w') he.same (fun _ h=>h) (fun _ _ _ h=>h)) (by omega) (bc3 w' x.moves B x.states.length hl1 hB))
 clear hx hs hm
 obtain ⟨name,states,moves⟩:=x
 simp only at *
 cases h1:isNm name
 ·go_enter Tryz.func193,Tryz.ntmps193;go_wp2_with (first|(go_at_call 225;refine (ab8 _ _ hn).mono ?_;rintro e w1 ⟨rfl,hb1⟩;(have hq7:=ru7;(try clear hc hf);obtain ⟨hb,hc,hf,hz⟩:=hq7;(try simp only [zsz7] at hz);(try have hz0:=z07 w w1);(try have hz1:=z17 w w1);(try have hz2:=z27 w w1)))|(go_at_call 189;refine (ab6 _ _ _ _).mono ?_;rintro e w1 ⟨rfl,rfl⟩)|(go_at_call 230;refine (HS.out _ cl0).mono ?_;rintro e w1 ⟨rfl,hb1⟩;(have hq7:=ru7;(try clear hc hf);obtain ⟨hb,hc,hf,hz⟩:=hq7;(try simp only [zsz7] at hz);(try have hz0:=z07 w w1);(try have hz1:=z17 w w1);(try have hz2:=z27 w w1)))|(go_at_call 231;refine (HT.out _ _ cl0 (by simp [*])).mono ?_;rintro e w1 ⟨rfl,hb1⟩;(have hq7:=ru7;(try clear hc hf);obtain ⟨hb,hc,hf,hz⟩:=hq7;(try simp only [zsz7] at hz);(try have hz0:=z07 w w1);(try have hz1:=z17 w w1);(try have hz2:=z27 w w1))));go_ret
  exact ⟨ab2 (by simp [aj9,h1]),cl0⟩
 cases h2:aa7 states.length 1 12
 ·go_enter Tryz.func193,Tryz.ntmps193;go_wp2_with (first|(go_at_call 225;refine (ab8 _ _ hn).mono ?_;rintro e w1 ⟨rfl,hb1⟩;(have hq7:=ru7;(try clear hc hf);obtain ⟨hb,hc,hf,hz⟩:=hq7;(try simp only [zsz7] at hz);(try have hz0:=z07 w w1);(try have hz1:=z17 w w1);(try have hz2:=z27 w w1)))|(go_at_call 189;refine (ab6 _ _ _ _).mono ?_;rintro e w1 ⟨rfl,rfl⟩)|(go_at_call 230;refine (HS.out _ cl0).mono ?_;rintro e w1 ⟨rfl,hb1⟩;(have hq7:=ru7;(try clear hc hf);obtain ⟨hb,hc,hf,hz⟩:=hq7;(try simp only [zsz7] at hz);(try have hz0:=z07 w w1);(try have hz1:=z17 w w1);(try have hz2:=z27 w w1)))|(go_at_call 231;refine (HT.out _ _ cl0 (by simp [*])).mono ?_;rintro e w1 ⟨rfl,hb1⟩;(have hq7:=ru7;(try clear hc hf);obtain ⟨hb,hc,hf,hz⟩:=hq7;(try simp only [zsz7] at hz);(try have hz0:=z07 w w1);(try have hz1:=z17 w w1);(try have hz2:=z27 w w1))));go_ret
  exact ⟨ab2 (by simp [aj9,h2]),cl0⟩
 cases h3:states.all isNm
 ·go_enter Tryz.func193,Tryz.ntmps193;go_wp2_with (first|(go_at_call 225;refine (ab8 _ _ hn).mono ?_;rintro e w1 ⟨rfl,hb1⟩;(have hq7:=ru7;(try clear hc hf);obtain ⟨hb,hc,hf,hz⟩:=hq7;(try simp only [zsz7] at hz);(try have hz0:=z07 w w1);(try have hz1:=z17 w w1);(try have hz2:=z27 w w1)))|(go_at_call 189;refine (ab6 _ _ _ _).mono ?_;rintro e w1 ⟨rfl,rfl⟩)|(go_at_call 230;refine (HS.out _ cl0).mono ?_;rintro e w1 ⟨rfl,hb1⟩;(have hq7:=ru7;(try clear hc hf);obtain ⟨hb,hc,hf,hz⟩:=hq7;(try simp only [zsz7] at hz);(try have hz0:=z07 w w1);(try have hz1:=z17 w w1);(try have hz2:=z27 w w1)))|(go_at_call 231;refine (HT.out _ _ cl0 (by simp [*])).mono ?_;rintro e w1 ⟨rfl,hb1⟩;(have hq7:=ru7;(try clear hc hf);obtain ⟨hb,hc,hf,hz⟩:=hq7;(try simp only [zsz7] at hz);(try have hz0:=z07 w w1);(try have hz1:=z17 w w1);(try have hz2:=z27 w w1))));go_ret
  exact ⟨ab2 (by simp [aj9,h3]),cl0⟩
 by_cases h4:(moves.length:Int)≤32
 ·have HR:Hid (aj9 ⟨name,states,moves⟩=moves.all (moveB states.length)):=Lib.hid (by simp [aj9,h1,h2,h3];intro;omega)
  go_enter Tryz.func193,Tryz.ntmps193;go_wp2_with (first|(go_at_call 225;refine (ab8 _ _ hn).mono ?_;rintro e w1 ⟨rfl,hb1⟩;(have hq7:=ru7;(try clear hc hf);obtain ⟨hb,hc,hf,hz⟩:=hq7;(try simp only [zsz7] at hz);(try have hz0:=z07 w w1);(try have hz1:=z17 w w1);(try have hz2:=z27 w w1)))|(go_at_call 189;refine (ab6 _ _ _ _).mono ?_;rintro e w1 ⟨rfl,rfl⟩)|(go_at_call 230;refine (HS.out _ cl0).mono ?_;rintro e w1 ⟨rfl,hb1⟩;(have hq7:=ru7;(try clear hc hf);obtain ⟨hb,hc,hf,hz⟩:=hq7;(try simp only [zsz7] at hz);(try have hz0:=z07 w w1);(try have hz1:=z17 w w1);(try have hz2:=z27 w w1)))|(go_at_call 231;refine (HT.out _ _ cl0 (by simp [*])).mono ?_;rintro e w1 ⟨rfl,hb1⟩;(have hq7:=ru7;(try clear hc hf);obtain ⟨hb,hc,hf,hz⟩:=hq7;(try simp only [zsz7] at hz);(try have hz0:=z07 w w1);(try have hz1:=z17 w w1);(try have hz2:=z27 w w1))));go_ret
  exact ⟨ab2 HR.out.symm,cl0⟩
 ·go_enter Tryz.func193,Tryz.ntmps193;go_wp2_with (first|(go_at_call 225;refine (ab8 _ _ hn).mono ?_;rintro e w1 ⟨rfl,hb1⟩;(have hq7:=ru7;(try clear hc hf);obtain ⟨hb,hc,hf,hz⟩:=hq7;(try simp only [zsz7] at hz);(try have hz0:=z07 w w1);(try have hz1:=z17 w w1);(try have hz2:=z27 w w1)))|(go_at_call 189;refine (ab6 _ _ _ _).mono ?_;rintro e w1 ⟨rfl,rfl⟩)|(go_at_call 230;refine (HS.out _ cl0).mono ?_;rintro e w1 ⟨rfl,hb1⟩;(have hq7:=ru7;(try clear hc hf);obtain ⟨hb,hc,hf,hz⟩:=hq7;(try simp only [zsz7] at hz);(try have hz0:=z07 w w1);(try have hz1:=z17 w w1);(try have hz2:=z27 w w1)))|(go_at_call 231;refine (HT.out _ _ cl0 (by simp [*])).mono ?_;rintro e w1 ⟨rfl,hb1⟩;(have hq7:=ru7;(try clear hc hf);obtain ⟨hb,hc,hf,hz⟩:=hq7;(try simp only [zsz7] at hz);(try have hz0:=z07 w w1);(try have hz1:=z17 w w1);(try have hz2:=z27 w w1))));go_ret
  exact ⟨ab2 (by simp [aj9];intros;omega),cl0⟩
def au0 {α:Type} (eq:α→α→Bool):List α→List α→Bool
 | [],[]=>true
 | x :: xs,y :: ys=>eq x y && au0 eq xs ys
 | _,_=>false
theorem aN7 {α:Type} {eq:α→α→Bool}:∀ {xs ys:List α},xs.length≠ys.length→au0 eq xs ys=false
 | [],[],h=>absurd rfl h
 | [],_ :: _,_=>rfl
 | _ :: _,[],_=>rfl
 | x :: xs,y :: ys,h=>by simp only [au0,aN7 (eq:=eq) (xs:=xs) (ys:=ys) (by simpa using h),Bool.and_false]
theorem aN6 {α:Type} {eq:α→α→Bool}:∀ {xs ys:List α},xs.length=ys.length→(∀ (i:Nat) x y,xs[i]?=some x→ys[i]?=some y→eq x y=true)→au0 eq xs ys=true
 | [],[],_,_=>rfl
 | [],_ :: _,h,_=>by simp at h
 | _ :: _,[],h,_=>by simp at h
 | x :: xs,y :: ys,h,he=>by
  simp only [au0,he 0 x y rfl rfl,Bool.true_and]
  exact aN6 (by simpa using h) (fun i x' y' hx hy=>he (i+1) x' y' (by simpa using hx) (by simpa using hy))
theorem aX6 {α:Type} {eq:α→α→Bool}:∀ {xs ys:List α} {i:Nat} {x y:α},xs[i]?=some x→ys[i]?=some y→eq x y=false→au0 eq xs ys=false
 | [],_,i,x,y,hx,_,_=>by simp at hx
 | _ :: _,[],i,x,y,_,hy,_=>by simp at hy
 | a :: xs,b :: ys,0,x,y,hx,hy,he=>by simp at hx hy;subst hx hy;simp [au0,he]
 | a :: xs,b :: ys,i+1,x,y,hx,hy,he=>by
  have:=aX6 (xs:=xs) (ys:=ys) (i:=i) (by simpa using hx) (by simpa using hy) he
  simp [au0,this]
def ieq (x y:Int):Bool:=x == y
theorem bF0 {w:World} {F G:Nat→Prop} {xs ys:List Int} {a a':Option Addr} {c c':Nat} (hx:RInts w F xs a c) (hy:RInts w G ys a' c') (hl:xs.length≤140737488355328) (hl2:ys.length≤140737488355328) :
  Calls Tryz.prog 47 #[.slice a xs.length c,.slice a' ys.length c'] w fun e w'=>e = .returned (.bool (au0 ieq xs ys))∧Ex w w':=by
 by_cases hlen:(xs.length:Int)=ys.length
 ·have he:xs.length=ys.length:=by omega
  have hlen':((xs.length:Int) == (ys.length:Int))=true:=by simp;omega
  have hlen2:((xs.length:Int) != (ys.length:Int))=false:=by simp;omega
  clear hlen
  have HE:=Lib.hid he;clear he hlen'
  go_enter Tryz.func47,Tryz.ntmps47
  go_wp2
  clear hlen2
  go_loopw [13] (fun i wr=>∃ j:Nat,j≤xs.length∧i = .int .i64 j∧Hid (∀ i x y,i<j→xs[i]?=some x→ys[i]?=some y→ieq x y=true)∧Ex w wr) (fun i _=>xs.length - (intOf i).toNat)
  case atStart=>exact ⟨0,by omega,rfl,fun i x y h=>by omega,Ex.refl _⟩
  case round=>
   obtain ⟨j,hj,rfl,hno,hex⟩:=hrel
   by_cases hlt:j<xs.length
   ·obtain ⟨x,b,off,hxx,rfl,_,c0,_⟩:=aC4 hx hex.same hlt
    have hlt2:j<ys.length:=by rw [← HE.out];exact hlt
    obtain ⟨y,b2,off2,hyy,rfl,_,c1,_⟩:=aC4 hy hex.same hlt2
    have i1:(j:Int)<xs.length:=by omega
    have i2:(j:Int)<ys.length:=by omega
    cases he:ieq x y with
    | true=>
     have Hi:=Lib.hid (fun i x' y' (hi:i<j+1) (hx':xs[i]?=some x') (hy':ys[i]?=some y')=>show ieq x' y'=true from by
      rcases Nat.lt_or_ge i j with h|h
      ·exact hno.out i x' y' h hx' hy'
      ·obtain rfl:i=j:=by omega
       rw [hxx.out] at hx';rw [hyy.out] at hy';cases hx';cases hy';exact he)
     have e1:(x != y)=false:=by unfold ieq at he;simp at he;simp [he]
     clear hno he
     go_wp2
     go_quiet (fail)
     go_wp2
     go_roundw
     case rel=>exact ⟨j+1,by omega,by go_num,Hi,cl0⟩
     case measure=>simp [intOf];omega
    | false=>
     have HR:=Lib.hid (aX6 hxx.out hyy.out he)
     have e1:(x != y)=true:=by unfold ieq at he;simp at he;simp [he]
     clear hno he
     go_wp2
     go_quiet (fail)
     go_wp2
     go_ret
     exact ⟨ab2 HR.out.symm,cl0⟩
   ·have HR:=Lib.hid (aN6 HE.out (fun i x y h1 h2=>hno.out i x y (by have:=(List.getElem?_eq_some_iff.1 h1).1;omega) h1 h2))
    clear hno
    go_wp2
    go_ret
    exact ⟨ab2 HR.out.symm,cl0⟩
 ·have HR:=Lib.hid (aN7 (eq:=ieq) (xs:=xs) (ys:=ys) (by omega))
  have hlen2:((xs.length:Int) != (ys.length:Int))=true:=by simp;omega
  clear hlen
  go_enter Tryz.func47,Tryz.ntmps47
  go_wp2
  go_ret
  exact ⟨ab2 HR.out.symm,cl0⟩
theorem bE9 {w:World} {F G:Nat→Prop} {xs ys:List ByteArray} {a a':Option Addr} {c c':Nat} (hx:aw8 w F xs a c) (hy:aw8 w G ys a' c') (hl:xs.length≤140737488355328) (hl2:ys.length≤140737488355328) :
  Calls Tryz.prog 263 #[.slice a xs.length c,.slice a' ys.length c'] w fun e w'=>e = .returned (.bool (au0 seq xs ys))∧Ex w w':=by
 by_cases hlen:(xs.length:Int)=ys.length
 ·have he:xs.length=ys.length:=by omega
  have hlen':((xs.length:Int) == (ys.length:Int))=true:=by simp;omega
  have hlen2:((xs.length:Int) != (ys.length:Int))=false:=by simp;omega
  clear hlen
  have HE:=Lib.hid he;clear he hlen'
  go_enter Tryz.func263,Tryz.ntmps263
  go_wp2
  clear hlen2
  go_loopw [13] (fun i wr=>∃ j:Nat,j≤xs.length∧i = .int .i64 j∧Hid (∀ i x y,i<j→xs[i]?=some x→ys[i]?=some y→seq x y=true)∧Ex w wr) (fun i _=>xs.length - (intOf i).toNat)
  case atStart=>exact ⟨0,by omega,rfl,fun i x y h=>by omega,Ex.refl _⟩
  case round=>
   obtain ⟨j,hj,rfl,hno,hex⟩:=hrel
   by_cases hlt:j<xs.length
   ·obtain ⟨x,b,off,hxx,rfl,_,c0,_⟩:=au1 hx hex.same hlt
    have hlt2:j<ys.length:=by rw [← HE.out];exact hlt
    obtain ⟨y,b2,off2,hyy,rfl,_,c1,_⟩:=au1 hy hex.same hlt2
    have i1:(j:Int)<xs.length:=by omega
    have i2:(j:Int)<ys.length:=by omega
    cases he:seq x y with
    | true=>
     have Hi:=Lib.hid (fun i x' y' (hi:i<j+1) (hx':xs[i]?=some x') (hy':ys[i]?=some y')=>show seq x' y'=true from by
      rcases Nat.lt_or_ge i j with h|h
      ·exact hno.out i x' y' h hx' hy'
      ·obtain rfl:i=j:=by omega
       rw [hxx.out] at hx';rw [hyy.out] at hy';cases hx';cases hy';exact he)
     have e1:(x.toList == y.toList)=true:=he
     clear hno he
     go_wp2
     go_quiet (fail)
     go_wp2
     go_roundw
     case rel=>exact ⟨j+1,by omega,by go_num,Hi,cl0⟩
     case measure=>simp [intOf];omega
    | false=>
     have HR:=Lib.hid (aX6 hxx.out hyy.out he)
     have e1:(x.toList == y.toList)=false:=he
     clear hno he
     go_wp2
     go_quiet (fail)
     go_wp2
     go_ret
     exact ⟨ab2 HR.out.symm,cl0⟩
   ·have HR:=Lib.hid (aN6 HE.out (fun i x y h1 h2=>hno.out i x y (by have:=(List.getElem?_eq_some_iff.1 h1).1;omega) h1 h2))
    clear hno
    go_wp2
    go_ret
    exact ⟨ab2 HR.out.symm,cl0⟩
 ·have HR:=Lib.hid (aN7 (eq:=seq) (xs:=xs) (ys:=ys) (by omega))
  have hlen2:((xs.length:Int) != (ys.length:Int))=true:=by simp;omega
  clear hlen
  go_enter Tryz.func263,Tryz.ntmps263
  go_wp2
  go_ret
  exact ⟨ab2 HR.out.symm,cl0⟩
end
section
open Go.RowKit Go.Shelf
def nos:ByteArray:=⟨#[]⟩
def au7 (f:Fld):Fld:=⟨f.name,if ag7 f.kind then f.of else nos,if ag6 f.kind then f.up else nos,f.kind,if ag8 f.kind then f.lo else 0,if ag3 f.kind then f.hi else 0,if ag2 f.kind then f.words else [],if ag2 f.kind then f.weights else []⟩
theorem co6 (name of up:ByteArray) (lo hi:Int) (wa ga:Option Addr) (nw wc ng gc:Nat) (w:World) :
  Calls Tryz.prog 255 #[.agg #[.string name,.string of,.string up,.int .i64 0,.int .i64 lo,.int .i64 hi,.slice wa nw wc,.slice ga ng gc]] w fun e w'=>e = .returned (.agg #[.string name,.string nos,.string nos,.int .i64 0,.int .i64 lo,.int .i64 0,.slice none 0 0,.slice none 0 0])∧Ex w w':=by
 go_enter Tryz.func255,Tryz.ntmps255
 go_wp2
 all_goals exact bodyPost_ret (v:=.agg #[.string name,.string nos,.string nos,.int .i64 0,.int .i64 lo,.int .i64 0,.slice none 0 0,.slice none 0 0]) (by simp [results,Tryz.results255,go_sem,nos]) rfl ⟨rfl,cl0⟩
theorem co5 (name of up:ByteArray) (lo hi:Int) (wa ga:Option Addr) (nw wc ng gc:Nat) (w:World) :
  Calls Tryz.prog 255 #[.agg #[.string name,.string of,.string up,.int .i64 1,.int .i64 lo,.int .i64 hi,.slice wa nw wc,.slice ga ng gc]] w fun e w'=>e = .returned (.agg #[.string name,.string of,.string nos,.int .i64 1,.int .i64 lo,.int .i64 hi,.slice none 0 0,.slice none 0 0])∧Ex w w':=by
 go_enter Tryz.func255,Tryz.ntmps255
 go_wp2
 go_region
 all_goals go_wp2
 all_goals exact bodyPost_ret (v:=.agg #[.string name,.string of,.string nos,.int .i64 1,.int .i64 lo,.int .i64 hi,.slice none 0 0,.slice none 0 0]) (by simp [results,Tryz.results255,go_sem,nos]) rfl ⟨rfl,cl0⟩
theorem co4 (name of up:ByteArray) (lo hi:Int) (wa ga:Option Addr) (nw wc ng gc:Nat) (w:World) :
  Calls Tryz.prog 255 #[.agg #[.string name,.string of,.string up,.int .i64 2,.int .i64 lo,.int .i64 hi,.slice wa nw wc,.slice ga ng gc]] w fun e w'=>e = .returned (.agg #[.string name,.string nos,.string nos,.int .i64 2,.int .i64 lo,.int .i64 hi,.slice none 0 0,.slice none 0 0])∧Ex w w':=by
 go_enter Tryz.func255,Tryz.ntmps255
 go_wp2
 go_region
 all_goals go_wp2
 all_goals exact bodyPost_ret (v:=.agg #[.string name,.string nos,.string nos,.int .i64 2,.int .i64 lo,.int .i64 hi,.slice none 0 0,.slice none 0 0]) (by simp [results,Tryz.results255,go_sem,nos]) rfl ⟨rfl,cl0⟩
theorem co3 (name of up:ByteArray) (lo hi:Int) (wa ga:Option Addr) (nw wc ng gc:Nat) (w:World) :
  Calls Tryz.prog 255 #[.agg #[.string name,.string of,.string up,.int .i64 3,.int .i64 lo,.int .i64 hi,.slice wa nw wc,.slice ga ng gc]] w fun e w'=>e = .returned (.agg #[.string name,.string nos,.string nos,.int .i64 3,.int .i64 0,.int .i64 0,.slice wa nw wc,.slice ga ng gc])∧Ex w w':=by
 go_enter Tryz.func255,Tryz.ntmps255
 go_wp2
 go_region
 all_goals go_wp2
 all_goals exact bodyPost_ret (v:=.agg #[.string name,.string nos,.string nos,.int .i64 3,.int .i64 0,.int .i64 0,.slice wa nw wc,.slice ga ng gc]) (by simp [results,Tryz.results255,go_sem,nos]) rfl ⟨rfl,cl0⟩
theorem co2 (name of up:ByteArray) (lo hi:Int) (wa ga:Option Addr) (nw wc ng gc:Nat) (w:World) :
  Calls Tryz.prog 255 #[.agg #[.string name,.string of,.string up,.int .i64 4,.int .i64 lo,.int .i64 hi,.slice wa nw wc,.slice ga ng gc]] w fun e w'=>e = .returned (.agg #[.string name,.string of,.string nos,.int .i64 4,.int .i64 lo,.int .i64 hi,.slice none 0 0,.slice none 0 0])∧Ex w w':=by
 go_enter Tryz.func255,Tryz.ntmps255
 go_wp2
 go_region
 all_goals go_wp2
 all_goals exact bodyPost_ret (v:=.agg #[.string name,.string of,.string nos,.int .i64 4,.int .i64 lo,.int .i64 hi,.slice none 0 0,.slice none 0 0]) (by simp [results,Tryz.results255,go_sem,nos]) rfl ⟨rfl,cl0⟩
theorem co1 (name of up:ByteArray) (lo hi:Int) (wa ga:Option Addr) (nw wc ng gc:Nat) (w:World) :
  Calls Tryz.prog 255 #[.agg #[.string name,.string of,.string up,.int .i64 5,.int .i64 lo,.int .i64 hi,.slice wa nw wc,.slice ga ng gc]] w fun e w'=>e = .returned (.agg #[.string name,.string of,.string nos,.int .i64 5,.int .i64 lo,.int .i64 hi,.slice none 0 0,.slice none 0 0])∧Ex w w':=by
 go_enter Tryz.func255,Tryz.ntmps255
 go_wp2
 go_region
 all_goals go_wp2
 all_goals exact bodyPost_ret (v:=.agg #[.string name,.string of,.string nos,.int .i64 5,.int .i64 lo,.int .i64 hi,.slice none 0 0,.slice none 0 0]) (by simp [results,Tryz.results255,go_sem,nos]) rfl ⟨rfl,cl0⟩
theorem co0 (name of up:ByteArray) (lo hi:Int) (wa ga:Option Addr) (nw wc ng gc:Nat) (w:World) :
  Calls Tryz.prog 255 #[.agg #[.string name,.string of,.string up,.int .i64 6,.int .i64 lo,.int .i64 hi,.slice wa nw wc,.slice ga ng gc]] w fun e w'=>e = .returned (.agg #[.string name,.string of,.string nos,.int .i64 6,.int .i64 0,.int .i64 0,.slice none 0 0,.slice none 0 0])∧Ex w w':=by
 go_enter Tryz.func255,Tryz.ntmps255
 go_wp2
 all_goals exact bodyPost_ret (v:=.agg #[.string name,.string of,.string nos,.int .i64 6,.int .i64 0,.int .i64 0,.slice none 0 0,.slice none 0 0]) (by simp [results,Tryz.results255,go_sem,nos]) rfl ⟨rfl,cl0⟩
theorem cn9 (name of up:ByteArray) (lo hi:Int) (wa ga:Option Addr) (nw wc ng gc:Nat) (w:World) :
  Calls Tryz.prog 255 #[.agg #[.string name,.string of,.string up,.int .i64 7,.int .i64 lo,.int .i64 hi,.slice wa nw wc,.slice ga ng gc]] w fun e w'=>e = .returned (.agg #[.string name,.string of,.string up,.int .i64 7,.int .i64 lo,.int .i64 hi,.slice none 0 0,.slice none 0 0])∧Ex w w':=by
 go_enter Tryz.func255,Tryz.ntmps255
 go_wp2
 go_region
 all_goals go_wp2
 all_goals exact bodyPost_ret (v:=.agg #[.string name,.string of,.string up,.int .i64 7,.int .i64 lo,.int .i64 hi,.slice none 0 0,.slice none 0 0]) (by simp [results,Tryz.results255,go_sem,nos]) rfl ⟨rfl,cl0⟩
theorem cn8 (name of up:ByteArray) (lo hi:Int) (wa ga:Option Addr) (nw wc ng gc:Nat) (w:World) :
  Calls Tryz.prog 255 #[.agg #[.string name,.string of,.string up,.int .i64 8,.int .i64 lo,.int .i64 hi,.slice wa nw wc,.slice ga ng gc]] w fun e w'=>e = .returned (.agg #[.string name,.string of,.string up,.int .i64 8,.int .i64 0,.int .i64 0,.slice none 0 0,.slice none 0 0])∧Ex w w':=by
 go_enter Tryz.func255,Tryz.ntmps255
 go_wp2
 go_region
 all_goals go_wp2
 all_goals exact bodyPost_ret (v:=.agg #[.string name,.string of,.string up,.int .i64 8,.int .i64 0,.int .i64 0,.slice none 0 0,.slice none 0 0]) (by simp [results,Tryz.results255,go_sem,nos]) rfl ⟨rfl,cl0⟩
theorem cb9 (name of up:ByteArray) (k:Int) (h0:(k == 0)=false) (h1:(k == 1)=false) (h2:(k == 2)=false) (h3:(k == 3)=false) (h4:(k == 4)=false) (h5:(k == 5)=false) (h6:(k == 6)=false) (h7:(k == 7)=false) (h8:(k == 8)=false) (lo hi:Int) (wa ga:Option Addr) (nw wc ng gc:Nat) (w:World) :
  Calls Tryz.prog 255 #[.agg #[.string name,.string of,.string up,.int .i64 k,.int .i64 lo,.int .i64 hi,.slice wa nw wc,.slice ga ng gc]] w fun e w'=>e = .returned (.agg #[.string name,.string nos,.string nos,.int .i64 k,.int .i64 0,.int .i64 0,.slice none 0 0,.slice none 0 0])∧Ex w w':=by
 go_enter Tryz.func255,Tryz.ntmps255
 go_wp2
 all_goals exact bodyPost_ret (v:=.agg #[.string name,.string nos,.string nos,.int .i64 k,.int .i64 0,.int .i64 0,.slice none 0 0,.slice none 0 0]) (by simp [results,Tryz.results255,go_sem,nos]) rfl ⟨rfl,cl0⟩
def aG8 (f g:Fld):Bool:=seq f.name g.name && (seq f.of g.of && (seq f.up g.up && (f.kind == g.kind && (f.lo == g.lo && (f.hi == g.hi && (au0 seq f.words g.words && au0 ieq f.weights g.weights))))))
theorem bK2 (f g:Fld) (w:World) {F G:Nat→Prop} {wa ga wa' ga':Option Addr} {wc gc wc' gc':Nat} (hw:aw8 w F f.words wa wc) (hg:RInts w F f.weights ga gc) (hw':aw8 w G g.words wa' wc') (hg':RInts w G g.weights ga' gc')
  (l1:f.words.length≤1000000) (l2:f.weights.length≤1000000) (l3:g.words.length≤1000000) (l4:g.weights.length≤1000000) :
  Calls Tryz.prog 254 #[.agg #[.string f.name,.string f.of,.string f.up,.int .i64 f.kind,.int .i64 f.lo,.int .i64 f.hi,.slice wa f.words.length wc,.slice ga f.weights.length gc],
   .agg #[.string g.name,.string g.of,.string g.up,.int .i64 g.kind,.int .i64 g.lo,.int .i64 g.hi,.slice wa' g.words.length wc',.slice ga' g.weights.length gc']] w fun e w'=>e = .returned (.bool (aG8 f g))∧Ex w w':=by
 have HS:=Lib.hid (fun (w':World) (he:Ex w w')=>bE9 (hw.keep (w':=w') he.same (fun _ h=>h) (fun _ _ _ h=>h)) (hw'.keep (w':=w') he.same (fun _ h=>h) (fun _ _ _ h=>h)) (by omega) (by omega))
 have HI:=Lib.hid (fun (w':World) (he:Ex w w')=>bF0 (hg.keep (w':=w') he.same (fun _ h=>h) (fun _ _ _ h=>h)) (hg'.keep (w':=w') he.same (fun _ h=>h) (fun _ _ _ h=>h)) (by omega) (by omega))
 clear hw hg hw' hg' l1 l2 l3 l4
 obtain ⟨n1,o1,u1,k1,lo1,hi1,ws1,gs1⟩:=f
 obtain ⟨n2,o2,u2,k2,lo2,hi2,ws2,gs2⟩:=g
 simp only at *
 cases h1:(n1.toList == n2.toList)
 ·go_enter Tryz.func254,Tryz.ntmps254;go_wp2_with (first|(go_at_call 263;refine (HS.out _ cl0).mono ?_;rintro e w1 ⟨rfl,hb1⟩;(have hq7:=ru7;(try clear hc hf);obtain ⟨hb,hc,hf,hz⟩:=hq7;(try simp only [zsz7] at hz);(try have hz0:=z07 w w1);(try have hz1:=z17 w w1);(try have hz2:=z27 w w1)))|(go_at_call 47;refine (HI.out _ cl0).mono ?_;rintro e w1 ⟨rfl,hb1⟩;(have hq7:=ru7;(try clear hc hf);obtain ⟨hb,hc,hf,hz⟩:=hq7;(try simp only [zsz7] at hz);(try have hz0:=z07 w w1);(try have hz1:=z17 w w1);(try have hz2:=z27 w w1))));go_ret
  exact ⟨ab2 (by simp only [aG8,seq,h1,Bool.false_and]),cl0⟩
 cases h2:(o1.toList == o2.toList)
 ·go_enter Tryz.func254,Tryz.ntmps254;go_wp2_with (first|(go_at_call 263;refine (HS.out _ cl0).mono ?_;rintro e w1 ⟨rfl,hb1⟩;(have hq7:=ru7;(try clear hc hf);obtain ⟨hb,hc,hf,hz⟩:=hq7;(try simp only [zsz7] at hz);(try have hz0:=z07 w w1);(try have hz1:=z17 w w1);(try have hz2:=z27 w w1)))|(go_at_call 47;refine (HI.out _ cl0).mono ?_;rintro e w1 ⟨rfl,hb1⟩;(have hq7:=ru7;(try clear hc hf);obtain ⟨hb,hc,hf,hz⟩:=hq7;(try simp only [zsz7] at hz);(try have hz0:=z07 w w1);(try have hz1:=z17 w w1);(try have hz2:=z27 w w1))));go_ret
  exact ⟨ab2 (by simp only [aG8,seq,h1,h2,Bool.false_and,Bool.true_and]),cl0⟩
 cases h3:(u1.toList == u2.toList)
 ·go_enter Tryz.func254,Tryz.ntmps254;go_wp2_with (first|(go_at_call 263;refine (HS.out _ cl0).mono ?_;rintro e w1 ⟨rfl,hb1⟩;(have hq7:=ru7;(try clear hc hf);obtain ⟨hb,hc,hf,hz⟩:=hq7;(try simp only [zsz7] at hz);(try have hz0:=z07 w w1);(try have hz1:=z17 w w1);(try have hz2:=z27 w w1)))|(go_at_call 47;refine (HI.out _ cl0).mono ?_;rintro e w1 ⟨rfl,hb1⟩;(have hq7:=ru7;(try clear hc hf);obtain ⟨hb,hc,hf,hz⟩:=hq7;(try simp only [zsz7] at hz);(try have hz0:=z07 w w1);(try have hz1:=z17 w w1);(try have hz2:=z27 w w1))));go_ret
  exact ⟨ab2 (by simp only [aG8,seq,h1,h2,h3,Bool.false_and,Bool.true_and]),cl0⟩
 cases h4:(k1 == k2)
 ·go_enter Tryz.func254,Tryz.ntmps254;go_wp2_with (first|(go_at_call 263;refine (HS.out _ cl0).mono ?_;rintro e w1 ⟨rfl,hb1⟩;(have hq7:=ru7;(try clear hc hf);obtain ⟨hb,hc,hf,hz⟩:=hq7;(try simp only [zsz7] at hz);(try have hz0:=z07 w w1);(try have hz1:=z17 w w1);(try have hz2:=z27 w w1)))|(go_at_call 47;refine (HI.out _ cl0).mono ?_;rintro e w1 ⟨rfl,hb1⟩;(have hq7:=ru7;(try clear hc hf);obtain ⟨hb,hc,hf,hz⟩:=hq7;(try simp only [zsz7] at hz);(try have hz0:=z07 w w1);(try have hz1:=z17 w w1);(try have hz2:=z27 w w1))));go_ret
  exact ⟨ab2 (by simp only [aG8,seq,h1,h2,h3,h4,Bool.false_and,Bool.true_and]),cl0⟩
 cases h5:(lo1 == lo2)
 ·go_enter Tryz.func254,Tryz.ntmps254;go_wp2_with (first|(go_at_call 263;refine (HS.out _ cl0).mono ?_;rintro e w1 ⟨rfl,hb1⟩;(have hq7:=ru7;(try clear hc hf);obtain ⟨hb,hc,hf,hz⟩:=hq7;(try simp only [zsz7] at hz);(try have hz0:=z07 w w1);(try have hz1:=z17 w w1);(try have hz2:=z27 w w1)))|(go_at_call 47;refine (HI.out _ cl0).mono ?_;rintro e w1 ⟨rfl,hb1⟩;(have hq7:=ru7;(try clear hc hf);obtain ⟨hb,hc,hf,hz⟩:=hq7;(try simp only [zsz7] at hz);(try have hz0:=z07 w w1);(try have hz1:=z17 w w1);(try have hz2:=z27 w w1))));go_ret
  exact ⟨ab2 (by simp only [aG8,seq,h1,h2,h3,h4,h5,Bool.false_and,Bool.true_and]),cl0⟩
 cases h6:(hi1 == hi2)
 ·go_enter Tryz.func254,Tryz.ntmps254;go_wp2_with (first|(go_at_call 263;refine (HS.out _ cl0).mono ?_;rintro e w1 ⟨rfl,hb1⟩;(have hq7:=ru7;(try clear hc hf);obtain ⟨hb,hc,hf,hz⟩:=hq7;(try simp only [zsz7] at hz);(try have hz0:=z07 w w1);(try have hz1:=z17 w w1);(try have hz2:=z27 w w1)))|(go_at_call 47;refine (HI.out _ cl0).mono ?_;rintro e w1 ⟨rfl,hb1⟩;(have hq7:=ru7;(try clear hc hf);obtain ⟨hb,hc,hf,hz⟩:=hq7;(try simp only [zsz7] at hz);(try have hz0:=z07 w w1);(try have hz1:=z17 w w1);(try have hz2:=z27 w w1))));go_ret
  exact ⟨ab2 (by simp only [aG8,seq,h1,h2,h3,h4,h5,h6,Bool.false_and,Bool.true_and]),cl0⟩
 cases h7:au0 seq ws1 ws2
 ·go_enter Tryz.func254,Tryz.ntmps254;go_wp2_with (first|(go_at_call 263;refine (HS.out _ cl0).mono ?_;rintro e w1 ⟨rfl,hb1⟩;(have hq7:=ru7;(try clear hc hf);obtain ⟨hb,hc,hf,hz⟩:=hq7;(try simp only [zsz7] at hz);(try have hz0:=z07 w w1);(try have hz1:=z17 w w1);(try have hz2:=z27 w w1)))|(go_at_call 47;refine (HI.out _ cl0).mono ?_;rintro e w1 ⟨rfl,hb1⟩;(have hq7:=ru7;(try clear hc hf);obtain ⟨hb,hc,hf,hz⟩:=hq7;(try simp only [zsz7] at hz);(try have hz0:=z07 w w1);(try have hz1:=z17 w w1);(try have hz2:=z27 w w1))));go_ret
  exact ⟨ab2 (by simp only [aG8,h7,Bool.false_and,Bool.and_false]),cl0⟩
 ·have HR:Hid (aG8 ⟨n1,o1,u1,k1,lo1,hi1,ws1,gs1⟩ ⟨n2,o2,u2,k2,lo2,hi2,ws2,gs2⟩=au0 ieq gs1 gs2):=Lib.hid (by simp only [aG8,seq,h1,h2,h3,h4,h5,h6,Bool.true_and];simp only [show au0 (fun a b:ByteArray=>a.toList == b.toList) ws1 ws2=true from h7,show au0 seq ws1 ws2=true from h7,Bool.true_and])
  go_enter Tryz.func254,Tryz.ntmps254;go_wp2_with (first|(go_at_call 263;refine (HS.out _ cl0).mono ?_;rintro e w1 ⟨rfl,hb1⟩;(have hq7:=ru7;(try clear hc hf);obtain ⟨hb,hc,hf,hz⟩:=hq7;(try simp only [zsz7] at hz);(try have hz0:=z07 w w1);(try have hz1:=z17 w w1);(try have hz2:=z27 w w1)))|(go_at_call 47;refine (HI.out _ cl0).mono ?_;rintro e w1 ⟨rfl,hb1⟩;(have hq7:=ru7;(try clear hc hf);obtain ⟨hb,hc,hf,hz⟩:=hq7;(try simp only [zsz7] at hz);(try have hz0:=z07 w w1);(try have hz1:=z17 w w1);(try have hz2:=z27 w w1))));go_ret
  exact ⟨ab2 HR.out.symm,cl0⟩
end
section
open Go.RowKit Go.Shelf
theorem bM3 (f:Fld) (w:World) {F:Nat→Prop} {wa ga:Option Addr} {wc gc:Nat} (hw:aw8 w F f.words wa wc) (hg:RInts w F f.weights ga gc) :
  Calls Tryz.prog 255 #[.agg #[.string f.name,.string f.of,.string f.up,.int .i64 f.kind,.int .i64 f.lo,.int .i64 f.hi,.slice wa f.words.length wc,.slice ga f.weights.length gc]] w
   fun e w'=>∃ wa' wc' ga' gc',e = .returned (.agg #[.string (au7 f).name,.string (au7 f).of,.string (au7 f).up,.int .i64 (au7 f).kind,.int .i64 (au7 f).lo,.int .i64 (au7 f).hi,.slice wa' (au7 f).words.length wc',.slice ga' (au7 f).weights.length gc']) ∧
    aw8 w' F (au7 f).words wa' wc'∧RInts w' F (au7 f).weights ga' gc'∧Ex w w':=by
 obtain ⟨n,o,u,k,lo,hi,ws,gs⟩:=f
 simp only at *
 by_cases h0:k=0
 ·subst h0;exact (co6 n o u lo hi wa ga _ wc _ gc w).mono fun e w' ⟨h1,h2⟩=>⟨_,_,_,_,h1,Row.nil,Row.nil,h2⟩
 by_cases h1:k=1
 ·subst h1;exact (co5 n o u lo hi wa ga _ wc _ gc w).mono fun e w' ⟨h1,h2⟩=>⟨_,_,_,_,h1,Row.nil,Row.nil,h2⟩
 by_cases h2:k=2
 ·subst h2;exact (co4 n o u lo hi wa ga _ wc _ gc w).mono fun e w' ⟨h1,h2⟩=>⟨_,_,_,_,h1,Row.nil,Row.nil,h2⟩
 by_cases h3:k=3
 ·subst h3;exact (co3 n o u lo hi wa ga _ wc _ gc w).mono fun e w' ⟨h1,h2⟩=>⟨_,_,_,_,h1,hw.keep h2.same (fun _ h=>h) (fun _ _ _ h=>h),hg.keep h2.same (fun _ h=>h) (fun _ _ _ h=>h),h2⟩
 by_cases h4:k=4
 ·subst h4;exact (co2 n o u lo hi wa ga _ wc _ gc w).mono fun e w' ⟨h1,h2⟩=>⟨_,_,_,_,h1,Row.nil,Row.nil,h2⟩
 by_cases h5:k=5
 ·subst h5;exact (co1 n o u lo hi wa ga _ wc _ gc w).mono fun e w' ⟨h1,h2⟩=>⟨_,_,_,_,h1,Row.nil,Row.nil,h2⟩
 by_cases h6:k=6
 ·subst h6;exact (co0 n o u lo hi wa ga _ wc _ gc w).mono fun e w' ⟨h1,h2⟩=>⟨_,_,_,_,h1,Row.nil,Row.nil,h2⟩
 by_cases h7:k=7
 ·subst h7;exact (cn9 n o u lo hi wa ga _ wc _ gc w).mono fun e w' ⟨h1,h2⟩=>⟨_,_,_,_,h1,Row.nil,Row.nil,h2⟩
 by_cases h8:k=8
 ·subst h8;exact (cn8 n o u lo hi wa ga _ wc _ gc w).mono fun e w' ⟨h1,h2⟩=>⟨_,_,_,_,h1,Row.nil,Row.nil,h2⟩
 have H:=cb9 n o u k (by simp [h0]) (by simp [h1]) (by simp [h2]) (by simp [h3]) (by simp [h4]) (by simp [h5]) (by simp [h6]) (by simp [h7]) (by simp [h8]) lo hi wa ga ws.length wc gs.length gc w
 have e1:au7 ⟨n,o,u,k,lo,hi,ws,gs⟩=⟨n,nos,nos,k,0,0,[],[]⟩:=by simp [au7,ag7,ag6,ag8,ag3,ag2, *]
 rw [e1]
 exact H.mono fun e w' ⟨h1,h2⟩=>⟨_,_,_,_,h1,Row.nil,Row.nil,h2⟩
theorem cd7 (a:ByteArray):seq a nos=isE a:=by
 have:seq a nos=decide (a=nos):=by
  rw [Bool.eq_iff_iff,az8];simp
 rw [this,isE,ByteArray.toList_eq]
 obtain ⟨⟨l⟩⟩:=a
 cases l <;> simp [nos]
theorem aE6 {α:Type} {eq:α→α→Bool} (h:∀ a,eq a a=true):∀ l:List α,au0 eq l l=true
 | []=>rfl
 | x :: l=>by simp [au0,h x,aE6 h l]
theorem bG4 {α:Type} {eq:α→α→Bool}:∀ l:List α,au0 eq l []=l.isEmpty
 | []=>rfl
 | _ :: _=>rfl
theorem bx8 (f:Fld):aG8 f (au7 f)=ao1 f:=by
 obtain ⟨n,o,u,k,lo,hi,ws,gs⟩:=f
 have hs:∀ (c:Bool) (x:ByteArray),seq x (if c=true then x else nos)=(c || isE x):=fun c x=>by cases c <;> simp [ar0,cd7]
 have hi':∀ (c:Bool) (x:Int),(x == (if c=true then x else 0))=(c || x == 0):=fun c x=>by cases c <;> simp
 have hl:∀ (c:Bool),(au0 seq ws (if c=true then ws else []) && au0 ieq gs (if c=true then gs else []))=(c || (ws.isEmpty && gs.isEmpty)):=fun c=>by
  cases c <;> simp [aE6 ar0,aE6 (eq:=ieq) (by simp [ieq]),bG4]
 simp only [aG8,au7,ao1,hs,hi',hl,ar0,Bool.true_and,beq_self_eq_true,Bool.and_assoc]
structure aJ1 (n o u:ByteArray) (k lo hi:Int) (nw ng:Nat) (sb:Bool) (w:World) (wa ga:Option Addr) (wc gc:Nat) (fo:Fld) (RW RG:World→Option Addr→Nat→Prop):Prop where
 only:∀ w',Ex w w'→Calls Tryz.prog 255 #[.agg #[.string n,.string o,.string u,.int .i64 k,.int .i64 lo,.int .i64 hi,.slice wa nw wc,.slice ga ng gc]] w'
   fun e w2=>∃ wa1 wc1 ga1 gc1,e = .returned (.agg #[.string fo.name,.string fo.of,.string fo.up,.int .i64 fo.kind,.int .i64 fo.lo,.int .i64 fo.hi,.slice wa1 fo.words.length wc1,.slice ga1 fo.weights.length gc1]) ∧
    Ex w' w2∧Hid (RW w2 wa1 wc1∧RG w2 ga1 gc1)
 same:∀ w' wa1 wc1 ga1 gc1,Ex w w'→RW w' wa1 wc1→RG w' ga1 gc1→Calls Tryz.prog 254 #[.agg #[.string n,.string o,.string u,.int .i64 k,.int .i64 lo,.int .i64 hi,.slice wa nw wc,.slice ga ng gc],
   .agg #[.string fo.name,.string fo.of,.string fo.up,.int .i64 fo.kind,.int .i64 fo.lo,.int .i64 fo.hi,.slice wa1 fo.words.length wc1,.slice ga1 fo.weights.length gc1]] w' fun e w2=>e = .returned (.bool sb)∧Ex w' w2
 keepW:∀ w' w2 a c,Ex w' w2→RW w' a c→RW w2 a c
 keepG:∀ w' w2 a c,Ex w' w2→RG w' a c→RG w2 a c
theorem bP7 (f:Fld) (w:World) {F:Nat→Prop} {wa ga:Option Addr} {wc gc:Nat} (hw:aw8 w F f.words wa wc) (hg:RInts w F f.weights ga gc) (hx:SmF f) :
  aJ1 f.name f.of f.up f.kind f.lo f.hi f.words.length f.weights.length (ao1 f) w wa ga wc gc (au7 f) (fun w' a c=>aw8 w' F (au7 f).words a c) (fun w' a c=>RInts w' F (au7 f).weights a c):=by
 refine ⟨fun w' he=>(bM3 f w' (hw.keep he.same (fun _ h=>h) (fun _ _ _ h=>h)) (hg.keep he.same (fun _ h=>h) (fun _ _ _ h=>h))).mono fun e w2 ⟨a1,a2,a3,a4,h1,h2,h3,h4⟩=>⟨a1,a2,a3,a4,h1,h4,h2,h3⟩,
  fun w' wa1 wc1 ga1 gc1 he h1 h2=>?_,fun w' w2 a c he h=>h.keep he.same (fun _ h=>h) (fun _ _ _ h=>h),fun w' w2 a c he h=>h.keep he.same (fun _ h=>h) (fun _ _ _ h=>h)⟩
 have:=bK2 f (au7 f) w' (hw.keep he.same (fun _ h=>h) (fun _ _ _ h=>h)) (hg.keep he.same (fun _ h=>h) (fun _ _ _ h=>h)) (wa':=wa1) (wc':=wc1) (ga':=ga1) (gc':=gc1) (G:=F) h1 h2 hx.nwords hx.nweights
  (by have:=hx.nwords;unfold au7;simp only;split <;> simp_all) (by have:=hx.nweights;unfold au7;simp only;split <;> simp_all)
 rw [bx8] at this
 exact this
theorem bD8 (k:Int) (n o u:ByteArray) (lo hi:Int) (nw ng:Nat) (w:World) (wa ga:Option Addr) (cw cg:Nat) (fo:Fld) (RW RG:World→Option Addr→Nat→Prop) (hr1:n.size≤9223372036854775807) (hr2:o.size≤9223372036854775807) (hr3:u.size≤9223372036854775807) (sb:Bool) (HA:aJ1 n o u k lo hi nw ng sb w wa ga cw cg fo RW RG) (h1:isNm n=false) :
  Calls Tryz.prog 228 #[.agg #[.string n,.string o,.string u,.int .i64 k,.int .i64 lo,.int .i64 hi,.slice wa nw cw,.slice ga ng cg]] w fun e w'=>e = .returned (.bool false)∧Ex w w':=by
 go_enter Tryz.func228,Tryz.ntmps228
 go_wp2
 go_region_with (first|(go_at_call 225;refine (ab8 _ _ (by first|exact hr1|exact hr2|exact hr3)).mono ?_;rintro e w1 ⟨rfl,hb1⟩;(have hq7:=ru7;(try clear hc hf);obtain ⟨hb,hc,hf,hz⟩:=hq7;(try simp only [zsz7] at hz);(try have hz0:=z07 w w1);(try have hz1:=z17 w w1);(try have hz2:=z27 w w1)))|(go_at_call 255;refine (HA.only _ cl0).mono ?_;rintro e w1 ⟨wa1,wc1,ga1,gc1,rfl,hb1,hw1⟩;(have hq7:=ru7;(try clear hc hf);obtain ⟨hb,hc,hf,hz⟩:=hq7;(try simp only [zsz7] at hz);(try have hz0:=z07 w w1);(try have hz1:=z17 w w1);(try have hz2:=z27 w w1)))|(go_at_call 254;refine (HA.same _ _ _ _ _ cl0 hw1.out.1 hw1.out.2).mono ?_;rintro e w1 ⟨rfl,hb1⟩;(have hq7:=ru7;(try clear hc hf);obtain ⟨hb,hc,hf,hz⟩:=hq7;(try simp only [zsz7] at hz);(try have hz0:=z07 w w1);(try have hz1:=z17 w w1);(try have hz2:=z27 w w1))))
 all_goals go_wp2
 all_goals go_ret
 all_goals exact ⟨rfl,cl0⟩
theorem bD7 (k:Int) (n o u:ByteArray) (lo hi:Int) (nw ng:Nat) (w:World) (wa ga:Option Addr) (cw cg:Nat) (fo:Fld) (RW RG:World→Option Addr→Nat→Prop) (hr1:n.size≤9223372036854775807) (hr2:o.size≤9223372036854775807) (hr3:u.size≤9223372036854775807) (HA:aJ1 n o u k lo hi nw ng false w wa ga cw cg fo RW RG) (h1:isNm n=true) :
  Calls Tryz.prog 228 #[.agg #[.string n,.string o,.string u,.int .i64 k,.int .i64 lo,.int .i64 hi,.slice wa nw cw,.slice ga ng cg]] w fun e w'=>e = .returned (.bool false)∧Ex w w':=by
 go_enter Tryz.func228,Tryz.ntmps228
 go_wp2
 go_region_with (first|(go_at_call 225;refine (ab8 _ _ (by first|exact hr1|exact hr2|exact hr3)).mono ?_;rintro e w1 ⟨rfl,hb1⟩;(have hq7:=ru7;(try clear hc hf);obtain ⟨hb,hc,hf,hz⟩:=hq7;(try simp only [zsz7] at hz);(try have hz0:=z07 w w1);(try have hz1:=z17 w w1);(try have hz2:=z27 w w1)))|(go_at_call 255;refine (HA.only _ cl0).mono ?_;rintro e w1 ⟨wa1,wc1,ga1,gc1,rfl,hb1,hw1⟩;(have hq7:=ru7;(try clear hc hf);obtain ⟨hb,hc,hf,hz⟩:=hq7;(try simp only [zsz7] at hz);(try have hz0:=z07 w w1);(try have hz1:=z17 w w1);(try have hz2:=z27 w w1)))|(go_at_call 254;refine (HA.same _ _ _ _ _ cl0 hw1.out.1 hw1.out.2).mono ?_;rintro e w1 ⟨rfl,hb1⟩;(have hq7:=ru7;(try clear hc hf);obtain ⟨hb,hc,hf,hz⟩:=hq7;(try simp only [zsz7] at hz);(try have hz0:=z07 w w1);(try have hz1:=z17 w w1);(try have hz2:=z27 w w1))))
 all_goals go_wp2
 all_goals go_ret
 all_goals exact ⟨rfl,cl0⟩
end
section
open Go.RowKit Go.Shelf
def aC1 (k:Int) (o u:ByteArray) (lo hi:Int) (pk:Bool):Bool:=
   if k=0 then aa7 lo (-1048576) 1048576
   else if k=1 then isNm o && an9 lo hi 0 65536
   else if k=2 then an9 lo hi (-1048576) 1048576
   else if k=3 then pk
   else if k=4 then (isE o || isNm o) && an9 lo hi (-1048576) 1048576
   else if k=5 then isNm o && an9 lo hi 0 32
   else if k=6 then isNm o
   else if k=7 then isNm o && isNm u && an9 lo hi 0 1048576
   else if k=8 then isNm o && isNm u
   else false
theorem bD6 (k:Int) (n o u:ByteArray) (lo hi:Int) (nw ng:Nat) (w:World) (wa ga:Option Addr) (cw cg:Nat) (fo:Fld) (RW RG:World→Option Addr→Nat→Prop) (hr1:n.size≤9223372036854775807) (hr2:o.size≤9223372036854775807) (hr3:u.size≤9223372036854775807) (pk:Bool) (HP:Hid (∀ w',Ex w w'→Calls Tryz.prog 256 #[.slice wa nw cw,.slice ga ng cg] w' fun e w2=>e = .returned (.bool pk)∧Ex w' w2))
  (HA:aJ1 n o u k lo hi nw ng true w wa ga cw cg fo RW RG) (h1:isNm n=true) :
  Calls Tryz.prog 228 #[.agg #[.string n,.string o,.string u,.int .i64 k,.int .i64 lo,.int .i64 hi,.slice wa nw cw,.slice ga ng cg]] w fun e w'=>e = .returned (.bool (aC1 k o u lo hi pk))∧Ex w w':=by
 go_enter Tryz.func228,Tryz.ntmps228
 go_upto_region 1 with fail
 go_cut [13] (fun s13 wx=>s13 = .bool false∧Ex (w.alloc (.cells #[.string n,.string o,.string u,.int .i64 k,.int .i64 lo,.int .i64 hi,.slice wa nw cw,.slice ga ng cg] 97)) wx)
 case first=>
  go_region_with (first|(go_at_call 225;refine (ab8 _ _ (by first|exact hr1|exact hr2|exact hr3)).mono ?_;rintro e w1 ⟨rfl,hb1⟩;(have hq7:=ru7;(try clear hc hf);obtain ⟨hb,hc,hf,hz⟩:=hq7;(try simp only [zsz7] at hz);(try have hz0:=z07 w w1);(try have hz1:=z17 w w1);(try have hz2:=z27 w w1)))|(go_at_call 255;refine (HA.only _ cl0).mono ?_;rintro e w1 ⟨wa1,wc1,ga1,gc1,rfl,hb1,hw1⟩;(have hq7:=ru7;(try clear hc hf);obtain ⟨hb,hc,hf,hz⟩:=hq7;(try simp only [zsz7] at hz);(try have hz0:=z07 w w1);(try have hz1:=z17 w w1);(try have hz2:=z27 w w1)))|(go_at_call 254;refine (HA.same _ _ _ _ _ cl0 hw1.out.1 hw1.out.2).mono ?_;rintro e w1 ⟨rfl,hb1⟩;(have hq7:=ru7;(try clear hc hf);obtain ⟨hb,hc,hf,hz⟩:=hq7;(try simp only [zsz7] at hz);(try have hz0:=z07 w w1);(try have hz1:=z17 w w1);(try have hz2:=z27 w w1))))
  all_goals (go_wp2_with fail;go_meet;exact ⟨rfl,cl0⟩)
 case rest=>
  obtain ⟨rfl,hb⟩:=hcut
  obtain ⟨hc,hf⟩:=hb.rules
  have hz:=hb.size
  simp only [World.size_alloc] at hz
  have hz0:w.heap.size<wc.heap.size:=by omega
  by_cases q0:k=0
  ·subst q0
   go_wp2_with (first|(go_at_call 225;refine (ab8 _ _ (by first|exact hr1|exact hr2|exact hr3)).mono ?_;rintro e w1 ⟨rfl,hb1⟩;(have hq7:=ru7;(try clear hc hf);obtain ⟨hb,hc,hf,hz⟩:=hq7;(try simp only [zsz7] at hz);(try have hz0:=z07 w w1);(try have hz1:=z17 w w1);(try have hz2:=z27 w w1)))|(go_at_call 189;refine (ab6 _ _ _ _).mono ?_;rintro e w2 ⟨rfl,rfl⟩)|(go_at_call 226;refine (ai1 _ _ _ _ _).mono ?_;rintro e w2 ⟨rfl,rfl⟩));go_ret;exact ⟨ab2 (by simp [aC1]),cl0⟩
  by_cases q1:k=1
  ·subst q1
   cases h2:isNm o
   all_goals (go_wp2_with (first|(go_at_call 225;refine (ab8 _ _ (by first|exact hr1|exact hr2|exact hr3)).mono ?_;rintro e w1 ⟨rfl,hb1⟩;(have hq7:=ru7;(try clear hc hf);obtain ⟨hb,hc,hf,hz⟩:=hq7;(try simp only [zsz7] at hz);(try have hz0:=z07 w w1);(try have hz1:=z17 w w1);(try have hz2:=z27 w w1)))|(go_at_call 189;refine (ab6 _ _ _ _).mono ?_;rintro e w2 ⟨rfl,rfl⟩)|(go_at_call 226;refine (ai1 _ _ _ _ _).mono ?_;rintro e w2 ⟨rfl,rfl⟩));go_ret;exact ⟨ab2 (by simp [aC1,h2]),cl0⟩)
  by_cases q2:k=2
  ·subst q2
   go_wp2_with (first|(go_at_call 225;refine (ab8 _ _ (by first|exact hr1|exact hr2|exact hr3)).mono ?_;rintro e w1 ⟨rfl,hb1⟩;(have hq7:=ru7;(try clear hc hf);obtain ⟨hb,hc,hf,hz⟩:=hq7;(try simp only [zsz7] at hz);(try have hz0:=z07 w w1);(try have hz1:=z17 w w1);(try have hz2:=z27 w w1)))|(go_at_call 189;refine (ab6 _ _ _ _).mono ?_;rintro e w2 ⟨rfl,rfl⟩)|(go_at_call 226;refine (ai1 _ _ _ _ _).mono ?_;rintro e w2 ⟨rfl,rfl⟩));go_ret;exact ⟨ab2 (by simp [aC1]),cl0⟩
  by_cases q3:k=3
  ·subst q3
   go_wp2_with (first|(go_at_call 225;refine (ab8 _ _ (by first|exact hr1|exact hr2|exact hr3)).mono ?_;rintro e w1 ⟨rfl,hb1⟩;(have hq7:=ru7;(try clear hc hf);obtain ⟨hb,hc,hf,hz⟩:=hq7;(try simp only [zsz7] at hz);(try have hz0:=z07 w w1);(try have hz1:=z17 w w1);(try have hz2:=z27 w w1)))|(go_at_call 189;refine (ab6 _ _ _ _).mono ?_;rintro e w2 ⟨rfl,rfl⟩)|(go_at_call 226;refine (ai1 _ _ _ _ _).mono ?_;rintro e w2 ⟨rfl,rfl⟩)|(go_at_call 256;refine (HP.out _ cl0).mono ?_;rintro e w1 ⟨rfl,hb1⟩;(have hq7:=ru7;(try clear hc hf);obtain ⟨hb,hc,hf,hz⟩:=hq7;(try simp only [zsz7] at hz);(try have hz0:=z07 w w1);(try have hz1:=z17 w w1);(try have hz2:=z27 w w1))));go_ret;exact ⟨ab2 (by simp [aC1]),cl0⟩
  by_cases q4:k=4
  ·subst q4
   cases h2:o.toList.isEmpty
   ·cases h3:isNm o
    all_goals (go_wp2_with (first|(go_at_call 225;refine (ab8 _ _ (by first|exact hr1|exact hr2|exact hr3)).mono ?_;rintro e w1 ⟨rfl,hb1⟩;(have hq7:=ru7;(try clear hc hf);obtain ⟨hb,hc,hf,hz⟩:=hq7;(try simp only [zsz7] at hz);(try have hz0:=z07 w w1);(try have hz1:=z17 w w1);(try have hz2:=z27 w w1)))|(go_at_call 189;refine (ab6 _ _ _ _).mono ?_;rintro e w2 ⟨rfl,rfl⟩)|(go_at_call 226;refine (ai1 _ _ _ _ _).mono ?_;rintro e w2 ⟨rfl,rfl⟩));go_ret;exact ⟨ab2 (by simp [aC1,isE,h2,h3]),cl0⟩)
   ·go_wp2_with (first|(go_at_call 225;refine (ab8 _ _ (by first|exact hr1|exact hr2|exact hr3)).mono ?_;rintro e w1 ⟨rfl,hb1⟩;(have hq7:=ru7;(try clear hc hf);obtain ⟨hb,hc,hf,hz⟩:=hq7;(try simp only [zsz7] at hz);(try have hz0:=z07 w w1);(try have hz1:=z17 w w1);(try have hz2:=z27 w w1)))|(go_at_call 189;refine (ab6 _ _ _ _).mono ?_;rintro e w2 ⟨rfl,rfl⟩)|(go_at_call 226;refine (ai1 _ _ _ _ _).mono ?_;rintro e w2 ⟨rfl,rfl⟩));go_ret;exact ⟨ab2 (by simp [aC1,isE,h2]),cl0⟩
  by_cases q5:k=5
  ·subst q5
   cases h2:isNm o
   all_goals (go_wp2_with (first|(go_at_call 225;refine (ab8 _ _ (by first|exact hr1|exact hr2|exact hr3)).mono ?_;rintro e w1 ⟨rfl,hb1⟩;(have hq7:=ru7;(try clear hc hf);obtain ⟨hb,hc,hf,hz⟩:=hq7;(try simp only [zsz7] at hz);(try have hz0:=z07 w w1);(try have hz1:=z17 w w1);(try have hz2:=z27 w w1)))|(go_at_call 189;refine (ab6 _ _ _ _).mono ?_;rintro e w2 ⟨rfl,rfl⟩)|(go_at_call 226;refine (ai1 _ _ _ _ _).mono ?_;rintro e w2 ⟨rfl,rfl⟩));go_ret;exact ⟨ab2 (by simp [aC1,h2]),cl0⟩)
  by_cases q6:k=6
  ·subst q6
   go_wp2_with (first|(go_at_call 225;refine (ab8 _ _ (by first|exact hr1|exact hr2|exact hr3)).mono ?_;rintro e w1 ⟨rfl,hb1⟩;(have hq7:=ru7;(try clear hc hf);obtain ⟨hb,hc,hf,hz⟩:=hq7;(try simp only [zsz7] at hz);(try have hz0:=z07 w w1);(try have hz1:=z17 w w1);(try have hz2:=z27 w w1)))|(go_at_call 189;refine (ab6 _ _ _ _).mono ?_;rintro e w2 ⟨rfl,rfl⟩)|(go_at_call 226;refine (ai1 _ _ _ _ _).mono ?_;rintro e w2 ⟨rfl,rfl⟩));go_ret;exact ⟨ab2 (by simp [aC1]),cl0⟩
  by_cases q7:k=7
  ·subst q7
   cases h2:isNm o
   ·go_wp2_with (first|(go_at_call 225;refine (ab8 _ _ (by first|exact hr1|exact hr2|exact hr3)).mono ?_;rintro e w1 ⟨rfl,hb1⟩;(have hq7:=ru7;(try clear hc hf);obtain ⟨hb,hc,hf,hz⟩:=hq7;(try simp only [zsz7] at hz);(try have hz0:=z07 w w1);(try have hz1:=z17 w w1);(try have hz2:=z27 w w1)))|(go_at_call 189;refine (ab6 _ _ _ _).mono ?_;rintro e w2 ⟨rfl,rfl⟩)|(go_at_call 226;refine (ai1 _ _ _ _ _).mono ?_;rintro e w2 ⟨rfl,rfl⟩));go_ret;exact ⟨ab2 (by simp [aC1,h2]),cl0⟩
   ·cases h3:isNm u
    all_goals (go_wp2_with (first|(go_at_call 225;refine (ab8 _ _ (by first|exact hr1|exact hr2|exact hr3)).mono ?_;rintro e w1 ⟨rfl,hb1⟩;(have hq7:=ru7;(try clear hc hf);obtain ⟨hb,hc,hf,hz⟩:=hq7;(try simp only [zsz7] at hz);(try have hz0:=z07 w w1);(try have hz1:=z17 w w1);(try have hz2:=z27 w w1)))|(go_at_call 189;refine (ab6 _ _ _ _).mono ?_;rintro e w2 ⟨rfl,rfl⟩)|(go_at_call 226;refine (ai1 _ _ _ _ _).mono ?_;rintro e w2 ⟨rfl,rfl⟩));go_ret;exact ⟨ab2 (by simp [aC1,h2,h3]),cl0⟩)
  by_cases q8:k=8
  ·subst q8
   cases h2:isNm o
   all_goals (go_wp2_with (first|(go_at_call 225;refine (ab8 _ _ (by first|exact hr1|exact hr2|exact hr3)).mono ?_;rintro e w1 ⟨rfl,hb1⟩;(have hq7:=ru7;(try clear hc hf);obtain ⟨hb,hc,hf,hz⟩:=hq7;(try simp only [zsz7] at hz);(try have hz0:=z07 w w1);(try have hz1:=z17 w w1);(try have hz2:=z27 w w1)))|(go_at_call 189;refine (ab6 _ _ _ _).mono ?_;rintro e w2 ⟨rfl,rfl⟩)|(go_at_call 226;refine (ai1 _ _ _ _ _).mono ?_;rintro e w2 ⟨rfl,rfl⟩));go_ret;exact ⟨ab2 (by simp [aC1,h2]),cl0⟩)
  have r0:(k == 0)=false:=by simp [q0]
  have r1:(k == 1)=false:=by simp [q1]
  have r2:(k == 2)=false:=by simp [q2]
  have r3:(k == 3)=false:=by simp [q3]
  have r4:(k == 4)=false:=by simp [q4]
  have r5:(k == 5)=false:=by simp [q5]
  have r6:(k == 6)=false:=by simp [q6]
  have r7:(k == 7)=false:=by simp [q7]
  have r8:(k == 8)=false:=by simp [q8]
  have HR:Hid (¬ k=0∧¬ k=1∧¬ k=2∧¬ k=3∧¬ k=4∧¬ k=5∧¬ k=6∧¬ k=7∧¬ k=8):=⟨q0,q1,q2,q3,q4,q5,q6,q7,q8⟩
  clear q0 q1 q2 q3 q4 q5 q6 q7 q8
  go_wp2_with fail
  go_ret
  obtain ⟨q0,q1,q2,q3,q4,q5,q6,q7,q8⟩:=HR.out
  exact ⟨ab2 (by simp only [aC1,q0,q1,q2,q3,q4,q5,q6,q7,q8,if_false]),cl0⟩
end
section
open Go.RowKit Go.Shelf
theorem bh6 (f:Fld) (w:World) {F:Nat→Prop} {wa ga:Option Addr} {wc gc:Nat} (hw:aw8 w F f.words wa wc) (hg:RInts w F f.weights ga gc) (hx:SmF f) :
  Calls Tryz.prog 228 #[.agg #[.string f.name,.string f.of,.string f.up,.int .i64 f.kind,.int .i64 f.lo,.int .i64 f.hi,.slice wa f.words.length wc,.slice ga f.weights.length gc]] w
   fun e w'=>e = .returned (.bool (ab3 f))∧Ex w w':=by
 have HA:=bP7 f w hw hg hx
 cases h1:isNm f.name with
 | false=>
  have:=bD8 _ _ _ _ _ _ _ _ _ _ _ _ _ _ _ _ hx.name.le hx.of.le hx.up.le _ HA h1
  simpa [ab3,h1] using this
 | true=>
  cases h2:ao1 f with
  | false=>
   rw [h2] at HA
   have:=bD7 _ _ _ _ _ _ _ _ _ _ _ _ _ _ _ _ hx.name.le hx.of.le hx.up.le HA h1
   simpa [ab3,h1,h2] using this
  | true=>
   rw [h2] at HA
   have HP:Hid (∀ w',Ex w w'→Calls Tryz.prog 256 #[.slice wa f.words.length wc,.slice ga f.weights.length gc] w' fun e w2=>e = .returned (.bool (ae7 f.words f.weights))∧Ex w' w2):=
    fun w' he=>bs9 f.words f.weights w' (hw.keep he.same (fun _ h=>h) (fun _ _ _ h=>h)) (hg.keep he.same (fun _ h=>h) (fun _ _ _ h=>h)) (fun s hs=>(hx.words s hs).le) hx.nweights hx.nwords
   have:=bD6 _ _ _ _ _ _ _ _ _ _ _ _ _ _ _ _ hx.name.le hx.of.le hx.up.le _ HP HA h1
   have e:ab3 f=aC1 f.kind f.of f.up f.lo f.hi (ae7 f.words f.weights):=by simp only [ab3,h1,h2,Bool.true_and];rfl
   rw [e];exact this
theorem bc4 (w:World) {F:Nat→Prop} {l:List Fld} (hl:∀ f,f∈l→SmF f):Asks Tryz.prog 228 #[] w ag1 (RFld w F) l ab3:=by
 refine ⟨enters_of Tryz.func228 (by kernel_rfl) rfl,fun f vs W hm hr hW=>?_⟩
 obtain ⟨wa,wc,ga,gc,rfl,_,_,_,h1,h2⟩:=hr
 exact bh6 f W (h1.keep hW.same (fun _ h=>h) (fun _ _ _ h=>h)) (h2.keep hW.same (fun _ h=>h) (fun _ _ _ h=>h)) (hl f hm)
theorem Asks.rel {α:Type} {P:Program} {g:FuncId} {cb:Array Value} {w:World} {arg:List Value→Value} {R R':α→List Value→Prop} {xs:List α} {p:α→Bool} (h:Asks P g cb w arg R xs p) (hR:∀ x vs,R' x vs→R x vs):Asks P g cb w arg R' xs p:=
 ⟨h.enters,fun x vs W hm hr hw=>h.says x vs W hm (hR x vs hr) hw⟩
theorem bt1 (x:Knd) (w:World) {F:Nat→Prop} {fa:Option Addr} {fc:Nat} (hw:RFlds w F x.fields fa fc) (hx:SmK x) :
  Calls Tryz.prog 191 #[.agg #[.string x.name,.int .i64 x.lo,.int .i64 x.hi,.slice fa x.fields.length fc]] w fun e w'=>e = .returned (.bool (aj3 x))∧Ex w w':=by
 have hr1:=hx.name.le
 have hl:=hx.nfields
 have HF:=Lib.hid (fun (w':World) (he:Ex w w')=>ch7 (w0:=w) (F0:=F) (Row.keep (w':=w') hw he.same (fun _ h=>h) (fun _ _ _ h=>h)) (by omega) ((bc4 w hx.fields).mono he))
 clear hx hw
 obtain ⟨name,lo,hi,fs⟩:=x
 simp only at *
 cases h1:isNm name
 ·go_enter Tryz.func191,Tryz.ntmps191;go_wp2_with (first|(go_at_call 225;refine (ab8 _ _ hr1).mono ?_;rintro e w1 ⟨rfl,hb1⟩;(have hq7:=ru7;(try clear hc hf);obtain ⟨hb,hc,hf,hz⟩:=hq7;(try simp only [zsz7] at hz);(try have hz0:=z07 w w1);(try have hz1:=z17 w w1);(try have hz2:=z27 w w1)))|(go_at_call 226;refine (ai1 _ _ _ _ _).mono ?_;rintro e w2 ⟨rfl,rfl⟩)|(go_at_call 227;refine (HF.out _ cl0).mono ?_;rintro e w1 ⟨rfl,hb1⟩;(have hq7:=ru7;(try clear hc hf);obtain ⟨hb,hc,hf,hz⟩:=hq7;(try simp only [zsz7] at hz);(try have hz0:=z07 w w1);(try have hz1:=z17 w w1);(try have hz2:=z27 w w1))));go_ret
  exact ⟨ab2 (by simp [aj3,h1]),cl0⟩
 cases h2:an9 lo hi 0 65536
 ·go_enter Tryz.func191,Tryz.ntmps191;go_wp2_with (first|(go_at_call 225;refine (ab8 _ _ hr1).mono ?_;rintro e w1 ⟨rfl,hb1⟩;(have hq7:=ru7;(try clear hc hf);obtain ⟨hb,hc,hf,hz⟩:=hq7;(try simp only [zsz7] at hz);(try have hz0:=z07 w w1);(try have hz1:=z17 w w1);(try have hz2:=z27 w w1)))|(go_at_call 226;refine (ai1 _ _ _ _ _).mono ?_;rintro e w2 ⟨rfl,rfl⟩)|(go_at_call 227;refine (HF.out _ cl0).mono ?_;rintro e w1 ⟨rfl,hb1⟩;(have hq7:=ru7;(try clear hc hf);obtain ⟨hb,hc,hf,hz⟩:=hq7;(try simp only [zsz7] at hz);(try have hz0:=z07 w w1);(try have hz1:=z17 w w1);(try have hz2:=z27 w w1))));go_ret
  exact ⟨ab2 (by simp [aj3,h2]),cl0⟩
 by_cases h4:(fs.length:Int)≤10
 ·have HR:Hid (aj3 ⟨name,lo,hi,fs⟩=fs.all ab3):=Lib.hid (by simp [aj3,h1,h2];intro;omega)
  go_enter Tryz.func191,Tryz.ntmps191;go_wp2_with (first|(go_at_call 225;refine (ab8 _ _ hr1).mono ?_;rintro e w1 ⟨rfl,hb1⟩;(have hq7:=ru7;(try clear hc hf);obtain ⟨hb,hc,hf,hz⟩:=hq7;(try simp only [zsz7] at hz);(try have hz0:=z07 w w1);(try have hz1:=z17 w w1);(try have hz2:=z27 w w1)))|(go_at_call 226;refine (ai1 _ _ _ _ _).mono ?_;rintro e w2 ⟨rfl,rfl⟩)|(go_at_call 227;refine (HF.out _ cl0).mono ?_;rintro e w1 ⟨rfl,hb1⟩;(have hq7:=ru7;(try clear hc hf);obtain ⟨hb,hc,hf,hz⟩:=hq7;(try simp only [zsz7] at hz);(try have hz0:=z07 w w1);(try have hz1:=z17 w w1);(try have hz2:=z27 w w1))));go_ret
  exact ⟨ab2 HR.out.symm,cl0⟩
 ·go_enter Tryz.func191,Tryz.ntmps191;go_wp2_with (first|(go_at_call 225;refine (ab8 _ _ hr1).mono ?_;rintro e w1 ⟨rfl,hb1⟩;(have hq7:=ru7;(try clear hc hf);obtain ⟨hb,hc,hf,hz⟩:=hq7;(try simp only [zsz7] at hz);(try have hz0:=z07 w w1);(try have hz1:=z17 w w1);(try have hz2:=z27 w w1)))|(go_at_call 226;refine (ai1 _ _ _ _ _).mono ?_;rintro e w2 ⟨rfl,rfl⟩)|(go_at_call 227;refine (HF.out _ cl0).mono ?_;rintro e w1 ⟨rfl,hb1⟩;(have hq7:=ru7;(try clear hc hf);obtain ⟨hb,hc,hf,hz⟩:=hq7;(try simp only [zsz7] at hz);(try have hz0:=z07 w w1);(try have hz1:=z17 w w1);(try have hz2:=z27 w w1))));go_ret
  exact ⟨ab2 (by simp [aj3];intros;omega),cl0⟩
theorem bh5 (w:World) {F:Nat→Prop} {l:List Knd} (hl:∀ k,k∈l→SmK k):Asks Tryz.prog 191 #[] w ag1 (RKnd w F) l aj3:=by
 refine ⟨enters_of Tryz.func191 (by kernel_rfl) rfl,fun k vs W hm hr hW=>?_⟩
 obtain ⟨fa,fc,rfl,_,_,h1⟩:=hr
 exact bt1 k W (RFlds.keep hW.same (fun _ h=>h) h1) (hl k hm)
theorem bh4 (w:World) {F:Nat→Prop} {l:List Lif} (hl:∀ k,k∈l→SmL k):Asks Tryz.prog 193 #[] w ag1 (RLif w F) l aj9:=by
 refine ⟨enters_of Tryz.func193 (by kernel_rfl) rfl,fun k vs W hm hr hW=>?_⟩
 obtain ⟨sa,sc,ma,mc,rfl,h1,h2⟩:=hr
 exact bt0 k W (h1.keep hW.same (fun _ h=>h) (fun _ _ _ h=>h)) (h2.keep hW.same (fun _ h=>h) (fun _ _ _ h=>h)) (hl k hm)
theorem bh3 (w:World) {l:List Rul} (hl:∀ k,k∈l→SmR k):Asks Tryz.prog 195 #[] w ag1 RRul l at7:=by
 refine ⟨enters_of Tryz.func195 (by kernel_rfl) rfl,fun k vs W hm hr hW=>?_⟩
 obtain ⟨rfl,h1⟩:=hr
 exact bs8 k W (hl k hm)
end
section
open Go.RowKit Go.Shelf
theorem bh1 {f:Fld} (h:ak2 f=true):0≤f.kind∧f.kind≤8:=by
 unfold ak2 at h
 repeat' split at h
 all_goals first|omega|simp at h
theorem bL9 {ws:List ByteArray} {gs:List Int} (h:ae7 ws gs=true):ws.length=gs.length∧ws.length≤12:=by
 simp only [ae7,Bool.and_eq_true,aa7,decide_eq_true_eq] at h
 omega
theorem bE7 (f:Fld) (w:World) {F:Nat→Prop} {wa ga:Option Addr} {wc gc:Nat} (hw:aw8 w F f.words wa wc) (hg:RInts w F f.weights ga gc) (hlo:I64 f.lo) (hhi:I64 f.hi) (hx:SmF f) (hv:ab3 f=true) (hb:an8 f≤1000000) (hp:Pow10 w) (hwd:WordsAt w) :
  Calls Tryz.prog 235 #[.agg #[.string f.name,.string f.of,.string f.up,.int .i64 f.kind,.int .i64 f.lo,.int .i64 f.hi,.slice wa f.words.length wc,.slice ga f.weights.length gc]] w
   fun e w'=>∃ s:ByteArray,e = .returned (.string s)∧s.size≤an8 f∧Ex w w':=by
 have hk:ak2 f=true:=by simp only [ab3,Bool.and_eq_true] at hv;exact hv.2
 have hr:=bh1 hk
 obtain ⟨n,o,u,k,lo,hi,ws,gs⟩:=f
 have h1:=hx.name;have h2:=hx.of;have h3:=hx.up
 unfold SmS at h1 h2 h3
 simp only at *
 have key:∀ s:ByteArray,s.size≤16+n.size+o.size+u.size+intB lo+intB hi→s.size≤an8 ⟨n,o,u,k,lo,hi,ws,gs⟩:=fun s hs=>by unfold an8;simp only;omega
 by_cases k3:k=3
 ·subst k3
  have hpk:ae7 ws gs=true:=by simpa [ak2] using hk
  obtain ⟨hl,h12⟩:=bL9 hpk
  have hpb:=ba8 ws gs hl
  unfold an8 at hb
  simp only at hb
  refine (cf5 n o u lo hi ws gs w wa ga wc gc hw hg hl (by omega) h1 (by omega) hp hwd).mono ?_
  rintro e w' ⟨s,he,hs,hex⟩
  refine ⟨s,he,?_,hex⟩
  unfold an8;simp only;omega
 have h:k=0∨k=1∨k=2∨k=4∨k=5∨k=6∨k=7∨k=8:=by omega
 rcases h with rfl|rfl|rfl|rfl|rfl|rfl|rfl|rfl
 ·exact (cf8 n o u lo hi _ _ w wa ga wc gc h1 h2 h3 hlo hhi hp hwd).mono fun e w' ⟨s,he,hs,hex⟩=>⟨s,he,key s hs,hex⟩
 ·exact (cf7 n o u lo hi _ _ w wa ga wc gc h1 h2 h3 hlo hhi hp hwd).mono fun e w' ⟨s,he,hs,hex⟩=>⟨s,he,key s hs,hex⟩
 ·exact (cf6 n o u lo hi _ _ w wa ga wc gc h1 h2 h3 hlo hhi hp hwd).mono fun e w' ⟨s,he,hs,hex⟩=>⟨s,he,key s hs,hex⟩
 ·exact (cf4 n o u lo hi _ _ w wa ga wc gc h1 h2 h3 hlo hhi hp hwd).mono fun e w' ⟨s,he,hs,hex⟩=>⟨s,he,key s hs,hex⟩
 ·exact (cf3 n o u lo hi _ _ w wa ga wc gc h1 h2 h3 hlo hhi hp hwd).mono fun e w' ⟨s,he,hs,hex⟩=>⟨s,he,key s hs,hex⟩
 ·exact (cf2 n o u lo hi _ _ w wa ga wc gc h1 h2 h3 hlo hhi hp hwd).mono fun e w' ⟨s,he,hs,hex⟩=>⟨s,he,key s hs,hex⟩
 ·exact (cf1 n o u lo hi _ _ w wa ga wc gc h1 h2 h3 hlo hhi hp hwd).mono fun e w' ⟨s,he,hs,hex⟩=>⟨s,he,key s hs,hex⟩
 ·exact (cf0 n o u lo hi _ _ w wa ga wc gc h1 h2 h3 hlo hhi hp hwd).mono fun e w' ⟨s,he,hs,hex⟩=>⟨s,he,key s hs,hex⟩
theorem Wrote.ex' {w wr w':World} {B b n n':Nat} {O:Option Nat} (hB0:w.heap.size≤B) (he:Ex w wr) (hb:Bld wr B b n O) (hw:Wrote wr w' B b n' O):Ex w w':=by
 obtain ⟨hk,_⟩:=hw
 obtain ⟨l,p,v,_,_,hB,_,hown,hO,_⟩:=hb
 refine ⟨hk.os.trans (Keep.os he),hk.tape.trans (Keep.tape he),hk.output.trans (Keep.output he),Nat.le_trans he.size hk.size,fun x hx _=>?_⟩
 rw [hk.block x (Nat.lt_of_lt_of_le hx he.size) ?_]
 ·exact he.block x hx
 ·rintro (rfl|h)
  ·omega
  ·have:=(hown.lt x (by rw [hO,h])).1;omega
theorem Bld.own_lt {w:World} {B b n:Nat} {O:Option Nat} (h:Bld w B b n O):∀ x,O=some x→x<w.heap.size:=by
 obtain ⟨l,p,v,_,_,hB,_,hown,hO,_⟩:=h
 intro x hx
 exact (hown.lt x (by rw [hO,hx])).2
theorem Wrote.cell {w w':World} {B b n N i:Nat} {O:Option Nat} {v:Value} (hw:Wrote w w' B b n O) (hc:w.cell? ⟨N,i,none⟩=some v) (h1:N≠b) (h2:O≠some N):w'.cell? ⟨N,i,none⟩=some v:=
 hw.1.cell hc (by rintro (h|h);exact h1 h;exact h2 h.symm)
end
end Go.Proofs.YtlcfiilejnnlnaaGreatDoor
