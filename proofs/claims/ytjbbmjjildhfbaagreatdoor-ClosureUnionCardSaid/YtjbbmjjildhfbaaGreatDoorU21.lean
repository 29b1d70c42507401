/- A part of the proof: SchemaA SchemaB SrcD SchemaC SchemaD. -/
import Derived.Test.YtjbbmjjildhfbaaGreatDoorU20
import Derived.Lib.ConvBytes
import Derived.Deep.QuietTactic
import Derived.BigQuiet
import Derived.RegionTactic
import Derived.BigRegion
set_option maxRecDepth 100000
set_option maxHeartbeats 4000000
set_option linter.unusedVariables false
set_option linter.unusedSimpArgs false
namespace Go.Proofs.YtjbbmjjildhfbaaGreatDoor
section
open Go.RowKit Go.Shelf
theorem ret_bool {a b : Bool} (h : a = b) : Ending.returned (.bool a) = .returned (.bool b):=by rw [h]
theorem ret_int {k : IntKind} {a b : Int} (h : a = b) : Ending.returned (.int k a) = .returned (.int k b):=by rw [h]
theorem within_any (n a b : Int) (w : World) : Calls Tryz.prog 107 #[.int .i64 n,.int .i64 a,.int .i64 b] w fun e w'=>e = .returned (.bool (withinB n a b)) ∧ w = w':=by
 by_cases h1 : a ≤ n
 all_goals
  go_enter Tryz.func107,Tryz.ntmps107
  go_wp2
  go_ret
  exact ⟨ret_bool (by simp [withinB];try omega),rfl⟩
theorem span_any (lo hi a b : Int) (w : World) : Calls Tryz.prog 130 #[.int .i64 lo,.int .i64 hi,.int .i64 a,.int .i64 b] w fun e w'=>e = .returned (.bool (spanB lo hi a b)) ∧ w = w':=by
 by_cases h1 : a ≤ lo <;> by_cases h2 : lo ≤ hi
 all_goals
  go_enter Tryz.func130,Tryz.ntmps130
  go_wp2
  go_ret
  exact ⟨ret_bool (by simp only [spanB];rw [Bool.eq_iff_iff];simp;try omega),rfl⟩
theorem isLetter_any (c : UInt8) (w : World) : Calls Tryz.prog 152 #[.int .u8 c.toNat] w fun e w'=>e = .returned (.bool (letter c)) ∧ w = w':=by
 by_cases h1 : 97 ≤ (c.toNat : Int)
 all_goals
  go_enter Tryz.func152,Tryz.ntmps152
  go_wp2
  go_ret
  exact ⟨ret_bool (by simp [letter];try omega),rfl⟩
theorem isDigit_any (c : UInt8) (w : World) : Calls Tryz.prog 155 #[.int .u8 c.toNat] w fun e w'=>e = .returned (.bool (digit c)) ∧ w = w':=by
 by_cases h1 : 48 ≤ (c.toNat : Int)
 all_goals
  go_enter Tryz.func155,Tryz.ntmps155
  go_wp2
  go_ret
  exact ⟨ret_bool (by simp [digit];try omega),rfl⟩
theorem isName1_asks (w : World) (l : List UInt8) : Asks Tryz.prog 154 #[] w oneOf RByte l (fun c=>!alnum c):=by
 refine ⟨enters_of Tryz.func154 (by kernel_rfl) rfl,fun c vs W hm hr hW=>?_⟩
 cases hr
 show Calls _ _ #[.int .u8 c.toNat] _ _
 cases h : letter c
 all_goals
  go_enter Tryz.func154,Tryz.ntmps154
  go_wp2_with (first | (go_at_call 152;refine (isLetter_any _ _).mono ?_;rintro e w' ⟨rfl,rfl⟩) | (go_at_call 155;refine (isDigit_any _ _).mono ?_;rintro e w' ⟨rfl,rfl⟩))
  go_ret
  exact ⟨ret_bool (by simp [alnum,h]),Ex.refl _⟩
theorem bytesWorld_ex (w : World) (e : TypeId) (s : ByteArray) : Ex w (Lib.bytesWorld w e s):=
 ⟨rfl,rfl,rfl,
  by rw [Lib.bytesWorld_size];omega,fun b hb _=>Lib.bytesWorld_at_old w e s b hb⟩
theorem bytesWorld_row (w : World) (e : TypeId) (s : ByteArray) (cap : Nat) (hc : s.size ≤ cap) : Row 1 RByte (Lib.bytesWorld w e s) (fun _=>True) (bytes s) (some ⟨w.heap.size,0,none⟩) cap:=
 ⟨by unfold bytes;simpa using hc,fun i x hx=>⟨w.heap.size,0,rfl,trivial,[.int .u8 x.toNat],rfl,rfl,fun j v hj=>by
  unfold bytes at hx
  obtain ⟨hi,rfl⟩:=List.getElem?_eq_some_iff.1 hx
  have hi' : i < s.size:=by simpa using hi
  have:=Lib.bytesWorld_cell w e s i hi'
  cases j with
  | zero=>simp at hj;subst hj;simpa [List.getD,hi'] using this
  | succ j=>simp at hj⟩⟩
theorem size_list (s : ByteArray) : s.size = (bytes s).length:=by unfold bytes;rw [Array.length_toList];rfl
theorem isName_any (s : ByteArray) (w : World) (hs : s.size ≤ 9223372036854775807) : Calls Tryz.prog 129 #[.string s] w fun e w'=>e = .returned (.bool (isNm s)) ∧ Ex w w':=by
 have HW:=Lib.hid (fun n (w : World)=>within_any n 1 12 w)
 have HL:=Lib.hid isLetter_any
 cases hw : withinB s.size 1 12 with
 | false=>
  have HN : Hid (isNm s = false):=Lib.hid (by simp [isNm,hw])
  go_enter Tryz.func129,Tryz.ntmps129
  go_wp2_with (go_at_call 107;refine (HW.out _ _).mono ?_;rintro e w' ⟨rfl,rfl⟩)
  go_ret
  exact ⟨ret_bool HN.out.symm,Ex.refl _⟩
 | true=>
  have h1 : 1 ≤ s.size:=by simp [withinB] at hw;omega
  have h12 : s.size ≤ 12:=by simp [withinB] at hw;omega
  obtain ⟨c,r,hcr⟩ : ∃ c r,bytes s = c :: r:=by
   cases h : bytes s with
   | nil=>rw [size_list,h] at h1;simp at h1
   | cons c r=>exact ⟨c,r,rfl⟩
  have hs0 : s[0] = c:=by
   have : (bytes s)[0]? = some c:=by rw [hcr];rfl
   unfold bytes at this
   simp only [Array.getElem?_toList] at this
   exact (Array.getElem?_eq_some_iff.1 this).2
  cases hl : letter c with
  | false=>
   have HN : Hid (isNm s = false):=Lib.hid (by simp [isNm,hw,hcr,hl])
   have HS:=Lib.hid hs0;clear hs0 hcr
   go_enter Tryz.func129,Tryz.ntmps129
   go_wp2_with (first | (go_at_call 107;refine (HW.out _ _).mono ?_;rintro e w' ⟨rfl,rfl⟩) | (go_at_call 152;rw [HS.out];refine (HL.out _ _).mono ?_;rintro e w' ⟨rfl,rfl⟩))
   go_ret
   exact ⟨ret_bool HN.out.symm,Ex.refl _⟩
  | true=>
   have HN : Hid (isNm s = (bytes s).all alnum):=Lib.hid (by simp [isNm,hw,hcr,hl])
   have HA:=Lib.hid (any_not_all alnum (bytes s))
   have HS:=Lib.hid hs0;clear hs0 hcr
   have hlen : (bytes s).length ≤ 140737488355328:=by rw [← size_list];omega
   have HC : Hid (∀ cap,s.size ≤ cap → Calls Tryz.prog 153 #[.slice (some ⟨w.heap.size,0,none⟩) s.size cap,.func (.func 154) #[] #[]] (Lib.bytesWorld w 5 s) fun e w'=>e = .returned (.bool ((bytes s).any fun c=>!alnum c)) ∧ Ex (Lib.bytesWorld w 5 s) w'):=
    Lib.hid (fun cap hc=>by
     have:=contains_byt (bytesWorld_row w 5 s cap hc) hlen (isName1_asks _ _)
     rw [← size_list] at this;exact this)
   clear hlen
   have kc:=fun (w : World)=>Lib.run_convert_string_bytes (P:=Tryz.prog) w 9 204 5 s Tryz.underlying9 Tryz.underlying204 Tryz.underlying5
   have hcap : s.size ≤ grownCap w s.size 0 5:=grownCap_ge _ _ _ _
   go_enter Tryz.func129,Tryz.ntmps129
   go_wp2_with (first | (go_at_call 107;refine (HW.out _ _).mono ?_;rintro e w' ⟨rfl,rfl⟩) | (go_at_call 152;rw [HS.out];refine (HL.out _ _).mono ?_;rintro e w' ⟨rfl,rfl⟩) | (go_at_call 153;refine (HC.out _ hcap).mono ?_;rintro e w' ⟨rfl,hb⟩))
   go_ret
   exact ⟨ret_bool (by rw [HN.out,← HA.out]),(bytesWorld_ex _ _ _).trans hb⟩
end
section
open Go.RowKit Go.Shelf
theorem int_cells {w w' : World} {F : Nat → Prop} {xs : List Int} {a : Option Addr} {cap : Nat} (h : RInts w F xs a cap) (hex : Same F w w') {i : Nat} (hi : i < xs.length) :
  ∃ x b off,Hid (xs[i]? = some x) ∧ a = some ⟨b,off,none⟩ ∧ F b ∧ w'.cell? ⟨b,off + i,none⟩ = some (.int .i64 x) ∧ I64 x:=by
 obtain ⟨b,off,ha,hb,vs,hl,⟨rfl,hx⟩,hc⟩:=h.at_ i xs[i] (List.getElem?_eq_getElem hi)
 exact ⟨xs[i],b,off,Lib.hid (List.getElem?_eq_getElem hi),ha,hb,hex.cell (p:=⟨b,off + i,none⟩) (by have:=hc 0 _ rfl;simpa using this) hb,hx⟩
theorem isName_asks (w : World) (l : List ByteArray) (hl : ∀ s,s ∈ l → s.size ≤ 9223372036854775807) : Asks Tryz.prog 129 #[] w oneOf RStr l isNm:=by
 refine ⟨enters_of Tryz.func129 (by kernel_rfl) rfl,fun s vs W hm hr hW=>?_⟩
 cases hr
 exact isName_any s W (hl s hm)
theorem take_succ_sum (gs : List Int) (j : Nat) (x : Int) (h : gs[j]? = some x) : (gs.take (j + 1)).sum = (gs.take j).sum + x:=by
 rw [List.take_add_one,h];simp [List.sum_append]
theorem all_upto {α : Type} {p : α → Bool} {xs : List α} {j : Nat} (h : ∀ i y,i < j → xs[i]? = some y → p y = true) (hj : xs.length ≤ j) : xs.all p = true:=by
 rw [List.all_eq_true];intro x hx
 obtain ⟨i,hi⟩:=List.getElem?_of_mem hx
 exact h i x (by have:=(List.getElem?_eq_some_iff.1 hi).1;omega) hi
theorem all_no {α : Type} {p : α → Bool} {xs : List α} {j : Nat} {x : α} (hx : xs[j]? = some x) (hp : p x = false) : xs.all p = false:=by
 rw [List.all_eq_false];exact ⟨x,List.mem_of_getElem? hx,by simp [hp]⟩
theorem all_more {α : Type} {xs : List α} {p : α → Bool} {j : Nat} {x : α} (hno : ∀ i y,i < j → xs[i]? = some y → p y = true) (hx : xs[j]? = some x) (hp : p x = true) :
  ∀ i y,i < j + 1 → xs[i]? = some y → p y = true:=fun i y hi hy=>by
 rcases Nat.lt_or_ge i j with h | h
 ·exact hno i y h hy
 ·obtain rfl : i = j:=by omega
  rw [hx] at hy;cases hy;exact hp
theorem isPick_any (ws : List ByteArray) (gs : List Int) (w : World) {F : Nat → Prop} {wa ga : Option Addr} {wc gc : Nat} (hw : RStrs w F ws wa wc) (hg : RInts w F gs ga gc)
  (hl : ∀ s,s ∈ ws → s.size ≤ 9223372036854775807) (hgl : gs.length ≤ 1000000) (hwl : ws.length ≤ 1000000) :
  Calls Tryz.prog 160 #[.slice wa ws.length wc,.slice ga gs.length gc] w fun e w'=>e = .returned (.bool (isPickB ws gs)) ∧ Ex w w':=by
 have HA:=Lib.hid (fun (w' : World) (hx : Ex w w')=>all_str (hw.keep (w':=w') hx.same (fun _ h=>h) (fun _ _ _ h=>h)) (by omega) (isName_asks w' ws hl))
 go_enter Tryz.func160,Tryz.ntmps160
 go_wp2
 go_loop [5,10] (fun s i=>∃ j : Nat,j ≤ gs.length ∧ i = .int .i64 j ∧ Hid (∀ i y,i < j → gs[i]? = some y → withinB y 0 1048576 = true) ∧ ∃ t : Int,Hid (t = (gs.take j).sum) ∧ 0 ≤ t ∧ t ≤ j * 1048576 ∧ s = .int .i64 t) (fun _ i=>gs.length - (intOf i).toNat)
 case atStart=>exact ⟨0,by omega,rfl,fun i y h=>by omega,0,by simp [Hid],by omega,by omega,rfl⟩
 case round=>
  obtain ⟨j,hj,rfl,hno,t,ht,ht0,ht1,rfl⟩:=hrel
  by_cases hlt : j < gs.length
  ·obtain ⟨x,b,off,hx,rfl,_,c0,hx1,hx2⟩:=int_cells hg (Ex.refl w).same hlt
   cases hp : withinB x 0 1048576 with
   | true=>
    have h0 : 0 ≤ x:=by simp [withinB] at hp;omega
    have h1 : x ≤ 1048576:=by simp [withinB] at hp;omega
    have Hi:=Lib.hid (all_more (p:=fun n=>withinB n 0 1048576) hno.out hx.out hp);clear hno
    have Ht:=Lib.hid (take_succ_sum gs j x hx.out)
    go_wp2_with (go_at_call 107;refine (within_any _ _ _ _).mono ?_;rintro e w' ⟨rfl,rfl⟩)
    go_round
    case rel=>exact ⟨j + 1,by omega,by go_num,Hi,t + x,by unfold Hid;rw [Ht.out,ht.out],by omega,by push_cast;omega,rfl⟩
    case measure=>simp [intOf];omega
   | false=>
    have Hr : Hid (isPickB ws gs = false):=Lib.hid (by simp only [isPickB,all_no (p:=fun n=>withinB n 0 1048576) hx.out hp,Bool.false_and])
    go_wp2_with (go_at_call 107;refine (within_any _ _ _ _).mono ?_;rintro e w' ⟨rfl,rfl⟩)
    go_ret
    exact ⟨ret_bool Hr.out.symm,Ex.refl _⟩
  ·have hall : (gs.all fun n=>withinB n 0 1048576) = true:=all_upto (p:=fun n=>withinB n 0 1048576) hno.out (by omega)
   have hsum : t = gs.sum:=by rw [ht.out,List.take_of_length_le (by omega)]
   cases h1 : withinB ws.length 1 12 with
   | false=>
    have Hr : Hid (isPickB ws gs = false):=Lib.hid (by simp only [isPickB,h1,Bool.false_and,Bool.and_false])
    clear hall hsum
    go_wp2_with (go_at_call 107;refine (within_any _ _ _ _).mono ?_;rintro e w' ⟨rfl,rfl⟩)
    go_ret
    exact ⟨ret_bool Hr.out.symm,Ex.refl _⟩
   | true=>
    cases h2 : decide (ws.length = gs.length) with
    | false=>
     have Hr : Hid (isPickB ws gs = false):=Lib.hid (by simp only [isPickB,h2,Bool.false_and,Bool.and_false])
     have h2' : ((ws.length : Int) == (gs.length : Int)) = false:=by simp at h2 ⊢;omega
     clear hall hsum h2
     go_wp2_with (go_at_call 107;refine (within_any _ _ _ _).mono ?_;rintro e w' ⟨rfl,rfl⟩)
     go_ret
     exact ⟨ret_bool Hr.out.symm,Ex.refl _⟩
    | true=>
     have h2' : ((ws.length : Int) == (gs.length : Int)) = true:=by simp at h2 ⊢;omega
     by_cases h3 : 0 < t
     ·have Hr : Hid (isPickB ws gs = ws.all isNm):=Lib.hid (by rw [hsum] at h3;simp only [isPickB,hall,h1,h2,Bool.true_and,decide_eq_true h3])
      clear hall hsum h2
      go_wp2_with (first | (go_at_call 107;refine (within_any _ _ _ _).mono ?_;rintro e w' ⟨rfl,rfl⟩) | (go_at_call 134;refine (HA.out _ (Ex.refl _)).mono ?_;rintro e w' ⟨rfl,hb⟩))
      go_ret
      exact ⟨ret_bool Hr.out.symm,hb⟩
     ·have Hr : Hid (isPickB ws gs = false):=Lib.hid (by rw [hsum] at h3;simp only [isPickB,decide_eq_false h3,Bool.false_and,Bool.and_false])
      clear hall hsum h2
      go_wp2_with (go_at_call 107;refine (within_any _ _ _ _).mono ?_;rintro e w' ⟨rfl,rfl⟩)
      go_ret
      exact ⟨ret_bool Hr.out.symm,Ex.refl _⟩
theorem cl19 {p : Prop} (h : p:=by first | exact hr1 | exact hr2 | exact hr3 | exact hr4) : p:=h
theorem isRule_any (r : Rul) (w : World) (hs : SmR r) :
  Calls Tryz.prog 113 #[.agg #[.string r.name,.string r.kind,.string r.a,.string r.b,.int .i64 r.n]] w fun e w'=>e = .returned (.bool (isRuleB r)) ∧ Ex w w':=by
 have hr1:=hs.name.le
 have hr2:=hs.kind.le
 have hr3:=hs.a.le
 have hr4:=hs.b.le
 have hab : r.a.size + r.b.size ≤ 9223372036854775807:=by have:=hs.a;have:=hs.b;unfold SmS at *;omega
 clear hs
 obtain ⟨rname,rkind,ra,rb,rn⟩:=r
 simp only at *
 cases h1 : isNm rname
 ·go_enter Tryz.func113,Tryz.ntmps113
  go_wp2_with (first | (go_at_call 129;refine (isName_any _ _ cl19).mono ?_;rintro e w1 ⟨rfl,hb1⟩;(have hq7:=ru7;(try clear hc hf);obtain ⟨hb,hc,hf,hz⟩:=hq7;(try simp only [zsz7] at hz);(try have hz0:=z07 w w1);(try have hz1:=z17 w w1);(try have hz2:=z27 w w1))) | (go_at_call 107;refine (within_any _ _ _ _).mono ?_;rintro e w' ⟨rfl,rfl⟩))
  go_ret
  exact ⟨ret_bool (by simp [isRuleB,h1]),cl0⟩
 cases h2 : isNm rkind
 ·go_enter Tryz.func113,Tryz.ntmps113
  go_wp2_with (first | (go_at_call 129;refine (isName_any _ _ cl19).mono ?_;rintro e w1 ⟨rfl,hb1⟩;(have hq7:=ru7;(try clear hc hf);obtain ⟨hb,hc,hf,hz⟩:=hq7;(try simp only [zsz7] at hz);(try have hz0:=z07 w w1);(try have hz1:=z17 w w1);(try have hz2:=z27 w w1))) | (go_at_call 107;refine (within_any _ _ _ _).mono ?_;rintro e w' ⟨rfl,rfl⟩))
  go_ret
  exact ⟨ret_bool (by simp [isRuleB,h2]),cl0⟩
 cases h3 : ra.toList.isEmpty
 all_goals cases h3a : isNm ra
 all_goals cases h4 : rb.toList.isEmpty
 all_goals cases h4a : isNm rb
 all_goals
  have h5:=isE_append ra rb
  simp only [isE,h3,h4,Bool.and_self,Bool.and_false,Bool.false_and] at h5
  go_enter Tryz.func113,Tryz.ntmps113
  go_wp2_with (first | (go_at_call 129;refine (isName_any _ _ cl19).mono ?_;rintro e w1 ⟨rfl,hb1⟩;(have hq7:=ru7;(try clear hc hf);obtain ⟨hb,hc,hf,hz⟩:=hq7;(try simp only [zsz7] at hz);(try have hz0:=z07 w w1);(try have hz1:=z17 w w1);(try have hz2:=z27 w w1))) | (go_at_call 107;refine (within_any _ _ _ _).mono ?_;rintro e w' ⟨rfl,rfl⟩))
  go_ret
  exact ⟨ret_bool (by simp [isRuleB,isE,h1,h2,h3,h4,h3a,h4a]),cl0⟩
end
section
open Go.RowKit Go.Shelf
def pairsOf : List ByteArray → List Int → List (Int ⊕ ByteArray)
 | s :: ws,n :: gs=>.inr s :: .inl n :: pairsOf ws gs
 | _,_=>[]
theorem pairsOf_take : ∀ (ws : List ByteArray) (gs : List Int) (j : Nat) (s : ByteArray) (n : Int),ws[j]? = some s → gs[j]? = some n → pairsOf (ws.take (j + 1)) (gs.take (j + 1)) = pairsOf (ws.take j) (gs.take j) ++ [.inr s,.inl n]
 | [],_,j,s,n,h,_=>by simp at h
 | _ :: _,[],j,s,n,_,h=>by simp at h
 | a :: ws,b :: gs,0,s,n,h,h'=>by simp at h h';subst h h';simp [pairsOf]
 | a :: ws,b :: gs,j + 1,s,n,h,h'=>by
  have:=pairsOf_take ws gs j s n (by simpa using h) (by simpa using h')
  simp [pairsOf,this]
theorem pairsOf_length : ∀ (ws : List ByteArray) (gs : List Int),ws.length = gs.length → (pairsOf ws gs).length = 2 * ws.length
 | [],_,_=>by simp [pairsOf]
 | _ :: _,[],h=>by simp at h
 | a :: ws,b :: gs,h=>by simp [pairsOf,pairsOf_length ws gs (by simpa using h)];omega
theorem pairsOf_B : ∀ (ws : List ByteArray) (gs : List Int),ws.length = gs.length → itemsB (pairsOf ws gs) = (ws.map fun s=>1 + s.size).sum + (gs.map fun n=>1 + intB n).sum
 | [],[],_=>by simp [pairsOf,itemsB]
 | [],_ :: _,h=>by simp at h
 | _ :: _,[],h=>by simp at h
 | a :: ws,b :: gs,h=>by
  have:=pairsOf_B ws gs (by simpa using h)
  simp only [itemsB,pairsOf,List.map_cons,List.sum_cons,itemB] at *;omega
theorem pairsOf_i64 : ∀ (ws : List ByteArray) (gs : List Int),(∀ n,n ∈ gs → I64 n) → ∀ n,Sum.inl n ∈ pairsOf ws gs → I64 n
 | [],_,_,n,h=>by simp [pairsOf] at h
 | _ :: _,[],_,n,h=>by simp [pairsOf] at h
 | a :: ws,b :: gs,hg,n,h=>by
  simp only [pairsOf,List.mem_cons] at h
  rcases h with h | h | h
  ·cases h
  ·cases h;exact hg _ (List.mem_cons_self ..)
  ·exact pairsOf_i64 ws gs (fun m hm=>hg m (List.mem_cons_of_mem _ hm)) n h
theorem anyV_cells (l : List (Int ⊕ ByteArray)) : cellsOf (fun x=>[anyV x]) l = l.map anyV:=by
 induction l with
 | nil=>rfl
 | cons x l ih=>simp only [cellsOf,List.flatMap_cons,List.map_cons] at *;rw [ih];rfl
theorem infoAny : (Tryz.prog.info? 20).map (fun i=>(i.zero,i.size,i.bytes)) = some (some .nilIface,1,16):=by kernel_rfl
theorem RInts.i64 {w : World} {F : Nat → Prop} {xs : List Int} {a : Option Addr} {c : Nat} (h : RInts w F xs a c) : ∀ n,n ∈ xs → I64 n:=fun n hn=>by
 obtain ⟨i,hi⟩:=List.getElem?_of_mem hn
 obtain ⟨b,off,_,_,vs,_,⟨_,hx⟩,_⟩:=h.at_ i n hi
 exact hx
theorem two_new (w : World) (x y : Value) (t : TypeId) : ∀ j u,[x,y][j]? = some u → (w.alloc (.cells #[x,y] t)).cell? ((⟨w.heap.size,0,none⟩ : Addr).add j) = some u:=by
 intro j u hj
 match j,hj with
 | 0,hj=>simp at hj;subst hj;simp [Addr.add]
 | 1,hj=>simp at hj;subst hj;simp [Addr.add]
theorem two_one (a b : Int ⊕ ByteArray) : ∀ u ∈ [anyV a,anyV b],u.oneCell' = true:=by
 cases a <;> cases b <;> simp [anyV,Value.oneCell']
def pickItems (n : ByteArray) (ws : List ByteArray) (gs : List Int) (j : Nat) : List (Int ⊕ ByteArray):=Sum.inr n :: Sum.inl (ws.length : Int) :: pairsOf (ws.take j) (gs.take j)
theorem pickItems_length (n : ByteArray) (ws : List ByteArray) (gs : List Int) (j : Nat) (h : ws.length = gs.length) (hj : j ≤ ws.length) : (pickItems n ws gs j).length = 2 + 2 * j:=by
 simp only [pickItems,List.length_cons];rw [pairsOf_length _ _ (by simp [h])];simp;omega
theorem pickItems_succ (n : ByteArray) (ws : List ByteArray) (gs : List Int) (j : Nat) (s : ByteArray) (g : Int) (h : ws[j]? = some s) (h' : gs[j]? = some g) : pickItems n ws gs (j + 1) = pickItems n ws gs j ++ [.inr s,.inl g]:=by
 simp only [pickItems,pairsOf_take ws gs j s g h h',List.cons_append]
theorem field_3 (n o u : ByteArray) (lo hi : Int) (ws : List ByteArray) (gs : List Int) (w : World) {F : Nat → Prop} (wa ga : Option Addr) (cw cg : Nat) (hws : RStrs w F ws wa cw) (hgs : RInts w F gs ga cg) (hlen : ws.length = gs.length) (hl : ws.length ≤ 1000) (hr1 : n.size ≤ 1000000)
  (hb : itemsB (pairsOf ws gs) ≤ 1000000) (hp : Pow10 w) (hwd : WordsAt w) :
  Calls Tryz.prog 140 #[.agg #[.string n,.string o,.string u,.int .i64 3,.int .i64 lo,.int .i64 hi,.slice wa ws.length cw,.slice ga gs.length cg]] w
   fun e w'=>∃ s : ByteArray,e = .returned (.string s) ∧ s.size ≤ 7 + n.size + intB ws.length + itemsB (pairsOf ws gs) ∧ Ex w w':=by
 have c0:=hwd 3 _ rfl
 have lB : 1 < w.heap.size:=World.block_lt_of_cell? _ _ c0
 obtain ⟨i0,hiA,hzA,hz1,hz2⟩:=info_parts infoAny
 have HE:=Lib.hid hlen
 have HBB:=Lib.hid hb
 clear hlen hb
 go_enter Tryz.func140,Tryz.ntmps140
 go_wp2
 go_loopw [4,51] (fun s4 i wr=>∃ (j : Nat),j ≤ ws.length ∧ i = .int .i64 j ∧ Ex (w.alloc (.cells #[.string n,.string o,.string u,.int .i64 3,.int .i64 lo,.int .i64 hi,.slice wa ws.length cw,.slice ga gs.length cg] 111)) wr ∧
  Hid (wr.ownsRow (w.heap.size + 1) 20 1 s4 (2 + 2 * j) ((pickItems n ws gs j).map anyV))) (fun _ i _=>ws.length - (intOf i).toNat)
 case atStart=>
  refine ⟨0,by omega,rfl,cl0,?_⟩
  have:=World.ownsRow_lit (base:=w.heap.size + 1) (e:=20) (size:=1) (w.alloc (.cells #[.string n,.string o,.string u,.int .i64 3,.int .i64 lo,.int .i64 hi,.slice wa ws.length cw,.slice ga gs.length cg] 111)) #[anyV (.inr n),anyV (.inl ws.length)] 2 (by simp) (by decide) rfl
  simpa [pickItems,pairsOf,Hid,anyV] using this
 case round=>
  obtain ⟨j,hj,rfl,hex,hown⟩:=hrel
  obtain ⟨hc,hf⟩:=hex.rules
  have hz:=hex.size
  simp only [World.size_alloc] at hz
  have hz0 : w.heap.size < wr.heap.size:=by omega
  have hexw:=((Ex.refl w).alloc (o:=.cells #[.string n,.string o,.string u,.int .i64 3,.int .i64 lo,.int .i64 hi,.slice wa ws.length cw,.slice ga gs.length cg] 111)).trans hex
  obtain ⟨a4,cap4,rfl⟩:=owns_slice hown.out
  by_cases hlt : j < ws.length
  ·obtain ⟨s,b,off,hs,rfl,_,c1,_⟩:=str_cells hws hexw.same hlt
   have hlt2 : j < gs.length:=by rw [← HE.out];exact hlt
   obtain ⟨g,b2,off2,hg,rfl,_,c2,hgi⟩:=int_cells hgs hexw.same hlt2
   have hs1 : b < wr.heap.size:=World.block_lt_of_cell? _ _ c1
   have hs2 : b2 < wr.heap.size:=World.block_lt_of_cell? _ _ c2
   have i2 : (j : Int) < gs.length:=by omega
   have Hs:=Lib.hid (pickItems_succ n ws gs j s g hs.out hg.out)
   go_wp2_with (at_builtin;refine wpList_append_own_at _ rfl _ _ 213 rfl (w.heap.size + 1) 20 i0 .nilIface 1 16 Tryz.underlying213 hiA hzA hz1 hz2 rfl (by decide) (.slice a4 (2 + 2 * j) cap4) _ _ rfl (hown.out.alloc _) ⟨wr.heap.size,0,none⟩ 2 2 [anyV (.inr s),anyV (.inl g)] rfl rfl ?c1 ?c2 ?c3 ?c4 ?c5 ?_)
   case c1=>exact two_new _ _ _ _
   case c2=>exact two_one _ _
   case c3=>unfold maxLen;omega
   case c4=>omega
   case c5=>simp;omega
   intro v' w2 hown' hgrow _ hat
   have hex2:=Ex.appended (hex.alloc (o:=.cells #[anyV (.inr s),anyV (.inl g)] 20)) (hown.out.alloc _) (by simp) hgrow
   have HO : Hid (w2.ownsRow (w.heap.size + 1) 20 1 v' (2 + 2 * (j + 1)) ((pickItems n ws gs (j + 1)).map anyV)):=by
    unfold Hid
    rw [Hs.out,List.map_append]
    rw [show 2 + 2 * (j + 1) = 2 + 2 * j + 2 from by omega]
    exact hown'
   clear hown' hgrow hat hown
   obtain ⟨a5,cap5,rfl⟩:=owns_slice HO.out
   go_wp2
   go_roundw
   case rel=>exact ⟨j + 1,by omega,by go_num,hex2,HO⟩
   case measure=>simp [intOf];omega
  ·obtain rfl : j = ws.length:=by omega
   have hpl:=pickItems_length n ws gs ws.length HE.out (Nat.le_refl _)
   have hpi : pickItems n ws gs ws.length = Sum.inr n :: Sum.inl (ws.length : Int) :: pairsOf ws gs:=by
    rw [pickItems,List.take_of_length_le (Nat.le_refl _),List.take_of_length_le (by rw [HE.out];exact Nat.le_refl _)]
   have hi64 : ∀ m,Sum.inl m ∈ pickItems n ws gs ws.length → I64 m:=by
    rw [hpi];intro m hm
    simp only [List.mem_cons] at hm
    rcases hm with h | h | h
    ·cases h
    ·cases h;unfold I64;omega
    ·exact pairsOf_i64 ws gs (RInts.i64 hgs) m h
   obtain ⟨a6,cap6,hv6,hrow⟩:=row_of_owns (C:=fun x=>[anyV x]) (R:=RAny) (xs:=pickItems n ws gs ws.length) hpl.symm (by rw [anyV_cells];exact hown.out) (fun _ _=>rfl) (fun x hx=>by
    cases x with
    | inl m=>exact ⟨rfl,hi64 m hx⟩
    | inr t=>rfl)
   rw [hpl] at hv6
   cases hv6
   have hB : itemsB (pickItems n ws gs ws.length) = 1 + n.size + (1 + intB ws.length) + itemsB (pairsOf ws gs):=by
    rw [hpi];simp only [itemsB,List.map_cons,List.sum_cons,itemB];omega
   have hib:=intB_le (ws.length : Int)
   have HLn:=Lib.hid (line_any ⟨#[112,105,99,107]⟩ (pickItems n ws gs ws.length) wr hrow (hp.ex hexw) (by rw [hpl];omega) (by rw [hB];have:=HBB.out;show 4 + _ ≤ _;omega))
   rw [hpl,hB] at HLn
   clear hpl hpi hi64 hrow hB hown
   go_wp2_with (go_at_call 139;refine HLn.out.mono ?_;rintro e w1 ⟨s,rfl,hs,hb1⟩)
   go_ret
   refine ⟨s,rfl,?_,hexw.trans hb1⟩
   have hs' : s.size ≤ 4 + (1 + n.size + (1 + intB ↑ws.length) + itemsB (pairsOf ws gs)) + 1:=hs
   omega
end
section
open Go.RowKit Go.Shelf
theorem isLife1_asks (w : World) (l : List (Int × Int)) (B n : Nat) (hn : n ≤ 1000000) (hB : w.cell? ⟨B,0,none⟩ = some (.int .i64 n)) :
  Asks Tryz.prog 136 #[.pointer (some ⟨B,0,none⟩)] w aggOf RTwo l (moveB n):=by
 refine ⟨enters_of Tryz.func136 (by kernel_rfl) rfl,fun m vs W hm hr hW=>?_⟩
 obtain ⟨rfl,h1,h2⟩:=hr
 have c0:=hW.cell hB
 have lB : B < W.heap.size:=World.block_lt_of_cell? _ _ c0
 obtain ⟨m1,m2⟩:=m
 simp only at h1 h2
 show Calls _ _ #[.agg #[.int .i64 m1,.int .i64 m2],.pointer (some ⟨B,0,none⟩)] _ _
 cases h : withinB m1 0 (n - 1)
 all_goals
  go_enter Tryz.func136,Tryz.ntmps136
  go_wp2_with ((go_at_call 107;refine (within_any _ _ _ _).mono ?_;rintro e w1 ⟨rfl,rfl⟩))
  go_ret
  exact ⟨ret_bool (by simp [moveB,h]),cl0⟩
theorem isLife_any (x : Lif) (w : World) {F : Nat → Prop} {sa ma : Option Addr} {sc mc : Nat} (hs : RStrs w F x.states sa sc) (hm : RTwos w F x.moves ma mc) (hx : SmL x) :
  Calls Tryz.prog 111 #[.agg #[.string x.name,.slice sa x.states.length sc,.slice ma x.moves.length mc]] w fun e w'=>e = .returned (.bool (isLifeB x)) ∧ Ex w w':=by
 have hn:=hx.name.le
 have hl1:=hx.nstates
 have hl2:=hx.nmoves
 have HS:=Lib.hid (fun (w' : World) (he : Ex w w')=>all_str (hs.keep (w':=w') he.same (fun _ h=>h) (fun _ _ _ h=>h)) (by omega) (isName_asks w' x.states (fun s h=>(hx.states s h).le)))
 have HT:=Lib.hid (fun (w' : World) B (he : Ex w w') hB=>all_two (hm.keep (w':=w') he.same (fun _ h=>h) (fun _ _ _ h=>h)) (by omega) (isLife1_asks w' x.moves B x.states.length hl1 hB))
 clear hx hs hm
 obtain ⟨name,states,moves⟩:=x
 simp only at *
 cases h1 : isNm name
 ·go_enter Tryz.func111,Tryz.ntmps111;go_wp2_with (first | (go_at_call 129;refine (isName_any _ _ hn).mono ?_;rintro e w1 ⟨rfl,hb1⟩;(have hq7:=ru7;(try clear hc hf);obtain ⟨hb,hc,hf,hz⟩:=hq7;(try simp only [zsz7] at hz);(try have hz0:=z07 w w1);(try have hz1:=z17 w w1);(try have hz2:=z27 w w1))) | (go_at_call 107;refine (within_any _ _ _ _).mono ?_;rintro e w1 ⟨rfl,rfl⟩) | (go_at_call 134;refine (HS.out _ cl0).mono ?_;rintro e w1 ⟨rfl,hb1⟩;(have hq7:=ru7;(try clear hc hf);obtain ⟨hb,hc,hf,hz⟩:=hq7;(try simp only [zsz7] at hz);(try have hz0:=z07 w w1);(try have hz1:=z17 w w1);(try have hz2:=z27 w w1))) | (go_at_call 135;refine (HT.out _ _ cl0 (by simp [*])).mono ?_;rintro e w1 ⟨rfl,hb1⟩;(have hq7:=ru7;(try clear hc hf);obtain ⟨hb,hc,hf,hz⟩:=hq7;(try simp only [zsz7] at hz);(try have hz0:=z07 w w1);(try have hz1:=z17 w w1);(try have hz2:=z27 w w1))));go_ret
  exact ⟨ret_bool (by simp [isLifeB,h1]),cl0⟩
 cases h2 : withinB states.length 1 12
 ·go_enter Tryz.func111,Tryz.ntmps111;go_wp2_with (first | (go_at_call 129;refine (isName_any _ _ hn).mono ?_;rintro e w1 ⟨rfl,hb1⟩;(have hq7:=ru7;(try clear hc hf);obtain ⟨hb,hc,hf,hz⟩:=hq7;(try simp only [zsz7] at hz);(try have hz0:=z07 w w1);(try have hz1:=z17 w w1);(try have hz2:=z27 w w1))) | (go_at_call 107;refine (within_any _ _ _ _).mono ?_;rintro e w1 ⟨rfl,rfl⟩) | (go_at_call 134;refine (HS.out _ cl0).mono ?_;rintro e w1 ⟨rfl,hb1⟩;(have hq7:=ru7;(try clear hc hf);obtain ⟨hb,hc,hf,hz⟩:=hq7;(try simp only [zsz7] at hz);(try have hz0:=z07 w w1);(try have hz1:=z17 w w1);(try have hz2:=z27 w w1))) | (go_at_call 135;refine (HT.out _ _ cl0 (by simp [*])).mono ?_;rintro e w1 ⟨rfl,hb1⟩;(have hq7:=ru7;(try clear hc hf);obtain ⟨hb,hc,hf,hz⟩:=hq7;(try simp only [zsz7] at hz);(try have hz0:=z07 w w1);(try have hz1:=z17 w w1);(try have hz2:=z27 w w1))));go_ret
  exact ⟨ret_bool (by simp [isLifeB,h2]),cl0⟩
 cases h3 : states.all isNm
 ·go_enter Tryz.func111,Tryz.ntmps111;go_wp2_with (first | (go_at_call 129;refine (isName_any _ _ hn).mono ?_;rintro e w1 ⟨rfl,hb1⟩;(have hq7:=ru7;(try clear hc hf);obtain ⟨hb,hc,hf,hz⟩:=hq7;(try simp only [zsz7] at hz);(try have hz0:=z07 w w1);(try have hz1:=z17 w w1);(try have hz2:=z27 w w1))) | (go_at_call 107;refine (within_any _ _ _ _).mono ?_;rintro e w1 ⟨rfl,rfl⟩) | (go_at_call 134;refine (HS.out _ cl0).mono ?_;rintro e w1 ⟨rfl,hb1⟩;(have hq7:=ru7;(try clear hc hf);obtain ⟨hb,hc,hf,hz⟩:=hq7;(try simp only [zsz7] at hz);(try have hz0:=z07 w w1);(try have hz1:=z17 w w1);(try have hz2:=z27 w w1))) | (go_at_call 135;refine (HT.out _ _ cl0 (by simp [*])).mono ?_;rintro e w1 ⟨rfl,hb1⟩;(have hq7:=ru7;(try clear hc hf);obtain ⟨hb,hc,hf,hz⟩:=hq7;(try simp only [zsz7] at hz);(try have hz0:=z07 w w1);(try have hz1:=z17 w w1);(try have hz2:=z27 w w1))));go_ret
  exact ⟨ret_bool (by simp [isLifeB,h3]),cl0⟩
 by_cases h4 : (moves.length : Int) ≤ 32
 ·have HR : Hid (isLifeB ⟨name,states,moves⟩ = moves.all (moveB states.length)):=Lib.hid (by simp [isLifeB,h1,h2,h3];intro;omega)
  go_enter Tryz.func111,Tryz.ntmps111;go_wp2_with (first | (go_at_call 129;refine (isName_any _ _ hn).mono ?_;rintro e w1 ⟨rfl,hb1⟩;(have hq7:=ru7;(try clear hc hf);obtain ⟨hb,hc,hf,hz⟩:=hq7;(try simp only [zsz7] at hz);(try have hz0:=z07 w w1);(try have hz1:=z17 w w1);(try have hz2:=z27 w w1))) | (go_at_call 107;refine (within_any _ _ _ _).mono ?_;rintro e w1 ⟨rfl,rfl⟩) | (go_at_call 134;refine (HS.out _ cl0).mono ?_;rintro e w1 ⟨rfl,hb1⟩;(have hq7:=ru7;(try clear hc hf);obtain ⟨hb,hc,hf,hz⟩:=hq7;(try simp only [zsz7] at hz);(try have hz0:=z07 w w1);(try have hz1:=z17 w w1);(try have hz2:=z27 w w1))) | (go_at_call 135;refine (HT.out _ _ cl0 (by simp [*])).mono ?_;rintro e w1 ⟨rfl,hb1⟩;(have hq7:=ru7;(try clear hc hf);obtain ⟨hb,hc,hf,hz⟩:=hq7;(try simp only [zsz7] at hz);(try have hz0:=z07 w w1);(try have hz1:=z17 w w1);(try have hz2:=z27 w w1))));go_ret
  exact ⟨ret_bool HR.out.symm,cl0⟩
 ·go_enter Tryz.func111,Tryz.ntmps111;go_wp2_with (first | (go_at_call 129;refine (isName_any _ _ hn).mono ?_;rintro e w1 ⟨rfl,hb1⟩;(have hq7:=ru7;(try clear hc hf);obtain ⟨hb,hc,hf,hz⟩:=hq7;(try simp only [zsz7] at hz);(try have hz0:=z07 w w1);(try have hz1:=z17 w w1);(try have hz2:=z27 w w1))) | (go_at_call 107;refine (within_any _ _ _ _).mono ?_;rintro e w1 ⟨rfl,rfl⟩) | (go_at_call 134;refine (HS.out _ cl0).mono ?_;rintro e w1 ⟨rfl,hb1⟩;(have hq7:=ru7;(try clear hc hf);obtain ⟨hb,hc,hf,hz⟩:=hq7;(try simp only [zsz7] at hz);(try have hz0:=z07 w w1);(try have hz1:=z17 w w1);(try have hz2:=z27 w w1))) | (go_at_call 135;refine (HT.out _ _ cl0 (by simp [*])).mono ?_;rintro e w1 ⟨rfl,hb1⟩;(have hq7:=ru7;(try clear hc hf);obtain ⟨hb,hc,hf,hz⟩:=hq7;(try simp only [zsz7] at hz);(try have hz0:=z07 w w1);(try have hz1:=z17 w w1);(try have hz2:=z27 w w1))));go_ret
  exact ⟨ret_bool (by simp [isLifeB];intros;omega),cl0⟩
def beqOf {α : Type} (eq : α → α → Bool) : List α → List α → Bool
 | [],[]=>true
 | x :: xs,y :: ys=>eq x y && beqOf eq xs ys
 | _,_=>false
theorem beqOf_len {α : Type} {eq : α → α → Bool} : ∀ {xs ys : List α},xs.length ≠ ys.length → beqOf eq xs ys = false
 | [],[],h=>absurd rfl h
 | [],_ :: _,_=>rfl
 | _ :: _,[],_=>rfl
 | x :: xs,y :: ys,h=>by simp only [beqOf,beqOf_len (eq:=eq) (xs:=xs) (ys:=ys) (by simpa using h),Bool.and_false]
theorem beqOf_yes {α : Type} {eq : α → α → Bool} : ∀ {xs ys : List α},xs.length = ys.length → (∀ (i : Nat) x y,xs[i]? = some x → ys[i]? = some y → eq x y = true) → beqOf eq xs ys = true
 | [],[],_,_=>rfl
 | [],_ :: _,h,_=>by simp at h
 | _ :: _,[],h,_=>by simp at h
 | x :: xs,y :: ys,h,he=>by
  simp only [beqOf,he 0 x y rfl rfl,Bool.true_and]
  exact beqOf_yes (by simpa using h) (fun i x' y' hx hy=>he (i + 1) x' y' (by simpa using hx) (by simpa using hy))
theorem beqOf_no {α : Type} {eq : α → α → Bool} : ∀ {xs ys : List α} {i : Nat} {x y : α},xs[i]? = some x → ys[i]? = some y → eq x y = false → beqOf eq xs ys = false
 | [],_,i,x,y,hx,_,_=>by simp at hx
 | _ :: _,[],i,x,y,_,hy,_=>by simp at hy
 | a :: xs,b :: ys,0,x,y,hx,hy,he=>by simp at hx hy;subst hx hy;simp [beqOf,he]
 | a :: xs,b :: ys,i + 1,x,y,hx,hy,he=>by
  have:=beqOf_no (xs:=xs) (ys:=ys) (i:=i) (by simpa using hx) (by simpa using hy) he
  simp [beqOf,this]
def ieq (x y : Int) : Bool:=x == y
theorem equal_int {w : World} {F G : Nat → Prop} {xs ys : List Int} {a a' : Option Addr} {c c' : Nat} (hx : RInts w F xs a c) (hy : RInts w G ys a' c') (hl : xs.length ≤ 140737488355328) (hl2 : ys.length ≤ 140737488355328) :
  Calls Tryz.prog 177 #[.slice a xs.length c,.slice a' ys.length c'] w fun e w'=>e = .returned (.bool (beqOf ieq xs ys)) ∧ Ex w w':=by
 by_cases hlen : (xs.length : Int) = ys.length
 ·have he : xs.length = ys.length:=by omega
  have hlen' : ((xs.length : Int) == (ys.length : Int)) = true:=by simp;omega
  have hlen2 : ((xs.length : Int) != (ys.length : Int)) = false:=by simp;omega
  clear hlen
  have HE:=Lib.hid he;clear he hlen'
  go_enter Tryz.func177,Tryz.ntmps177
  go_wp2
  clear hlen2
  go_loopw [13] (fun i wr=>∃ j : Nat,j ≤ xs.length ∧ i = .int .i64 j ∧ Hid (∀ i x y,i < j → xs[i]? = some x → ys[i]? = some y → ieq x y = true) ∧ Ex w wr) (fun i _=>xs.length - (intOf i).toNat)
  case atStart=>exact ⟨0,by omega,rfl,fun i x y h=>by omega,Ex.refl _⟩
  case round=>
   obtain ⟨j,hj,rfl,hno,hex⟩:=hrel
   by_cases hlt : j < xs.length
   ·obtain ⟨x,b,off,hxx,rfl,_,c0,_⟩:=int_cells hx hex.same hlt
    have hlt2 : j < ys.length:=by rw [← HE.out];exact hlt
    obtain ⟨y,b2,off2,hyy,rfl,_,c1,_⟩:=int_cells hy hex.same hlt2
    have i1 : (j : Int) < xs.length:=by omega
    have i2 : (j : Int) < ys.length:=by omega
    cases he : ieq x y with
    | true=>
     have Hi:=Lib.hid (fun i x' y' (hi : i < j + 1) (hx' : xs[i]? = some x') (hy' : ys[i]? = some y')=>show ieq x' y' = true from by
      rcases Nat.lt_or_ge i j with h | h
      ·exact hno.out i x' y' h hx' hy'
      ·obtain rfl : i = j:=by omega
       rw [hxx.out] at hx';rw [hyy.out] at hy';cases hx';cases hy';exact he)
     have e1 : (x != y) = false:=by unfold ieq at he;simp at he;simp [he]
     clear hno he
     go_wp2
     go_quiet (fail)
     go_wp2
     go_roundw
     case rel=>exact ⟨j + 1,by omega,by go_num,Hi,cl0⟩
     case measure=>simp [intOf];omega
    | false=>
     have HR:=Lib.hid (beqOf_no hxx.out hyy.out he)
     have e1 : (x != y) = true:=by unfold ieq at he;simp at he;simp [he]
     clear hno he
     go_wp2
     go_quiet (fail)
     go_wp2
     go_ret
     exact ⟨ret_bool HR.out.symm,cl0⟩
   ·have HR:=Lib.hid (beqOf_yes HE.out (fun i x y h1 h2=>hno.out i x y (by have:=(List.getElem?_eq_some_iff.1 h1).1;omega) h1 h2))
    clear hno
    go_wp2
    go_ret
    exact ⟨ret_bool HR.out.symm,cl0⟩
 ·have HR:=Lib.hid (beqOf_len (eq:=ieq) (xs:=xs) (ys:=ys) (by omega))
  have hlen2 : ((xs.length : Int) != (ys.length : Int)) = true:=by simp;omega
  clear hlen
  go_enter Tryz.func177,Tryz.ntmps177
  go_wp2
  go_ret
  exact ⟨ret_bool HR.out.symm,cl0⟩
theorem equal_str {w : World} {F G : Nat → Prop} {xs ys : List ByteArray} {a a' : Option Addr} {c c' : Nat} (hx : RStrs w F xs a c) (hy : RStrs w G ys a' c') (hl : xs.length ≤ 140737488355328) (hl2 : ys.length ≤ 140737488355328) :
  Calls Tryz.prog 176 #[.slice a xs.length c,.slice a' ys.length c'] w fun e w'=>e = .returned (.bool (beqOf seq xs ys)) ∧ Ex w w':=by
 by_cases hlen : (xs.length : Int) = ys.length
 ·have he : xs.length = ys.length:=by omega
  have hlen' : ((xs.length : Int) == (ys.length : Int)) = true:=by simp;omega
  have hlen2 : ((xs.length : Int) != (ys.length : Int)) = false:=by simp;omega
  clear hlen
  have HE:=Lib.hid he;clear he hlen'
  go_enter Tryz.func176,Tryz.ntmps176
  go_wp2
  clear hlen2
  go_loopw [13] (fun i wr=>∃ j : Nat,j ≤ xs.length ∧ i = .int .i64 j ∧ Hid (∀ i x y,i < j → xs[i]? = some x → ys[i]? = some y → seq x y = true) ∧ Ex w wr) (fun i _=>xs.length - (intOf i).toNat)
  case atStart=>exact ⟨0,by omega,rfl,fun i x y h=>by omega,Ex.refl _⟩
  case round=>
   obtain ⟨j,hj,rfl,hno,hex⟩:=hrel
   by_cases hlt : j < xs.length
   ·obtain ⟨x,b,off,hxx,rfl,_,c0,_⟩:=str_cells hx hex.same hlt
    have hlt2 : j < ys.length:=by rw [← HE.out];exact hlt
    obtain ⟨y,b2,off2,hyy,rfl,_,c1,_⟩:=str_cells hy hex.same hlt2
    have i1 : (j : Int) < xs.length:=by omega
    have i2 : (j : Int) < ys.length:=by omega
    cases he : seq x y with
    | true=>
     have Hi:=Lib.hid (fun i x' y' (hi : i < j + 1) (hx' : xs[i]? = some x') (hy' : ys[i]? = some y')=>show seq x' y' = true from by
      rcases Nat.lt_or_ge i j with h | h
      ·exact hno.out i x' y' h hx' hy'
      ·obtain rfl : i = j:=by omega
       rw [hxx.out] at hx';rw [hyy.out] at hy';cases hx';cases hy';exact he)
     have e1 : (x.toList == y.toList) = true:=he
     clear hno he
     go_wp2
     go_quiet (fail)
     go_wp2
     go_roundw
     case rel=>exact ⟨j + 1,by omega,by go_num,Hi,cl0⟩
     case measure=>simp [intOf];omega
    | false=>
     have HR:=Lib.hid (beqOf_no hxx.out hyy.out he)
     have e1 : (x.toList == y.toList) = false:=he
     clear hno he
     go_wp2
     go_quiet (fail)
     go_wp2
     go_ret
     exact ⟨ret_bool HR.out.symm,cl0⟩
   ·have HR:=Lib.hid (beqOf_yes HE.out (fun i x y h1 h2=>hno.out i x y (by have:=(List.getElem?_eq_some_iff.1 h1).1;omega) h1 h2))
    clear hno
    go_wp2
    go_ret
    exact ⟨ret_bool HR.out.symm,cl0⟩
 ·have HR:=Lib.hid (beqOf_len (eq:=seq) (xs:=xs) (ys:=ys) (by omega))
  have hlen2 : ((xs.length : Int) != (ys.length : Int)) = true:=by simp;omega
  clear hlen
  go_enter Tryz.func176,Tryz.ntmps176
  go_wp2
  go_ret
  exact ⟨ret_bool HR.out.symm,cl0⟩
end
section
open Go.RowKit Go.Shelf
def nos : ByteArray:=⟨#[]⟩
def onlyF (f : Fld) : Fld:=⟨f.name,if usesOf f.kind then f.of else nos,if usesUp f.kind then f.up else nos,f.kind,if usesLo f.kind then f.lo else 0,if usesHi f.kind then f.hi else 0,if usesWd f.kind then f.words else [],if usesWd f.kind then f.weights else []⟩
theorem only_0 (name of up : ByteArray) (lo hi : Int) (wa ga : Option Addr) (nw wc ng gc : Nat) (w : World) :
  Calls Tryz.prog 159 #[.agg #[.string name,.string of,.string up,.int .i64 0,.int .i64 lo,.int .i64 hi,.slice wa nw wc,.slice ga ng gc]] w fun e w'=>e = .returned (.agg #[.string name,.string nos,.string nos,.int .i64 0,.int .i64 lo,.int .i64 0,.slice none 0 0,.slice none 0 0]) ∧ Ex w w':=by
 go_enter Tryz.func159,Tryz.ntmps159
 go_wp2
 all_goals exact bodyPost_ret (v:=.agg #[.string name,.string nos,.string nos,.int .i64 0,.int .i64 lo,.int .i64 0,.slice none 0 0,.slice none 0 0]) (by simp [results,Tryz.results159,go_sem,nos]) rfl ⟨rfl,cl0⟩
theorem only_1 (name of up : ByteArray) (lo hi : Int) (wa ga : Option Addr) (nw wc ng gc : Nat) (w : World) :
  Calls Tryz.prog 159 #[.agg #[.string name,.string of,.string up,.int .i64 1,.int .i64 lo,.int .i64 hi,.slice wa nw wc,.slice ga ng gc]] w fun e w'=>e = .returned (.agg #[.string name,.string of,.string nos,.int .i64 1,.int .i64 lo,.int .i64 hi,.slice none 0 0,.slice none 0 0]) ∧ Ex w w':=by
 go_enter Tryz.func159,Tryz.ntmps159
 go_wp2
 go_region
 all_goals go_wp2
 all_goals exact bodyPost_ret (v:=.agg #[.string name,.string of,.string nos,.int .i64 1,.int .i64 lo,.int .i64 hi,.slice none 0 0,.slice none 0 0]) (by simp [results,Tryz.results159,go_sem,nos]) rfl ⟨rfl,cl0⟩
theorem only_2 (name of up : ByteArray) (lo hi : Int) (wa ga : Option Addr) (nw wc ng gc : Nat) (w : World) :
  Calls Tryz.prog 159 #[.agg #[.string name,.string of,.string up,.int .i64 2,.int .i64 lo,.int .i64 hi,.slice wa nw wc,.slice ga ng gc]] w fun e w'=>e = .returned (.agg #[.string name,.string nos,.string nos,.int .i64 2,.int .i64 lo,.int .i64 hi,.slice none 0 0,.slice none 0 0]) ∧ Ex w w':=by
 go_enter Tryz.func159,Tryz.ntmps159
 go_wp2
 go_region
 all_goals go_wp2
 all_goals exact bodyPost_ret (v:=.agg #[.string name,.string nos,.string nos,.int .i64 2,.int .i64 lo,.int .i64 hi,.slice none 0 0,.slice none 0 0]) (by simp [results,Tryz.results159,go_sem,nos]) rfl ⟨rfl,cl0⟩
theorem only_3 (name of up : ByteArray) (lo hi : Int) (wa ga : Option Addr) (nw wc ng gc : Nat) (w : World) :
  Calls Tryz.prog 159 #[.agg #[.string name,.string of,.string up,.int .i64 3,.int .i64 lo,.int .i64 hi,.slice wa nw wc,.slice ga ng gc]] w fun e w'=>e = .returned (.agg #[.string name,.string nos,.string nos,.int .i64 3,.int .i64 0,.int .i64 0,.slice wa nw wc,.slice ga ng gc]) ∧ Ex w w':=by
 go_enter Tryz.func159,Tryz.ntmps159
 go_wp2
 go_region
 all_goals go_wp2
 all_goals exact bodyPost_ret (v:=.agg #[.string name,.string nos,.string nos,.int .i64 3,.int .i64 0,.int .i64 0,.slice wa nw wc,.slice ga ng gc]) (by simp [results,Tryz.results159,go_sem,nos]) rfl ⟨rfl,cl0⟩
theorem only_4 (name of up : ByteArray) (lo hi : Int) (wa ga : Option Addr) (nw wc ng gc : Nat) (w : World) :
  Calls Tryz.prog 159 #[.agg #[.string name,.string of,.string up,.int .i64 4,.int .i64 lo,.int .i64 hi,.slice wa nw wc,.slice ga ng gc]] w fun e w'=>e = .returned (.agg #[.string name,.string of,.string nos,.int .i64 4,.int .i64 lo,.int .i64 hi,.slice none 0 0,.slice none 0 0]) ∧ Ex w w':=by
 go_enter Tryz.func159,Tryz.ntmps159
 go_wp2
 go_region
 all_goals go_wp2
 all_goals exact bodyPost_ret (v:=.agg #[.string name,.string of,.string nos,.int .i64 4,.int .i64 lo,.int .i64 hi,.slice none 0 0,.slice none 0 0]) (by simp [results,Tryz.results159,go_sem,nos]) rfl ⟨rfl,cl0⟩
theorem only_5 (name of up : ByteArray) (lo hi : Int) (wa ga : Option Addr) (nw wc ng gc : Nat) (w : World) :
  Calls Tryz.prog 159 #[.agg #[.string name,.string of,.string up,.int .i64 5,.int .i64 lo,.int .i64 hi,.slice wa nw wc,.slice ga ng gc]] w fun e w'=>e = .returned (.agg #[.string name,.string of,.string nos,.int .i64 5,.int .i64 lo,.int .i64 hi,.slice none 0 0,.slice none 0 0]) ∧ Ex w w':=by
 go_enter Tryz.func159,Tryz.ntmps159
 go_wp2
 go_region
 all_goals go_wp2
 all_goals exact bodyPost_ret (v:=.agg #[.string name,.string of,.string nos,.int .i64 5,.int .i64 lo,.int .i64 hi,.slice none 0 0,.slice none 0 0]) (by simp [results,Tryz.results159,go_sem,nos]) rfl ⟨rfl,cl0⟩
theorem only_6 (name of up : ByteArray) (lo hi : Int) (wa ga : Option Addr) (nw wc ng gc : Nat) (w : World) :
  Calls Tryz.prog 159 #[.agg #[.string name,.string of,.string up,.int .i64 6,.int .i64 lo,.int .i64 hi,.slice wa nw wc,.slice ga ng gc]] w fun e w'=>e = .returned (.agg #[.string name,.string of,.string nos,.int .i64 6,.int .i64 0,.int .i64 0,.slice none 0 0,.slice none 0 0]) ∧ Ex w w':=by
 go_enter Tryz.func159,Tryz.ntmps159
 go_wp2
 all_goals exact bodyPost_ret (v:=.agg #[.string name,.string of,.string nos,.int .i64 6,.int .i64 0,.int .i64 0,.slice none 0 0,.slice none 0 0]) (by simp [results,Tryz.results159,go_sem,nos]) rfl ⟨rfl,cl0⟩
theorem only_7 (name of up : ByteArray) (lo hi : Int) (wa ga : Option Addr) (nw wc ng gc : Nat) (w : World) :
  Calls Tryz.prog 159 #[.agg #[.string name,.string of,.string up,.int .i64 7,.int .i64 lo,.int .i64 hi,.slice wa nw wc,.slice ga ng gc]] w fun e w'=>e = .returned (.agg #[.string name,.string of,.string up,.int .i64 7,.int .i64 lo,.int .i64 hi,.slice none 0 0,.slice none 0 0]) ∧ Ex w w':=by
 go_enter Tryz.func159,Tryz.ntmps159
 go_wp2
 go_region
 all_goals go_wp2
 all_goals exact bodyPost_ret (v:=.agg #[.string name,.string of,.string up,.int .i64 7,.int .i64 lo,.int .i64 hi,.slice none 0 0,.slice none 0 0]) (by simp [results,Tryz.results159,go_sem,nos]) rfl ⟨rfl,cl0⟩
theorem only_8 (name of up : ByteArray) (lo hi : Int) (wa ga : Option Addr) (nw wc ng gc : Nat) (w : World) :
  Calls Tryz.prog 159 #[.agg #[.string name,.string of,.string up,.int .i64 8,.int .i64 lo,.int .i64 hi,.slice wa nw wc,.slice ga ng gc]] w fun e w'=>e = .returned (.agg #[.string name,.string of,.string up,.int .i64 8,.int .i64 0,.int .i64 0,.slice none 0 0,.slice none 0 0]) ∧ Ex w w':=by
 go_enter Tryz.func159,Tryz.ntmps159
 go_wp2
 go_region
 all_goals go_wp2
 all_goals exact bodyPost_ret (v:=.agg #[.string name,.string of,.string up,.int .i64 8,.int .i64 0,.int .i64 0,.slice none 0 0,.slice none 0 0]) (by simp [results,Tryz.results159,go_sem,nos]) rfl ⟨rfl,cl0⟩
theorem only_no (name of up : ByteArray) (k : Int) (h0 : (k == 0) = false) (h1 : (k == 1) = false) (h2 : (k == 2) = false) (h3 : (k == 3) = false) (h4 : (k == 4) = false) (h5 : (k == 5) = false) (h6 : (k == 6) = false) (h7 : (k == 7) = false) (h8 : (k == 8) = false) (lo hi : Int) (wa ga : Option Addr) (nw wc ng gc : Nat) (w : World) :
  Calls Tryz.prog 159 #[.agg #[.string name,.string of,.string up,.int .i64 k,.int .i64 lo,.int .i64 hi,.slice wa nw wc,.slice ga ng gc]] w fun e w'=>e = .returned (.agg #[.string name,.string nos,.string nos,.int .i64 k,.int .i64 0,.int .i64 0,.slice none 0 0,.slice none 0 0]) ∧ Ex w w':=by
 go_enter Tryz.func159,Tryz.ntmps159
 go_wp2
 all_goals exact bodyPost_ret (v:=.agg #[.string name,.string nos,.string nos,.int .i64 k,.int .i64 0,.int .i64 0,.slice none 0 0,.slice none 0 0]) (by simp [results,Tryz.results159,go_sem,nos]) rfl ⟨rfl,cl0⟩
def sameB (f g : Fld) : Bool:=seq f.name g.name && (seq f.of g.of && (seq f.up g.up && (f.kind == g.kind && (f.lo == g.lo && (f.hi == g.hi && (beqOf seq f.words g.words && beqOf ieq f.weights g.weights))))))
theorem same_any (f g : Fld) (w : World) {F G : Nat → Prop} {wa ga wa' ga' : Option Addr} {wc gc wc' gc' : Nat} (hw : RStrs w F f.words wa wc) (hg : RInts w F f.weights ga gc) (hw' : RStrs w G g.words wa' wc') (hg' : RInts w G g.weights ga' gc')
  (l1 : f.words.length ≤ 1000000) (l2 : f.weights.length ≤ 1000000) (l3 : g.words.length ≤ 1000000) (l4 : g.weights.length ≤ 1000000) :
  Calls Tryz.prog 158 #[.agg #[.string f.name,.string f.of,.string f.up,.int .i64 f.kind,.int .i64 f.lo,.int .i64 f.hi,.slice wa f.words.length wc,.slice ga f.weights.length gc],
   .agg #[.string g.name,.string g.of,.string g.up,.int .i64 g.kind,.int .i64 g.lo,.int .i64 g.hi,.slice wa' g.words.length wc',.slice ga' g.weights.length gc']] w fun e w'=>e = .returned (.bool (sameB f g)) ∧ Ex w w':=by
 have HS:=Lib.hid (fun (w' : World) (he : Ex w w')=>equal_str (hw.keep (w':=w') he.same (fun _ h=>h) (fun _ _ _ h=>h)) (hw'.keep (w':=w') he.same (fun _ h=>h) (fun _ _ _ h=>h)) (by omega) (by omega))
 have HI:=Lib.hid (fun (w' : World) (he : Ex w w')=>equal_int (hg.keep (w':=w') he.same (fun _ h=>h) (fun _ _ _ h=>h)) (hg'.keep (w':=w') he.same (fun _ h=>h) (fun _ _ _ h=>h)) (by omega) (by omega))
 clear hw hg hw' hg' l1 l2 l3 l4
 obtain ⟨n1,o1,u1,k1,lo1,hi1,ws1,gs1⟩:=f
 obtain ⟨n2,o2,u2,k2,lo2,hi2,ws2,gs2⟩:=g
 simp only at *
 cases h1 : (n1.toList == n2.toList)
 ·go_enter Tryz.func158,Tryz.ntmps158;go_wp2_with (first | (go_at_call 176;refine (HS.out _ cl0).mono ?_;rintro e w1 ⟨rfl,hb1⟩;(have hq7:=ru7;(try clear hc hf);obtain ⟨hb,hc,hf,hz⟩:=hq7;(try simp only [zsz7] at hz);(try have hz0:=z07 w w1);(try have hz1:=z17 w w1);(try have hz2:=z27 w w1))) | (go_at_call 177;refine (HI.out _ cl0).mono ?_;rintro e w1 ⟨rfl,hb1⟩;(have hq7:=ru7;(try clear hc hf);obtain ⟨hb,hc,hf,hz⟩:=hq7;(try simp only [zsz7] at hz);(try have hz0:=z07 w w1);(try have hz1:=z17 w w1);(try have hz2:=z27 w w1))));go_ret
  exact ⟨ret_bool (by simp only [sameB,seq,h1,Bool.false_and]),cl0⟩
 cases h2 : (o1.toList == o2.toList)
 ·go_enter Tryz.func158,Tryz.ntmps158;go_wp2_with (first | (go_at_call 176;refine (HS.out _ cl0).mono ?_;rintro e w1 ⟨rfl,hb1⟩;(have hq7:=ru7;(try clear hc hf);obtain ⟨hb,hc,hf,hz⟩:=hq7;(try simp only [zsz7] at hz);(try have hz0:=z07 w w1);(try have hz1:=z17 w w1);(try have hz2:=z27 w w1))) | (go_at_call 177;refine (HI.out _ cl0).mono ?_;rintro e w1 ⟨rfl,hb1⟩;(have hq7:=ru7;(try clear hc hf);obtain ⟨hb,hc,hf,hz⟩:=hq7;(try simp only [zsz7] at hz);(try have hz0:=z07 w w1);(try have hz1:=z17 w w1);(try have hz2:=z27 w w1))));go_ret
  exact ⟨ret_bool (by simp only [sameB,seq,h1,h2,Bool.false_and,Bool.true_and]),cl0⟩
 cases h3 : (u1.toList == u2.toList)
 ·go_enter Tryz.func158,Tryz.ntmps158;go_wp2_with (first | (go_at_call 176;refine (HS.out _ cl0).mono ?_;rintro e w1 ⟨rfl,hb1⟩;(have hq7:=ru7;(try clear hc hf);obtain ⟨hb,hc,hf,hz⟩:=hq7;(try simp only [zsz7] at hz);(try have hz0:=z07 w w1);(try have hz1:=z17 w w1);(try have hz2:=z27 w w1))) | (go_at_call 177;refine (HI.out _ cl0).mono ?_;rintro e w1 ⟨rfl,hb1⟩;(have hq7:=ru7;(try clear hc hf);obtain ⟨hb,hc,hf,hz⟩:=hq7;(try simp only [zsz7] at hz);(try have hz0:=z07 w w1);(try have hz1:=z17 w w1);(try have hz2:=z27 w w1))));go_ret
  exact ⟨ret_bool (by simp only [sameB,seq,h1,h2,h3,Bool.false_and,Bool.true_and]),cl0⟩
 cases h4 : (k1 == k2)
 ·go_enter Tryz.func158,Tryz.ntmps158;go_wp2_with (first | (go_at_call 176;refine (HS.out _ cl0).mono ?_;rintro e w1 ⟨rfl,hb1⟩;(have hq7:=ru7;(try clear hc hf);obtain ⟨hb,hc,hf,hz⟩:=hq7;(try simp only [zsz7] at hz);(try have hz0:=z07 w w1);(try have hz1:=z17 w w1);(try have hz2:=z27 w w1))) | (go_at_call 177;refine (HI.out _ cl0).mono ?_;rintro e w1 ⟨rfl,hb1⟩;(have hq7:=ru7;(try clear hc hf);obtain ⟨hb,hc,hf,hz⟩:=hq7;(try simp only [zsz7] at hz);(try have hz0:=z07 w w1);(try have hz1:=z17 w w1);(try have hz2:=z27 w w1))));go_ret
  exact ⟨ret_bool (by simp only [sameB,seq,h1,h2,h3,h4,Bool.false_and,Bool.true_and]),cl0⟩
 cases h5 : (lo1 == lo2)
 ·go_enter Tryz.func158,Tryz.ntmps158;go_wp2_with (first | (go_at_call 176;refine (HS.out _ cl0).mono ?_;rintro e w1 ⟨rfl,hb1⟩;(have hq7:=ru7;(try clear hc hf);obtain ⟨hb,hc,hf,hz⟩:=hq7;(try simp only [zsz7] at hz);(try have hz0:=z07 w w1);(try have hz1:=z17 w w1);(try have hz2:=z27 w w1))) | (go_at_call 177;refine (HI.out _ cl0).mono ?_;rintro e w1 ⟨rfl,hb1⟩;(have hq7:=ru7;(try clear hc hf);obtain ⟨hb,hc,hf,hz⟩:=hq7;(try simp only [zsz7] at hz);(try have hz0:=z07 w w1);(try have hz1:=z17 w w1);(try have hz2:=z27 w w1))));go_ret
  exact ⟨ret_bool (by simp only [sameB,seq,h1,h2,h3,h4,h5,Bool.false_and,Bool.true_and]),cl0⟩
 cases h6 : (hi1 == hi2)
 ·go_enter Tryz.func158,Tryz.ntmps158;go_wp2_with (first | (go_at_call 176;refine (HS.out _ cl0).mono ?_;rintro e w1 ⟨rfl,hb1⟩;(have hq7:=ru7;(try clear hc hf);obtain ⟨hb,hc,hf,hz⟩:=hq7;(try simp only [zsz7] at hz);(try have hz0:=z07 w w1);(try have hz1:=z17 w w1);(try have hz2:=z27 w w1))) | (go_at_call 177;refine (HI.out _ cl0).mono ?_;rintro e w1 ⟨rfl,hb1⟩;(have hq7:=ru7;(try clear hc hf);obtain ⟨hb,hc,hf,hz⟩:=hq7;(try simp only [zsz7] at hz);(try have hz0:=z07 w w1);(try have hz1:=z17 w w1);(try have hz2:=z27 w w1))));go_ret
  exact ⟨ret_bool (by simp only [sameB,seq,h1,h2,h3,h4,h5,h6,Bool.false_and,Bool.true_and]),cl0⟩
 cases h7 : beqOf seq ws1 ws2
 ·go_enter Tryz.func158,Tryz.ntmps158;go_wp2_with (first | (go_at_call 176;refine (HS.out _ cl0).mono ?_;rintro e w1 ⟨rfl,hb1⟩;(have hq7:=ru7;(try clear hc hf);obtain ⟨hb,hc,hf,hz⟩:=hq7;(try simp only [zsz7] at hz);(try have hz0:=z07 w w1);(try have hz1:=z17 w w1);(try have hz2:=z27 w w1))) | (go_at_call 177;refine (HI.out _ cl0).mono ?_;rintro e w1 ⟨rfl,hb1⟩;(have hq7:=ru7;(try clear hc hf);obtain ⟨hb,hc,hf,hz⟩:=hq7;(try simp only [zsz7] at hz);(try have hz0:=z07 w w1);(try have hz1:=z17 w w1);(try have hz2:=z27 w w1))));go_ret
  exact ⟨ret_bool (by simp only [sameB,h7,Bool.false_and,Bool.and_false]),cl0⟩
 ·have HR : Hid (sameB ⟨n1,o1,u1,k1,lo1,hi1,ws1,gs1⟩ ⟨n2,o2,u2,k2,lo2,hi2,ws2,gs2⟩ = beqOf ieq gs1 gs2):=Lib.hid (by simp only [sameB,seq,h1,h2,h3,h4,h5,h6,Bool.true_and];simp only [show beqOf (fun a b : ByteArray=>a.toList == b.toList) ws1 ws2 = true from h7,show beqOf seq ws1 ws2 = true from h7,Bool.true_and])
  go_enter Tryz.func158,Tryz.ntmps158;go_wp2_with (first | (go_at_call 176;refine (HS.out _ cl0).mono ?_;rintro e w1 ⟨rfl,hb1⟩;(have hq7:=ru7;(try clear hc hf);obtain ⟨hb,hc,hf,hz⟩:=hq7;(try simp only [zsz7] at hz);(try have hz0:=z07 w w1);(try have hz1:=z17 w w1);(try have hz2:=z27 w w1))) | (go_at_call 177;refine (HI.out _ cl0).mono ?_;rintro e w1 ⟨rfl,hb1⟩;(have hq7:=ru7;(try clear hc hf);obtain ⟨hb,hc,hf,hz⟩:=hq7;(try simp only [zsz7] at hz);(try have hz0:=z07 w w1);(try have hz1:=z17 w w1);(try have hz2:=z27 w w1))));go_ret
  exact ⟨ret_bool HR.out.symm,cl0⟩
end
end Go.Proofs.YtjbbmjjildhfbaaGreatDoor
