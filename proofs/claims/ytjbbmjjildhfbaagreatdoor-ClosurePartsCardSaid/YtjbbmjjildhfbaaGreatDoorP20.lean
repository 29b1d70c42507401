/- A part of the proof: SchemaB SrcD SchemaC SchemaD SchemaE. -/
import Derived.Test.YtjbbmjjildhfbaaGreatDoorP19
import Derived.Deep.QuietTactic
import Derived.BigQuiet
import Derived.RegionTactic
import Derived.BigRegion
import Derived.Deep.RegionWith
set_option maxRecDepth 100000
set_option maxHeartbeats 4000000
set_option linter.unusedVariables false
set_option linter.unusedSimpArgs false
namespace Go.Proofs.YtjbbmjjildhfbaaGreatDoor
section
open Go.RowKit Go.Shelf
theorem aE6 {w w':World} {F:Nat→Prop} {xs:List Int} {a:Option Addr} {cap:Nat} (h:RInts w F xs a cap) (hex:Same F w w') {i:Nat} (hi:i<xs.length) :
  ∃ x b off,Hid (xs[i]?=some x)∧a=some ⟨b,off,none⟩∧F b∧w'.cell? ⟨b,off+i,none⟩=some (.int .i64 x)∧I64 x:=by
 obtain ⟨b,off,ha,hb,vs,hl,⟨rfl,hx⟩,hc⟩:=h.at_ i xs[i] (List.getElem?_eq_getElem hi)
 exact ⟨xs[i],b,off,Lib.hid (List.getElem?_eq_getElem hi),ha,hb,hex.cell (p:=⟨b,off+i,none⟩) (by have:=hc 0 _ rfl;simpa using this) hb,hx⟩
theorem aO4 (w:World) (l:List ByteArray) (hl:∀ s,s∈l→s.size≤9223372036854775807):Asks Tryz.prog 129 #[] w ar6 RStr l isNm:=by
 refine ⟨enters_of Tryz.func129 (by kernel_rfl) rfl,fun s vs W hm hr hW=>?_⟩
 cases hr
 exact ab7 s W (hl s hm)
theorem aV4 (gs:List Int) (j:Nat) (x:Int) (h:gs[j]?=some x):(gs.take (j+1)).sum=(gs.take j).sum+x:=by
 rw [List.take_add_one,h];simp [List.sum_append]
theorem all_upto {α:Type} {p:α→Bool} {xs:List α} {j:Nat} (h:∀ i y,i<j→xs[i]?=some y→p y=true) (hj:xs.length≤j):xs.all p=true:=by
 rw [List.all_eq_true];intro x hx
 obtain ⟨i,hi⟩:=List.getElem?_of_mem hx
 exact h i x (by have:=(List.getElem?_eq_some_iff.1 hi).1;omega) hi
theorem all_no {α:Type} {p:α→Bool} {xs:List α} {j:Nat} {x:α} (hx:xs[j]?=some x) (hp:p x=false):xs.all p=false:=by
 rw [List.all_eq_false];exact ⟨x,List.mem_of_getElem? hx,by simp [hp]⟩
theorem all_more {α:Type} {xs:List α} {p:α→Bool} {j:Nat} {x:α} (hno:∀ i y,i<j→xs[i]?=some y→p y=true) (hx:xs[j]?=some x) (hp:p x=true) :
  ∀ i y,i<j+1→xs[i]?=some y→p y=true:=fun i y hi hy=>by
 rcases Nat.lt_or_ge i j with h|h
 ·exact hno i y h hy
 ·obtain rfl:i=j:=by omega
  rw [hx] at hy;cases hy;exact hp
theorem isPick_any (ws:List ByteArray) (gs:List Int) (w:World) {F:Nat→Prop} {wa ga:Option Addr} {wc gc:Nat} (hw:aw9 w F ws wa wc) (hg:RInts w F gs ga gc)
  (hl:∀ s,s∈ws→s.size≤9223372036854775807) (hgl:gs.length≤1000000) (hwl:ws.length≤1000000) :
  Calls Tryz.prog 160 #[.slice wa ws.length wc,.slice ga gs.length gc] w fun e w'=>e = .returned (.bool (af1 ws gs))∧Ex w w':=by
 have HA:=Lib.hid (fun (w':World) (hx:Ex w w')=>all_str (hw.keep (w':=w') hx.same (fun _ h=>h) (fun _ _ _ h=>h)) (by omega) (aO4 w' ws hl))
 go_enter Tryz.func160,Tryz.ntmps160
 go_wp2
 go_loop [5,10] (fun s i=>∃ j:Nat,j≤gs.length∧i = .int .i64 j∧Hid (∀ i y,i<j→gs[i]?=some y→ab5 y 0 1048576=true)∧∃ t:Int,Hid (t=(gs.take j).sum)∧0≤t∧t≤j*1048576∧s = .int .i64 t) (fun _ i=>gs.length - (intOf i).toNat)
 case atStart=>exact ⟨0,by omega,rfl,fun i y h=>by omega,0,by simp [Hid],by omega,by omega,rfl⟩
 case round=>
  obtain ⟨j,hj,rfl,hno,t,ht,ht0,ht1,rfl⟩:=hrel
  by_cases hlt:j<gs.length
  ·obtain ⟨x,b,off,hx,rfl,_,c0,hx1,hx2⟩:=aE6 hg (Ex.refl w).same hlt
   cases hp:ab5 x 0 1048576 with
   | true=>
    have h0:0≤x:=by simp [ab5] at hp;omega
    have h1:x≤1048576:=by simp [ab5] at hp;omega
    have Hi:=Lib.hid (all_more (p:=fun n=>ab5 n 0 1048576) hno.out hx.out hp);clear hno
    have Ht:=Lib.hid (aV4 gs j x hx.out)
    go_wp2_with (go_at_call 107;refine (ab1 _ _ _ _).mono ?_;rintro e w' ⟨rfl,rfl⟩)
    go_round
    case rel=>exact ⟨j+1,by omega,by go_num,Hi,t+x,by unfold Hid;rw [Ht.out,ht.out],by omega,by push_cast;omega,rfl⟩
    case measure=>simp [intOf];omega
   | false=>
    have Hr:Hid (af1 ws gs=false):=Lib.hid (by simp only [af1,all_no (p:=fun n=>ab5 n 0 1048576) hx.out hp,Bool.false_and])
    go_wp2_with (go_at_call 107;refine (ab1 _ _ _ _).mono ?_;rintro e w' ⟨rfl,rfl⟩)
    go_ret
    exact ⟨aa8 Hr.out.symm,Ex.refl _⟩
  ·have hall:(gs.all fun n=>ab5 n 0 1048576)=true:=all_upto (p:=fun n=>ab5 n 0 1048576) hno.out (by omega)
   have hsum:t=gs.sum:=by rw [ht.out,List.take_of_length_le (by omega)]
   cases h1:ab5 ws.length 1 12 with
   | false=>
    have Hr:Hid (af1 ws gs=false):=Lib.hid (by simp only [af1,h1,Bool.false_and,Bool.and_false])
    clear hall hsum
    go_wp2_with (go_at_call 107;refine (ab1 _ _ _ _).mono ?_;rintro e w' ⟨rfl,rfl⟩)
    go_ret
    exact ⟨aa8 Hr.out.symm,Ex.refl _⟩
   | true=>
    cases h2:decide (ws.length=gs.length) with
    | false=>
     have Hr:Hid (af1 ws gs=false):=Lib.hid (by simp only [af1,h2,Bool.false_and,Bool.and_false])
     have h2':((ws.length:Int) == (gs.length:Int))=false:=by simp at h2 ⊢;omega
     clear hall hsum h2
     go_wp2_with (go_at_call 107;refine (ab1 _ _ _ _).mono ?_;rintro e w' ⟨rfl,rfl⟩)
     go_ret
     exact ⟨aa8 Hr.out.symm,Ex.refl _⟩
    | true=>
     have h2':((ws.length:Int) == (gs.length:Int))=true:=by simp at h2 ⊢;omega
     by_cases h3:0<t
     ·have Hr:Hid (af1 ws gs=ws.all isNm):=Lib.hid (by rw [hsum] at h3;simp only [af1,hall,h1,h2,Bool.true_and,decide_eq_true h3])
      clear hall hsum h2
      go_wp2_with (first|(go_at_call 107;refine (ab1 _ _ _ _).mono ?_;rintro e w' ⟨rfl,rfl⟩)|(go_at_call 134;refine (HA.out _ (Ex.refl _)).mono ?_;rintro e w' ⟨rfl,hb⟩))
      go_ret
      exact ⟨aa8 Hr.out.symm,hb⟩
     ·have Hr:Hid (af1 ws gs=false):=Lib.hid (by rw [hsum] at h3;simp only [af1,decide_eq_false h3,Bool.false_and,Bool.and_false])
      clear hall hsum h2
      go_wp2_with (go_at_call 107;refine (ab1 _ _ _ _).mono ?_;rintro e w' ⟨rfl,rfl⟩)
      go_ret
      exact ⟨aa8 Hr.out.symm,Ex.refl _⟩
theorem cl19 {p:Prop} (h:p:=by first|exact hr1|exact hr2|exact hr3|exact hr4):p:=h
theorem isRule_any (r:Rul) (w:World) (hs:SmR r) :
  Calls Tryz.prog 113 #[.agg #[.string r.name,.string r.kind,.string r.a,.string r.b,.int .i64 r.n]] w fun e w'=>e = .returned (.bool (aq9 r))∧Ex w w':=by
 have hr1:=hs.name.le
 have hr2:=hs.kind.le
 have hr3:=hs.a.le
 have hr4:=hs.b.le
 have hab:r.a.size+r.b.size≤9223372036854775807:=by have:=hs.a;have:=hs.b;unfold SmS at *;omega
 clear hs
 obtain ⟨rname,rkind,ra,rb,rn⟩:=r
 simp only at *
 cases h1:isNm rname
 ·go_enter Tryz.func113,Tryz.ntmps113
  go_wp2_with (first|(go_at_call 129;refine (ab7 _ _ cl19).mono ?_;rintro e w1 ⟨rfl,hb1⟩;(have hq7:=ru7;(try clear hc hf);obtain ⟨hb,hc,hf,hz⟩:=hq7;(try simp only [zsz7] at hz);(try have hz0:=z07 w w1);(try have hz1:=z17 w w1);(try have hz2:=z27 w w1)))|(go_at_call 107;refine (ab1 _ _ _ _).mono ?_;rintro e w' ⟨rfl,rfl⟩))
  go_ret
  exact ⟨aa8 (by simp [aq9,h1]),cl0⟩
 cases h2:isNm rkind
 ·go_enter Tryz.func113,Tryz.ntmps113
  go_wp2_with (first|(go_at_call 129;refine (ab7 _ _ cl19).mono ?_;rintro e w1 ⟨rfl,hb1⟩;(have hq7:=ru7;(try clear hc hf);obtain ⟨hb,hc,hf,hz⟩:=hq7;(try simp only [zsz7] at hz);(try have hz0:=z07 w w1);(try have hz1:=z17 w w1);(try have hz2:=z27 w w1)))|(go_at_call 107;refine (ab1 _ _ _ _).mono ?_;rintro e w' ⟨rfl,rfl⟩))
  go_ret
  exact ⟨aa8 (by simp [aq9,h2]),cl0⟩
 cases h3:ra.toList.isEmpty
 all_goals cases h3a:isNm ra
 all_goals cases h4:rb.toList.isEmpty
 all_goals cases h4a:isNm rb
 all_goals
  have h5:=isE_append ra rb
  simp only [isE,h3,h4,Bool.and_self,Bool.and_false,Bool.false_and] at h5
  go_enter Tryz.func113,Tryz.ntmps113
  go_wp2_with (first|(go_at_call 129;refine (ab7 _ _ cl19).mono ?_;rintro e w1 ⟨rfl,hb1⟩;(have hq7:=ru7;(try clear hc hf);obtain ⟨hb,hc,hf,hz⟩:=hq7;(try simp only [zsz7] at hz);(try have hz0:=z07 w w1);(try have hz1:=z17 w w1);(try have hz2:=z27 w w1)))|(go_at_call 107;refine (ab1 _ _ _ _).mono ?_;rintro e w' ⟨rfl,rfl⟩))
  go_ret
  exact ⟨aa8 (by simp [aq9,isE,h1,h2,h3,h4,h3a,h4a]),cl0⟩
end
section
open Go.RowKit Go.Shelf
def af0:List ByteArray→List Int→List (Int ⊕ ByteArray)
 | s :: ws,n :: gs=>.inr s :: .inl n :: af0 ws gs
 | _,_=>[]
theorem aH6:∀ (ws:List ByteArray) (gs:List Int) (j:Nat) (s:ByteArray) (n:Int),ws[j]?=some s→gs[j]?=some n→af0 (ws.take (j+1)) (gs.take (j+1))=af0 (ws.take j) (gs.take j) ++ [.inr s,.inl n]
 | [],_,j,s,n,h,_=>by simp at h
 | _ :: _,[],j,s,n,_,h=>by simp at h
 | a :: ws,b :: gs,0,s,n,h,h'=>by simp at h h';subst h h';simp [af0]
 | a :: ws,b :: gs,j+1,s,n,h,h'=>by
  have:=aH6 ws gs j s n (by simpa using h) (by simpa using h')
  simp [af0,this]
theorem aA7:∀ (ws:List ByteArray) (gs:List Int),ws.length=gs.length→(af0 ws gs).length=2*ws.length
 | [],_,_=>by simp [af0]
 | _ :: _,[],h=>by simp at h
 | a :: ws,b :: gs,h=>by simp [af0,aA7 ws gs (by simpa using h)];omega
theorem bd7:∀ (ws:List ByteArray) (gs:List Int),ws.length=gs.length→ab9 (af0 ws gs)=(ws.map fun s=>1+s.size).sum+(gs.map fun n=>1+intB n).sum
 | [],[],_=>by simp [af0,ab9]
 | [],_ :: _,h=>by simp at h
 | _ :: _,[],h=>by simp at h
 | a :: ws,b :: gs,h=>by
  have:=bd7 ws gs (by simpa using h)
  simp only [ab9,af0,List.map_cons,List.sum_cons,ar7] at *;omega
theorem aN0:∀ (ws:List ByteArray) (gs:List Int),(∀ n,n∈gs→I64 n)→∀ n,Sum.inl n∈af0 ws gs→I64 n
 | [],_,_,n,h=>by simp [af0] at h
 | _ :: _,[],_,n,h=>by simp [af0] at h
 | a :: ws,b :: gs,hg,n,h=>by
  simp only [af0,List.mem_cons] at h
  rcases h with h|h|h
  ·cases h
  ·cases h;exact hg _ (List.mem_cons_self ..)
  ·exact aN0 ws gs (fun m hm=>hg m (List.mem_cons_of_mem _ hm)) n h
theorem aU4 (l:List (Int ⊕ ByteArray)):cellsOf (fun x=>[anyV x]) l=l.map anyV:=by
 induction l with
 | nil=>rfl
 | cons x l ih=>simp only [cellsOf,List.flatMap_cons,List.map_cons] at *;rw [ih];rfl
theorem infoAny:(Tryz.prog.info? 20).map (fun i=>(i.zero,i.size,i.bytes))=some (some .nilIface,1,16):=by kernel_rfl
theorem RInts.i64 {w:World} {F:Nat→Prop} {xs:List Int} {a:Option Addr} {c:Nat} (h:RInts w F xs a c):∀ n,n∈xs→I64 n:=fun n hn=>by
 obtain ⟨i,hi⟩:=List.getElem?_of_mem hn
 obtain ⟨b,off,_,_,vs,_,⟨_,hx⟩,_⟩:=h.at_ i n hi
 exact hx
theorem two_new (w:World) (x y:Value) (t:TypeId):∀ j u,[x,y][j]?=some u→(w.alloc (.cells #[x,y] t)).cell? ((⟨w.heap.size,0,none⟩:Addr).add j)=some u:=by
 intro j u hj
 match j,hj with
 | 0,hj=>simp at hj;subst hj;simp [Addr.add]
 | 1,hj=>simp at hj;subst hj;simp [Addr.add]
theorem two_one (a b:Int ⊕ ByteArray):∀ u∈[anyV a,anyV b],u.oneCell'=true:=by
 cases a <;> cases b <;> simp [anyV,Value.oneCell']
def af5 (n:ByteArray) (ws:List ByteArray) (gs:List Int) (j:Nat):List (Int ⊕ ByteArray):=Sum.inr n :: Sum.inl (ws.length:Int) :: af0 (ws.take j) (gs.take j)
theorem aI9 (n:ByteArray) (ws:List ByteArray) (gs:List Int) (j:Nat) (h:ws.length=gs.length) (hj:j≤ws.length):(af5 n ws gs j).length=2+2*j:=by
 simp only [af5,List.length_cons];rw [aA7 _ _ (by simp [h])];simp;omega
theorem aQ5 (n:ByteArray) (ws:List ByteArray) (gs:List Int) (j:Nat) (s:ByteArray) (g:Int) (h:ws[j]?=some s) (h':gs[j]?=some g):af5 n ws gs (j+1)=af5 n ws gs j ++ [.inr s,.inl g]:=by
 simp only [af5,aH6 ws gs j s g h h',List.cons_append]
theorem field_3 (n o u:ByteArray) (lo hi:Int) (ws:List ByteArray) (gs:List Int) (w:World) {F:Nat→Prop} (wa ga:Option Addr) (cw cg:Nat) (hws:aw9 w F ws wa cw) (hgs:RInts w F gs ga cg) (hlen:ws.length=gs.length) (hl:ws.length≤1000) (hr1:n.size≤1000000)
  (hb:ab9 (af0 ws gs)≤1000000) (hp:Pow10 w) (hwd:WordsAt w) :
  Calls Tryz.prog 140 #[.agg #[.string n,.string o,.string u,.int .i64 3,.int .i64 lo,.int .i64 hi,.slice wa ws.length cw,.slice ga gs.length cg]] w
   fun e w'=>∃ s:ByteArray,e = .returned (.string s)∧s.size≤7+n.size+intB ws.length+ab9 (af0 ws gs)∧Ex w w':=by
 have c0:=hwd 3 _ rfl
 have lB:1<w.heap.size:=World.block_lt_of_cell? _ _ c0
 obtain ⟨i0,hiA,hzA,hz1,hz2⟩:=info_parts infoAny
 have HE:=Lib.hid hlen
 have HBB:=Lib.hid hb
 clear hlen hb
 go_enter Tryz.func140,Tryz.ntmps140
 go_wp2
 go_loopw [4,51] (fun s4 i wr=>∃ (j:Nat),j≤ws.length∧i = .int .i64 j∧Ex (w.alloc (.cells #[.string n,.string o,.string u,.int .i64 3,.int .i64 lo,.int .i64 hi,.slice wa ws.length cw,.slice ga gs.length cg] 111)) wr ∧
  Hid (wr.ownsRow (w.heap.size+1) 20 1 s4 (2+2*j) ((af5 n ws gs j).map anyV))) (fun _ i _=>ws.length - (intOf i).toNat)
 case atStart=>
  refine ⟨0,by omega,rfl,cl0,?_⟩
  have:=World.ownsRow_lit (base:=w.heap.size+1) (e:=20) (size:=1) (w.alloc (.cells #[.string n,.string o,.string u,.int .i64 3,.int .i64 lo,.int .i64 hi,.slice wa ws.length cw,.slice ga gs.length cg] 111)) #[anyV (.inr n),anyV (.inl ws.length)] 2 (by simp) (by decide) rfl
  simpa [af5,af0,Hid,anyV] using this
 case round=>
  obtain ⟨j,hj,rfl,hex,hown⟩:=hrel
  obtain ⟨hc,hf⟩:=hex.rules
  have hz:=hex.size
  simp only [World.size_alloc] at hz
  have hz0:w.heap.size<wr.heap.size:=by omega
  have hexw:=((Ex.refl w).alloc (o:=.cells #[.string n,.string o,.string u,.int .i64 3,.int .i64 lo,.int .i64 hi,.slice wa ws.length cw,.slice ga gs.length cg] 111)).trans hex
  obtain ⟨a4,cap4,rfl⟩:=az3 hown.out
  by_cases hlt:j<ws.length
  ·obtain ⟨s,b,off,hs,rfl,_,c1,_⟩:=au2 hws hexw.same hlt
   have hlt2:j<gs.length:=by rw [← HE.out];exact hlt
   obtain ⟨g,b2,off2,hg,rfl,_,c2,hgi⟩:=aE6 hgs hexw.same hlt2
   have hs1:b<wr.heap.size:=World.block_lt_of_cell? _ _ c1
   have hs2:b2<wr.heap.size:=World.block_lt_of_cell? _ _ c2
   have i2:(j:Int)<gs.length:=by omega
   have Hs:=Lib.hid (aQ5 n ws gs j s g hs.out hg.out)
   go_wp2_with (at_builtin;refine wpList_append_own_at _ rfl _ _ 213 rfl (w.heap.size+1) 20 i0 .nilIface 1 16 Tryz.underlying213 hiA hzA hz1 hz2 rfl (by decide) (.slice a4 (2+2*j) cap4) _ _ rfl (hown.out.alloc _) ⟨wr.heap.size,0,none⟩ 2 2 [anyV (.inr s),anyV (.inl g)] rfl rfl ?c1 ?c2 ?c3 ?c4 ?c5 ?_)
   case c1=>exact two_new _ _ _ _
   case c2=>exact two_one _ _
   case c3=>unfold maxLen;omega
   case c4=>omega
   case c5=>simp;omega
   intro v' w2 hown' hgrow _ hat
   have hex2:=Ex.appended (hex.alloc (o:=.cells #[anyV (.inr s),anyV (.inl g)] 20)) (hown.out.alloc _) (by simp) hgrow
   have HO:Hid (w2.ownsRow (w.heap.size+1) 20 1 v' (2+2*(j+1)) ((af5 n ws gs (j+1)).map anyV)):=by
    unfold Hid
    rw [Hs.out,List.map_append]
    rw [show 2+2*(j+1)=2+2*j+2 from by omega]
    exact hown'
   clear hown' hgrow hat hown
   obtain ⟨a5,cap5,rfl⟩:=az3 HO.out
   go_wp2
   go_roundw
   case rel=>exact ⟨j+1,by omega,by go_num,hex2,HO⟩
   case measure=>simp [intOf];omega
  ·obtain rfl:j=ws.length:=by omega
   have hpl:=aI9 n ws gs ws.length HE.out (Nat.le_refl _)
   have hpi:af5 n ws gs ws.length=Sum.inr n :: Sum.inl (ws.length:Int) :: af0 ws gs:=by
    rw [af5,List.take_of_length_le (Nat.le_refl _),List.take_of_length_le (by rw [HE.out];exact Nat.le_refl _)]
   have hi64:∀ m,Sum.inl m∈af5 n ws gs ws.length→I64 m:=by
    rw [hpi];intro m hm
    simp only [List.mem_cons] at hm
    rcases hm with h|h|h
    ·cases h
    ·cases h;unfold I64;omega
    ·exact aN0 ws gs (RInts.i64 hgs) m h
   obtain ⟨a6,cap6,hv6,hrow⟩:=aM2 (C:=fun x=>[anyV x]) (R:=RAny) (xs:=af5 n ws gs ws.length) hpl.symm (by rw [aU4];exact hown.out) (fun _ _=>rfl) (fun x hx=>by
    cases x with
    | inl m=>exact ⟨rfl,hi64 m hx⟩
    | inr t=>rfl)
   rw [hpl] at hv6
   cases hv6
   have hB:ab9 (af5 n ws gs ws.length)=1+n.size+(1+intB ws.length)+ab9 (af0 ws gs):=by
    rw [hpi];simp only [ab9,List.map_cons,List.sum_cons,ar7];omega
   have hib:=ae1 (ws.length:Int)
   have HLn:=Lib.hid (aY6 ⟨#[112,105,99,107]⟩ (af5 n ws gs ws.length) wr hrow (hp.ex hexw) (by rw [hpl];omega) (by rw [hB];have:=HBB.out;show 4+_≤_;omega))
   rw [hpl,hB] at HLn
   clear hpl hpi hi64 hrow hB hown
   go_wp2_with (go_at_call 139;refine HLn.out.mono ?_;rintro e w1 ⟨s,rfl,hs,hb1⟩)
   go_ret
   refine ⟨s,rfl,?_,hexw.trans hb1⟩
   have hs':s.size≤4+(1+n.size+(1+intB ↑ws.length)+ab9 (af0 ws gs))+1:=hs
   omega
end
section
open Go.RowKit Go.Shelf
theorem bf4 (w:World) (l:List (Int × Int)) (B n:Nat) (hn:n≤1000000) (hB:w.cell? ⟨B,0,none⟩=some (.int .i64 n)) :
  Asks Tryz.prog 136 #[.pointer (some ⟨B,0,none⟩)] w af7 RTwo l (moveB n):=by
 refine ⟨enters_of Tryz.func136 (by kernel_rfl) rfl,fun m vs W hm hr hW=>?_⟩
 obtain ⟨rfl,h1,h2⟩:=hr
 have c0:=hW.cell hB
 have lB:B<W.heap.size:=World.block_lt_of_cell? _ _ c0
 obtain ⟨m1,m2⟩:=m
 simp only at h1 h2
 show Calls _ _ #[.agg #[.int .i64 m1,.int .i64 m2],.pointer (some ⟨B,0,none⟩)] _ _
 cases h:ab5 m1 0 (n - 1)
 all_goals
  go_enter Tryz.func136,Tryz.ntmps136
  go_wp2_with ((go_at_call 107;refine (ab1 _ _ _ _).mono ?_;rintro e w1 ⟨rfl,rfl⟩))
  go_ret
  exact ⟨aa8 (by simp [moveB,h]),cl0⟩
theorem isLife_any (x:Lif) (w:World) {F:Nat→Prop} {sa ma:Option Addr} {sc mc:Nat} (hs:aw9 w F x.states sa sc) (hm:RTwos w F x.moves ma mc) (hx:SmL x) :
  Calls Tryz.prog 111 #[.agg #[.string x.name,.slice sa x.states.length sc,.slice ma x.moves.length mc]] w fun e w'=>e = .returned (.bool (an4 x))∧Ex w w':=by
 have hn:=hx.name.le
 have hl1:=hx.nstates
 have hl2:=hx.nmoves
 have HS:=Lib.hid (fun (w':World) (he:Ex w w')=>all_str (hs.keep (w':=w') he.same (fun _ h=>h) (fun _ _ _ h=>h)) (by omega) (aO4 w' x.states (fun s h=>(hx.states s h).le)))
 have HT:=Lib.hid (fun (w':World) B (he:Ex w w') hB=>all_two (hm.keep (w':=w') he.same (fun _ h=>h) (fun _ _ _ h=>h)) (by omega) (bf4 w' x.moves B x.states.length hl1 hB))
 clear hx hs hm
 obtain ⟨name,states,moves⟩:=x
 simp only at *
 cases h1:isNm name
 ·go_enter Tryz.func111,Tryz.ntmps111;go_wp2_with (first|(go_at_call 129;refine (ab7 _ _ hn).mono ?_;rintro e w1 ⟨rfl,hb1⟩;(have hq7:=ru7;(try clear hc hf);obtain ⟨hb,hc,hf,hz⟩:=hq7;(try simp only [zsz7] at hz);(try have hz0:=z07 w w1);(try have hz1:=z17 w w1);(try have hz2:=z27 w w1)))|(go_at_call 107;refine (ab1 _ _ _ _).mono ?_;rintro e w1 ⟨rfl,rfl⟩)|(go_at_call 134;refine (HS.out _ cl0).mono ?_;rintro e w1 ⟨rfl,hb1⟩;(have hq7:=ru7;(try clear hc hf);obtain ⟨hb,hc,hf,hz⟩:=hq7;(try simp only [zsz7] at hz);(try have hz0:=z07 w w1);(try have hz1:=z17 w w1);(try have hz2:=z27 w w1)))|(go_at_call 135;refine (HT.out _ _ cl0 (by simp [*])).mono ?_;rintro e w1 ⟨rfl,hb1⟩;(have hq7:=ru7;(try clear hc hf);obtain ⟨hb,hc,hf,hz⟩:=hq7;(try simp only [zsz7] at hz);(try have hz0:=z07 w w1);(try have hz1:=z17 w w1);(try have hz2:=z27 w w1))));go_ret
  exact ⟨aa8 (by simp [an4,h1]),cl0⟩
 cases h2:ab5 states.length 1 12
 ·go_enter Tryz.func111,Tryz.ntmps111;go_wp2_with (first|(go_at_call 129;refine (ab7 _ _ hn).mono ?_;rintro e w1 ⟨rfl,hb1⟩;(have hq7:=ru7;(try clear hc hf);obtain ⟨hb,hc,hf,hz⟩:=hq7;(try simp only [zsz7] at hz);(try have hz0:=z07 w w1);(try have hz1:=z17 w w1);(try have hz2:=z27 w w1)))|(go_at_call 107;refine (ab1 _ _ _ _).mono ?_;rintro e w1 ⟨rfl,rfl⟩)|(go_at_call 134;refine (HS.out _ cl0).mono ?_;rintro e w1 ⟨rfl,hb1⟩;(have hq7:=ru7;(try clear hc hf);obtain ⟨hb,hc,hf,hz⟩:=hq7;(try simp only [zsz7] at hz);(try have hz0:=z07 w w1);(try have hz1:=z17 w w1);(try have hz2:=z27 w w1)))|(go_at_call 135;refine (HT.out _ _ cl0 (by simp [*])).mono ?_;rintro e w1 ⟨rfl,hb1⟩;(have hq7:=ru7;(try clear hc hf);obtain ⟨hb,hc,hf,hz⟩:=hq7;(try simp only [zsz7] at hz);(try have hz0:=z07 w w1);(try have hz1:=z17 w w1);(try have hz2:=z27 w w1))));go_ret
  exact ⟨aa8 (by simp [an4,h2]),cl0⟩
 cases h3:states.all isNm
 ·go_enter Tryz.func111,Tryz.ntmps111;go_wp2_with (first|(go_at_call 129;refine (ab7 _ _ hn).mono ?_;rintro e w1 ⟨rfl,hb1⟩;(have hq7:=ru7;(try clear hc hf);obtain ⟨hb,hc,hf,hz⟩:=hq7;(try simp only [zsz7] at hz);(try have hz0:=z07 w w1);(try have hz1:=z17 w w1);(try have hz2:=z27 w w1)))|(go_at_call 107;refine (ab1 _ _ _ _).mono ?_;rintro e w1 ⟨rfl,rfl⟩)|(go_at_call 134;refine (HS.out _ cl0).mono ?_;rintro e w1 ⟨rfl,hb1⟩;(have hq7:=ru7;(try clear hc hf);obtain ⟨hb,hc,hf,hz⟩:=hq7;(try simp only [zsz7] at hz);(try have hz0:=z07 w w1);(try have hz1:=z17 w w1);(try have hz2:=z27 w w1)))|(go_at_call 135;refine (HT.out _ _ cl0 (by simp [*])).mono ?_;rintro e w1 ⟨rfl,hb1⟩;(have hq7:=ru7;(try clear hc hf);obtain ⟨hb,hc,hf,hz⟩:=hq7;(try simp only [zsz7] at hz);(try have hz0:=z07 w w1);(try have hz1:=z17 w w1);(try have hz2:=z27 w w1))));go_ret
  exact ⟨aa8 (by simp [an4,h3]),cl0⟩
 by_cases h4:(moves.length:Int)≤32
 ·have HR:Hid (an4 ⟨name,states,moves⟩=moves.all (moveB states.length)):=Lib.hid (by simp [an4,h1,h2,h3];intro;omega)
  go_enter Tryz.func111,Tryz.ntmps111;go_wp2_with (first|(go_at_call 129;refine (ab7 _ _ hn).mono ?_;rintro e w1 ⟨rfl,hb1⟩;(have hq7:=ru7;(try clear hc hf);obtain ⟨hb,hc,hf,hz⟩:=hq7;(try simp only [zsz7] at hz);(try have hz0:=z07 w w1);(try have hz1:=z17 w w1);(try have hz2:=z27 w w1)))|(go_at_call 107;refine (ab1 _ _ _ _).mono ?_;rintro e w1 ⟨rfl,rfl⟩)|(go_at_call 134;refine (HS.out _ cl0).mono ?_;rintro e w1 ⟨rfl,hb1⟩;(have hq7:=ru7;(try clear hc hf);obtain ⟨hb,hc,hf,hz⟩:=hq7;(try simp only [zsz7] at hz);(try have hz0:=z07 w w1);(try have hz1:=z17 w w1);(try have hz2:=z27 w w1)))|(go_at_call 135;refine (HT.out _ _ cl0 (by simp [*])).mono ?_;rintro e w1 ⟨rfl,hb1⟩;(have hq7:=ru7;(try clear hc hf);obtain ⟨hb,hc,hf,hz⟩:=hq7;(try simp only [zsz7] at hz);(try have hz0:=z07 w w1);(try have hz1:=z17 w w1);(try have hz2:=z27 w w1))));go_ret
  exact ⟨aa8 HR.out.symm,cl0⟩
 ·go_enter Tryz.func111,Tryz.ntmps111;go_wp2_with (first|(go_at_call 129;refine (ab7 _ _ hn).mono ?_;rintro e w1 ⟨rfl,hb1⟩;(have hq7:=ru7;(try clear hc hf);obtain ⟨hb,hc,hf,hz⟩:=hq7;(try simp only [zsz7] at hz);(try have hz0:=z07 w w1);(try have hz1:=z17 w w1);(try have hz2:=z27 w w1)))|(go_at_call 107;refine (ab1 _ _ _ _).mono ?_;rintro e w1 ⟨rfl,rfl⟩)|(go_at_call 134;refine (HS.out _ cl0).mono ?_;rintro e w1 ⟨rfl,hb1⟩;(have hq7:=ru7;(try clear hc hf);obtain ⟨hb,hc,hf,hz⟩:=hq7;(try simp only [zsz7] at hz);(try have hz0:=z07 w w1);(try have hz1:=z17 w w1);(try have hz2:=z27 w w1)))|(go_at_call 135;refine (HT.out _ _ cl0 (by simp [*])).mono ?_;rintro e w1 ⟨rfl,hb1⟩;(have hq7:=ru7;(try clear hc hf);obtain ⟨hb,hc,hf,hz⟩:=hq7;(try simp only [zsz7] at hz);(try have hz0:=z07 w w1);(try have hz1:=z17 w w1);(try have hz2:=z27 w w1))));go_ret
  exact ⟨aa8 (by simp [an4];intros;omega),cl0⟩
def at8 {α:Type} (eq:α→α→Bool):List α→List α→Bool
 | [],[]=>true
 | x :: xs,y :: ys=>eq x y && at8 eq xs ys
 | _,_=>false
theorem aP7 {α:Type} {eq:α→α→Bool}:∀ {xs ys:List α},xs.length≠ys.length→at8 eq xs ys=false
 | [],[],h=>absurd rfl h
 | [],_ :: _,_=>rfl
 | _ :: _,[],_=>rfl
 | x :: xs,y :: ys,h=>by simp only [at8,aP7 (eq:=eq) (xs:=xs) (ys:=ys) (by simpa using h),Bool.and_false]
theorem aP6 {α:Type} {eq:α→α→Bool}:∀ {xs ys:List α},xs.length=ys.length→(∀ (i:Nat) x y,xs[i]?=some x→ys[i]?=some y→eq x y=true)→at8 eq xs ys=true
 | [],[],_,_=>rfl
 | [],_ :: _,h,_=>by simp at h
 | _ :: _,[],h,_=>by simp at h
 | x :: xs,y :: ys,h,he=>by
  simp only [at8,he 0 x y rfl rfl,Bool.true_and]
  exact aP6 (by simpa using h) (fun i x' y' hx hy=>he (i+1) x' y' (by simpa using hx) (by simpa using hy))
theorem ba2 {α:Type} {eq:α→α→Bool}:∀ {xs ys:List α} {i:Nat} {x y:α},xs[i]?=some x→ys[i]?=some y→eq x y=false→at8 eq xs ys=false
 | [],_,i,x,y,hx,_,_=>by simp at hx
 | _ :: _,[],i,x,y,_,hy,_=>by simp at hy
 | a :: xs,b :: ys,0,x,y,hx,hy,he=>by simp at hx hy;subst hx hy;simp [at8,he]
 | a :: xs,b :: ys,i+1,x,y,hx,hy,he=>by
  have:=ba2 (xs:=xs) (ys:=ys) (i:=i) (by simpa using hx) (by simpa using hy) he
  simp [at8,this]
def ieq (x y:Int):Bool:=x == y
theorem equal_int {w:World} {F G:Nat→Prop} {xs ys:List Int} {a a':Option Addr} {c c':Nat} (hx:RInts w F xs a c) (hy:RInts w G ys a' c') (hl:xs.length≤140737488355328) (hl2:ys.length≤140737488355328) :
  Calls Tryz.prog 177 #[.slice a xs.length c,.slice a' ys.length c'] w fun e w'=>e = .returned (.bool (at8 ieq xs ys))∧Ex w w':=by
 by_cases hlen:(xs.length:Int)=ys.length
 ·have he:xs.length=ys.length:=by omega
  have hlen':((xs.length:Int) == (ys.length:Int))=true:=by simp;omega
  have hlen2:((xs.length:Int) != (ys.length:Int))=false:=by simp;omega
  clear hlen
  have HE:=Lib.hid he;clear he hlen'
  go_enter Tryz.func177,Tryz.ntmps177
  go_wp2
  clear hlen2
  go_loopw [13] (fun i wr=>∃ j:Nat,j≤xs.length∧i = .int .i64 j∧Hid (∀ i x y,i<j→xs[i]?=some x→ys[i]?=some y→ieq x y=true)∧Ex w wr) (fun i _=>xs.length - (intOf i).toNat)
  case atStart=>exact ⟨0,by omega,rfl,fun i x y h=>by omega,Ex.refl _⟩
  case round=>
   obtain ⟨j,hj,rfl,hno,hex⟩:=hrel
   by_cases hlt:j<xs.length
   ·obtain ⟨x,b,off,hxx,rfl,_,c0,_⟩:=aE6 hx hex.same hlt
    have hlt2:j<ys.length:=by rw [← HE.out];exact hlt
    obtain ⟨y,b2,off2,hyy,rfl,_,c1,_⟩:=aE6 hy hex.same hlt2
    have i1:(j:Int)<xs.length:=by omega
    have i2:(j:Int)<ys.length:=by omega
    cases he:ieq x y with
    | true=>
     have Hi:=Lib.hid (fun i x' y' (hi:i<j+1) (hx':xs[i]?=some x') (hy':ys[i]?=some y')=>show ieq x' y'=true from by
      rcases Nat.lt_or_ge i j with h|h
      ·exact hno.out i x' y' h hx' hy'
      ·obtain rfl:i=j:=by omega
       rw [hxx.out] at hx';rw [hyy.out] at hy';cases hx';cases hy';exact he)
     have e1:(x != y)=false:=by unfold ieq at he;simp at he;simp [he]
     clear hno he
     go_wp2
     go_quiet (fail)
     go_wp2
     go_roundw
     case rel=>exact ⟨j+1,by omega,by go_num,Hi,cl0⟩
     case measure=>simp [intOf];omega
    | false=>
     have HR:=Lib.hid (ba2 hxx.out hyy.out he)
     have e1:(x != y)=true:=by unfold ieq at he;simp at he;simp [he]
     clear hno he
     go_wp2
     go_quiet (fail)
     go_wp2
     go_ret
     exact ⟨aa8 HR.out.symm,cl0⟩
   ·have HR:=Lib.hid (aP6 HE.out (fun i x y h1 h2=>hno.out i x y (by have:=(List.getElem?_eq_some_iff.1 h1).1;omega) h1 h2))
    clear hno
    go_wp2
    go_ret
    exact ⟨aa8 HR.out.symm,cl0⟩
 ·have HR:=Lib.hid (aP7 (eq:=ieq) (xs:=xs) (ys:=ys) (by omega))
  have hlen2:((xs.length:Int) != (ys.length:Int))=true:=by simp;omega
  clear hlen
  go_enter Tryz.func177,Tryz.ntmps177
  go_wp2
  go_ret
  exact ⟨aa8 HR.out.symm,cl0⟩
theorem equal_str {w:World} {F G:Nat→Prop} {xs ys:List ByteArray} {a a':Option Addr} {c c':Nat} (hx:aw9 w F xs a c) (hy:aw9 w G ys a' c') (hl:xs.length≤140737488355328) (hl2:ys.length≤140737488355328) :
  Calls Tryz.prog 176 #[.slice a xs.length c,.slice a' ys.length c'] w fun e w'=>e = .returned (.bool (at8 seq xs ys))∧Ex w w':=by
 by_cases hlen:(xs.length:Int)=ys.length
 ·have he:xs.length=ys.length:=by omega
  have hlen':((xs.length:Int) == (ys.length:Int))=true:=by simp;omega
  have hlen2:((xs.length:Int) != (ys.length:Int))=false:=by simp;omega
  clear hlen
  have HE:=Lib.hid he;clear he hlen'
  go_enter Tryz.func176,Tryz.ntmps176
  go_wp2
  clear hlen2
  go_loopw [13] (fun i wr=>∃ j:Nat,j≤xs.length∧i = .int .i64 j∧Hid (∀ i x y,i<j→xs[i]?=some x→ys[i]?=some y→seq x y=true)∧Ex w wr) (fun i _=>xs.length - (intOf i).toNat)
  case atStart=>exact ⟨0,by omega,rfl,fun i x y h=>by omega,Ex.refl _⟩
  case round=>
   obtain ⟨j,hj,rfl,hno,hex⟩:=hrel
   by_cases hlt:j<xs.length
   ·obtain ⟨x,b,off,hxx,rfl,_,c0,_⟩:=au2 hx hex.same hlt
    have hlt2:j<ys.length:=by rw [← HE.out];exact hlt
    obtain ⟨y,b2,off2,hyy,rfl,_,c1,_⟩:=au2 hy hex.same hlt2
    have i1:(j:Int)<xs.length:=by omega
    have i2:(j:Int)<ys.length:=by omega
    cases he:seq x y with
    | true=>
     have Hi:=Lib.hid (fun i x' y' (hi:i<j+1) (hx':xs[i]?=some x') (hy':ys[i]?=some y')=>show seq x' y'=true from by
      rcases Nat.lt_or_ge i j with h|h
      ·exact hno.out i x' y' h hx' hy'
      ·obtain rfl:i=j:=by omega
       rw [hxx.out] at hx';rw [hyy.out] at hy';cases hx';cases hy';exact he)
     have e1:(x.toList == y.toList)=true:=he
     clear hno he
     go_wp2
     go_quiet (fail)
     go_wp2
     go_roundw
     case rel=>exact ⟨j+1,by omega,by go_num,Hi,cl0⟩
     case measure=>simp [intOf];omega
    | false=>
     have HR:=Lib.hid (ba2 hxx.out hyy.out he)
     have e1:(x.toList == y.toList)=false:=he
     clear hno he
     go_wp2
     go_quiet (fail)
     go_wp2
     go_ret
     exact ⟨aa8 HR.out.symm,cl0⟩
   ·have HR:=Lib.hid (aP6 HE.out (fun i x y h1 h2=>hno.out i x y (by have:=(List.getElem?_eq_some_iff.1 h1).1;omega) h1 h2))
    clear hno
    go_wp2
    go_ret
    exact ⟨aa8 HR.out.symm,cl0⟩
 ·have HR:=Lib.hid (aP7 (eq:=seq) (xs:=xs) (ys:=ys) (by omega))
  have hlen2:((xs.length:Int) != (ys.length:Int))=true:=by simp;omega
  clear hlen
  go_enter Tryz.func176,Tryz.ntmps176
  go_wp2
  go_ret
  exact ⟨aa8 HR.out.symm,cl0⟩
end
section
open Go.RowKit Go.Shelf
def nos:ByteArray:=⟨#[]⟩
def au8 (f:Fld):Fld:=⟨f.name,if ag6 f.kind then f.of else nos,if ag5 f.kind then f.up else nos,f.kind,if ag7 f.kind then f.lo else 0,if ag1 f.kind then f.hi else 0,if ag0 f.kind then f.words else [],if ag0 f.kind then f.weights else []⟩
theorem only_0 (name of up:ByteArray) (lo hi:Int) (wa ga:Option Addr) (nw wc ng gc:Nat) (w:World) :
  Calls Tryz.prog 159 #[.agg #[.string name,.string of,.string up,.int .i64 0,.int .i64 lo,.int .i64 hi,.slice wa nw wc,.slice ga ng gc]] w fun e w'=>e = .returned (.agg #[.string name,.string nos,.string nos,.int .i64 0,.int .i64 lo,.int .i64 0,.slice none 0 0,.slice none 0 0])∧Ex w w':=by
 go_enter Tryz.func159,Tryz.ntmps159
 go_wp2
 all_goals exact bodyPost_ret (v:=.agg #[.string name,.string nos,.string nos,.int .i64 0,.int .i64 lo,.int .i64 0,.slice none 0 0,.slice none 0 0]) (by simp [results,Tryz.results159,go_sem,nos]) rfl ⟨rfl,cl0⟩
theorem only_1 (name of up:ByteArray) (lo hi:Int) (wa ga:Option Addr) (nw wc ng gc:Nat) (w:World) :
  Calls Tryz.prog 159 #[.agg #[.string name,.string of,.string up,.int .i64 1,.int .i64 lo,.int .i64 hi,.slice wa nw wc,.slice ga ng gc]] w fun e w'=>e = .returned (.agg #[.string name,.string of,.string nos,.int .i64 1,.int .i64 lo,.int .i64 hi,.slice none 0 0,.slice none 0 0])∧Ex w w':=by
 go_enter Tryz.func159,Tryz.ntmps159
 go_wp2
 go_region
 all_goals go_wp2
 all_goals exact bodyPost_ret (v:=.agg #[.string name,.string of,.string nos,.int .i64 1,.int .i64 lo,.int .i64 hi,.slice none 0 0,.slice none 0 0]) (by simp [results,Tryz.results159,go_sem,nos]) rfl ⟨rfl,cl0⟩
theorem only_2 (name of up:ByteArray) (lo hi:Int) (wa ga:Option Addr) (nw wc ng gc:Nat) (w:World) :
  Calls Tryz.prog 159 #[.agg #[.string name,.string of,.string up,.int .i64 2,.int .i64 lo,.int .i64 hi,.slice wa nw wc,.slice ga ng gc]] w fun e w'=>e = .returned (.agg #[.string name,.string nos,.string nos,.int .i64 2,.int .i64 lo,.int .i64 hi,.slice none 0 0,.slice none 0 0])∧Ex w w':=by
 go_enter Tryz.func159,Tryz.ntmps159
 go_wp2
 go_region
 all_goals go_wp2
 all_goals exact bodyPost_ret (v:=.agg #[.string name,.string nos,.string nos,.int .i64 2,.int .i64 lo,.int .i64 hi,.slice none 0 0,.slice none 0 0]) (by simp [results,Tryz.results159,go_sem,nos]) rfl ⟨rfl,cl0⟩
theorem only_3 (name of up:ByteArray) (lo hi:Int) (wa ga:Option Addr) (nw wc ng gc:Nat) (w:World) :
  Calls Tryz.prog 159 #[.agg #[.string name,.string of,.string up,.int .i64 3,.int .i64 lo,.int .i64 hi,.slice wa nw wc,.slice ga ng gc]] w fun e w'=>e = .returned (.agg #[.string name,.string nos,.string nos,.int .i64 3,.int .i64 0,.int .i64 0,.slice wa nw wc,.slice ga ng gc])∧Ex w w':=by
 go_enter Tryz.func159,Tryz.ntmps159
 go_wp2
 go_region
 all_goals go_wp2
 all_goals exact bodyPost_ret (v:=.agg #[.string name,.string nos,.string nos,.int .i64 3,.int .i64 0,.int .i64 0,.slice wa nw wc,.slice ga ng gc]) (by simp [results,Tryz.results159,go_sem,nos]) rfl ⟨rfl,cl0⟩
theorem only_4 (name of up:ByteArray) (lo hi:Int) (wa ga:Option Addr) (nw wc ng gc:Nat) (w:World) :
  Calls Tryz.prog 159 #[.agg #[.string name,.string of,.string up,.int .i64 4,.int .i64 lo,.int .i64 hi,.slice wa nw wc,.slice ga ng gc]] w fun e w'=>e = .returned (.agg #[.string name,.string of,.string nos,.int .i64 4,.int .i64 lo,.int .i64 hi,.slice none 0 0,.slice none 0 0])∧Ex w w':=by
 go_enter Tryz.func159,Tryz.ntmps159
 go_wp2
 go_region
 all_goals go_wp2
 all_goals exact bodyPost_ret (v:=.agg #[.string name,.string of,.string nos,.int .i64 4,.int .i64 lo,.int .i64 hi,.slice none 0 0,.slice none 0 0]) (by simp [results,Tryz.results159,go_sem,nos]) rfl ⟨rfl,cl0⟩
theorem only_5 (name of up:ByteArray) (lo hi:Int) (wa ga:Option Addr) (nw wc ng gc:Nat) (w:World) :
  Calls Tryz.prog 159 #[.agg #[.string name,.string of,.string up,.int .i64 5,.int .i64 lo,.int .i64 hi,.slice wa nw wc,.slice ga ng gc]] w fun e w'=>e = .returned (.agg #[.string name,.string of,.string nos,.int .i64 5,.int .i64 lo,.int .i64 hi,.slice none 0 0,.slice none 0 0])∧Ex w w':=by
 go_enter Tryz.func159,Tryz.ntmps159
 go_wp2
 go_region
 all_goals go_wp2
 all_goals exact bodyPost_ret (v:=.agg #[.string name,.string of,.string nos,.int .i64 5,.int .i64 lo,.int .i64 hi,.slice none 0 0,.slice none 0 0]) (by simp [results,Tryz.results159,go_sem,nos]) rfl ⟨rfl,cl0⟩
theorem only_6 (name of up:ByteArray) (lo hi:Int) (wa ga:Option Addr) (nw wc ng gc:Nat) (w:World) :
  Calls Tryz.prog 159 #[.agg #[.string name,.string of,.string up,.int .i64 6,.int .i64 lo,.int .i64 hi,.slice wa nw wc,.slice ga ng gc]] w fun e w'=>e = .returned (.agg #[.string name,.string of,.string nos,.int .i64 6,.int .i64 0,.int .i64 0,.slice none 0 0,.slice none 0 0])∧Ex w w':=by
 go_enter Tryz.func159,Tryz.ntmps159
 go_wp2
 all_goals exact bodyPost_ret (v:=.agg #[.string name,.string of,.string nos,.int .i64 6,.int .i64 0,.int .i64 0,.slice none 0 0,.slice none 0 0]) (by simp [results,Tryz.results159,go_sem,nos]) rfl ⟨rfl,cl0⟩
theorem only_7 (name of up:ByteArray) (lo hi:Int) (wa ga:Option Addr) (nw wc ng gc:Nat) (w:World) :
  Calls Tryz.prog 159 #[.agg #[.string name,.string of,.string up,.int .i64 7,.int .i64 lo,.int .i64 hi,.slice wa nw wc,.slice ga ng gc]] w fun e w'=>e = .returned (.agg #[.string name,.string of,.string up,.int .i64 7,.int .i64 lo,.int .i64 hi,.slice none 0 0,.slice none 0 0])∧Ex w w':=by
 go_enter Tryz.func159,Tryz.ntmps159
 go_wp2
 go_region
 all_goals go_wp2
 all_goals exact bodyPost_ret (v:=.agg #[.string name,.string of,.string up,.int .i64 7,.int .i64 lo,.int .i64 hi,.slice none 0 0,.slice none 0 0]) (by simp [results,Tryz.results159,go_sem,nos]) rfl ⟨rfl,cl0⟩
theorem only_8 (name of up:ByteArray) (lo hi:Int) (wa ga:Option Addr) (nw wc ng gc:Nat) (w:World) :
  Calls Tryz.prog 159 #[.agg #[.string name,.string of,.string up,.int .i64 8,.int .i64 lo,.int .i64 hi,.slice wa nw wc,.slice ga ng gc]] w fun e w'=>e = .returned (.agg #[.string name,.string of,.string up,.int .i64 8,.int .i64 0,.int .i64 0,.slice none 0 0,.slice none 0 0])∧Ex w w':=by
 go_enter Tryz.func159,Tryz.ntmps159
 go_wp2
 go_region
 all_goals go_wp2
 all_goals exact bodyPost_ret (v:=.agg #[.string name,.string of,.string up,.int .i64 8,.int .i64 0,.int .i64 0,.slice none 0 0,.slice none 0 0]) (by simp [results,Tryz.results159,go_sem,nos]) rfl ⟨rfl,cl0⟩
theorem only_no (name of up:ByteArray) (k:Int) (h0:(k == 0)=false) (h1:(k == 1)=false) (h2:(k == 2)=false) (h3:(k == 3)=false) (h4:(k == 4)=false) (h5:(k == 5)=false) (h6:(k == 6)=false) (h7:(k == 7)=false) (h8:(k == 8)=false) (lo hi:Int) (wa ga:Option Addr) (nw wc ng gc:Nat) (w:World) :
  Calls Tryz.prog 159 #[.agg #[.string name,.string of,.string up,.int .i64 k,.int .i64 lo,.int .i64 hi,.slice wa nw wc,.slice ga ng gc]] w fun e w'=>e = .returned (.agg #[.string name,.string nos,.string nos,.int .i64 k,.int .i64 0,.int .i64 0,.slice none 0 0,.slice none 0 0])∧Ex w w':=by
 go_enter Tryz.func159,Tryz.ntmps159
 go_wp2
 all_goals exact bodyPost_ret (v:=.agg #[.string name,.string nos,.string nos,.int .i64 k,.int .i64 0,.int .i64 0,.slice none 0 0,.slice none 0 0]) (by simp [results,Tryz.results159,go_sem,nos]) rfl ⟨rfl,cl0⟩
def aI8 (f g:Fld):Bool:=seq f.name g.name && (seq f.of g.of && (seq f.up g.up && (f.kind == g.kind && (f.lo == g.lo && (f.hi == g.hi && (at8 seq f.words g.words && at8 ieq f.weights g.weights))))))
theorem same_any (f g:Fld) (w:World) {F G:Nat→Prop} {wa ga wa' ga':Option Addr} {wc gc wc' gc':Nat} (hw:aw9 w F f.words wa wc) (hg:RInts w F f.weights ga gc) (hw':aw9 w G g.words wa' wc') (hg':RInts w G g.weights ga' gc')
  (l1:f.words.length≤1000000) (l2:f.weights.length≤1000000) (l3:g.words.length≤1000000) (l4:g.weights.length≤1000000) :
  Calls Tryz.prog 158 #[.agg #[.string f.name,.string f.of,.string f.up,.int .i64 f.kind,.int .i64 f.lo,.int .i64 f.hi,.slice wa f.words.length wc,.slice ga f.weights.length gc],
   .agg #[.string g.name,.string g.of,.string g.up,.int .i64 g.kind,.int .i64 g.lo,.int .i64 g.hi,.slice wa' g.words.length wc',.slice ga' g.weights.length gc']] w fun e w'=>e = .returned (.bool (aI8 f g))∧Ex w w':=by
 have HS:=Lib.hid (fun (w':World) (he:Ex w w')=>equal_str (hw.keep (w':=w') he.same (fun _ h=>h) (fun _ _ _ h=>h)) (hw'.keep (w':=w') he.same (fun _ h=>h) (fun _ _ _ h=>h)) (by omega) (by omega))
 have HI:=Lib.hid (fun (w':World) (he:Ex w w')=>equal_int (hg.keep (w':=w') he.same (fun _ h=>h) (fun _ _ _ h=>h)) (hg'.keep (w':=w') he.same (fun _ h=>h) (fun _ _ _ h=>h)) (by omega) (by omega))
 clear hw hg hw' hg' l1 l2 l3 l4
 obtain ⟨n1,o1,u1,k1,lo1,hi1,ws1,gs1⟩:=f
 obtain ⟨n2,o2,u2,k2,lo2,hi2,ws2,gs2⟩:=g
 simp only at *
 cases h1:(n1.toList == n2.toList)
 ·go_enter Tryz.func158,Tryz.ntmps158;go_wp2_with (first|(go_at_call 176;refine (HS.out _ cl0).mono ?_;rintro e w1 ⟨rfl,hb1⟩;(have hq7:=ru7;(try clear hc hf);obtain ⟨hb,hc,hf,hz⟩:=hq7;(try simp only [zsz7] at hz);(try have hz0:=z07 w w1);(try have hz1:=z17 w w1);(try have hz2:=z27 w w1)))|(go_at_call 177;refine (HI.out _ cl0).mono ?_;rintro e w1 ⟨rfl,hb1⟩;(have hq7:=ru7;(try clear hc hf);obtain ⟨hb,hc,hf,hz⟩:=hq7;(try simp only [zsz7] at hz);(try have hz0:=z07 w w1);(try have hz1:=z17 w w1);(try have hz2:=z27 w w1))));go_ret
  exact ⟨aa8 (by simp only [aI8,seq,h1,Bool.false_and]),cl0⟩
 cases h2:(o1.toList == o2.toList)
 ·go_enter Tryz.func158,Tryz.ntmps158;go_wp2_with (first|(go_at_call 176;refine (HS.out _ cl0).mono ?_;rintro e w1 ⟨rfl,hb1⟩;(have hq7:=ru7;(try clear hc hf);obtain ⟨hb,hc,hf,hz⟩:=hq7;(try simp only [zsz7] at hz);(try have hz0:=z07 w w1);(try have hz1:=z17 w w1);(try have hz2:=z27 w w1)))|(go_at_call 177;refine (HI.out _ cl0).mono ?_;rintro e w1 ⟨rfl,hb1⟩;(have hq7:=ru7;(try clear hc hf);obtain ⟨hb,hc,hf,hz⟩:=hq7;(try simp only [zsz7] at hz);(try have hz0:=z07 w w1);(try have hz1:=z17 w w1);(try have hz2:=z27 w w1))));go_ret
  exact ⟨aa8 (by simp only [aI8,seq,h1,h2,Bool.false_and,Bool.true_and]),cl0⟩
 cases h3:(u1.toList == u2.toList)
 ·go_enter Tryz.func158,Tryz.ntmps158;go_wp2_with (first|(go_at_call 176;refine (HS.out _ cl0).mono ?_;rintro e w1 ⟨rfl,hb1⟩;(have hq7:=ru7;(try clear hc hf);obtain ⟨hb,hc,hf,hz⟩:=hq7;(try simp only [zsz7] at hz);(try have hz0:=z07 w w1);(try have hz1:=z17 w w1);(try have hz2:=z27 w w1)))|(go_at_call 177;refine (HI.out _ cl0).mono ?_;rintro e w1 ⟨rfl,hb1⟩;(have hq7:=ru7;(try clear hc hf);obtain ⟨hb,hc,hf,hz⟩:=hq7;(try simp only [zsz7] at hz);(try have hz0:=z07 w w1);(try have hz1:=z17 w w1);(try have hz2:=z27 w w1))));go_ret
  exact ⟨aa8 (by simp only [aI8,seq,h1,h2,h3,Bool.false_and,Bool.true_and]),cl0⟩
 cases h4:(k1 == k2)
 ·go_enter Tryz.func158,Tryz.ntmps158;go_wp2_with (first|(go_at_call 176;refine (HS.out _ cl0).mono ?_;rintro e w1 ⟨rfl,hb1⟩;(have hq7:=ru7;(try clear hc hf);obtain ⟨hb,hc,hf,hz⟩:=hq7;(try simp only [zsz7] at hz);(try have hz0:=z07 w w1);(try have hz1:=z17 w w1);(try have hz2:=z27 w w1)))|(go_at_call 177;refine (HI.out _ cl0).mono ?_;rintro e w1 ⟨rfl,hb1⟩;(have hq7:=ru7;(try clear hc hf);obtain ⟨hb,hc,hf,hz⟩:=hq7;(try simp only [zsz7] at hz);(try have hz0:=z07 w w1);(try have hz1:=z17 w w1);(try have hz2:=z27 w w1))));go_ret
  exact ⟨aa8 (by simp only [aI8,seq,h1,h2,h3,h4,Bool.false_and,Bool.true_and]),cl0⟩
 cases h5:(lo1 == lo2)
 ·go_enter Tryz.func158,Tryz.ntmps158;go_wp2_with (first|(go_at_call 176;refine (HS.out _ cl0).mono ?_;rintro e w1 ⟨rfl,hb1⟩;(have hq7:=ru7;(try clear hc hf);obtain ⟨hb,hc,hf,hz⟩:=hq7;(try simp only [zsz7] at hz);(try have hz0:=z07 w w1);(try have hz1:=z17 w w1);(try have hz2:=z27 w w1)))|(go_at_call 177;refine (HI.out _ cl0).mono ?_;rintro e w1 ⟨rfl,hb1⟩;(have hq7:=ru7;(try clear hc hf);obtain ⟨hb,hc,hf,hz⟩:=hq7;(try simp only [zsz7] at hz);(try have hz0:=z07 w w1);(try have hz1:=z17 w w1);(try have hz2:=z27 w w1))));go_ret
  exact ⟨aa8 (by simp only [aI8,seq,h1,h2,h3,h4,h5,Bool.false_and,Bool.true_and]),cl0⟩
 cases h6:(hi1 == hi2)
 ·go_enter Tryz.func158,Tryz.ntmps158;go_wp2_with (first|(go_at_call 176;refine (HS.out _ cl0).mono ?_;rintro e w1 ⟨rfl,hb1⟩;(have hq7:=ru7;(try clear hc hf);obtain ⟨hb,hc,hf,hz⟩:=hq7;(try simp only [zsz7] at hz);(try have hz0:=z07 w w1);(try have hz1:=z17 w w1);(try have hz2:=z27 w w1)))|(go_at_call 177;refine (HI.out _ cl0).mono ?_;rintro e w1 ⟨rfl,hb1⟩;(have hq7:=ru7;(try clear hc hf);obtain ⟨hb,hc,hf,hz⟩:=hq7;(try simp only [zsz7] at hz);(try have hz0:=z07 w w1);(try have hz1:=z17 w w1);(try have hz2:=z27 w w1))));go_ret
  exact ⟨aa8 (by simp only [aI8,seq,h1,h2,h3,h4,h5,h6,Bool.false_and,Bool.true_and]),cl0⟩
 cases h7:at8 seq ws1 ws2
 ·go_enter Tryz.func158,Tryz.ntmps158;go_wp2_with (first|(go_at_call 176;refine (HS.out _ cl0).mono ?_;rintro e w1 ⟨rfl,hb1⟩;(have hq7:=ru7;(try clear hc hf);obtain ⟨hb,hc,hf,hz⟩:=hq7;(try simp only [zsz7] at hz);(try have hz0:=z07 w w1);(try have hz1:=z17 w w1);(try have hz2:=z27 w w1)))|(go_at_call 177;refine (HI.out _ cl0).mono ?_;rintro e w1 ⟨rfl,hb1⟩;(have hq7:=ru7;(try clear hc hf);obtain ⟨hb,hc,hf,hz⟩:=hq7;(try simp only [zsz7] at hz);(try have hz0:=z07 w w1);(try have hz1:=z17 w w1);(try have hz2:=z27 w w1))));go_ret
  exact ⟨aa8 (by simp only [aI8,h7,Bool.false_and,Bool.and_false]),cl0⟩
 ·have HR:Hid (aI8 ⟨n1,o1,u1,k1,lo1,hi1,ws1,gs1⟩ ⟨n2,o2,u2,k2,lo2,hi2,ws2,gs2⟩=at8 ieq gs1 gs2):=Lib.hid (by simp only [aI8,seq,h1,h2,h3,h4,h5,h6,Bool.true_and];simp only [show at8 (fun a b:ByteArray=>a.toList == b.toList) ws1 ws2=true from h7,show at8 seq ws1 ws2=true from h7,Bool.true_and])
  go_enter Tryz.func158,Tryz.ntmps158;go_wp2_with (first|(go_at_call 176;refine (HS.out _ cl0).mono ?_;rintro e w1 ⟨rfl,hb1⟩;(have hq7:=ru7;(try clear hc hf);obtain ⟨hb,hc,hf,hz⟩:=hq7;(try simp only [zsz7] at hz);(try have hz0:=z07 w w1);(try have hz1:=z17 w w1);(try have hz2:=z27 w w1)))|(go_at_call 177;refine (HI.out _ cl0).mono ?_;rintro e w1 ⟨rfl,hb1⟩;(have hq7:=ru7;(try clear hc hf);obtain ⟨hb,hc,hf,hz⟩:=hq7;(try simp only [zsz7] at hz);(try have hz0:=z07 w w1);(try have hz1:=z17 w w1);(try have hz2:=z27 w w1))));go_ret
  exact ⟨aa8 HR.out.symm,cl0⟩
end
section
open Go.RowKit Go.Shelf
theorem only_any (f:Fld) (w:World) {F:Nat→Prop} {wa ga:Option Addr} {wc gc:Nat} (hw:aw9 w F f.words wa wc) (hg:RInts w F f.weights ga gc) :
  Calls Tryz.prog 159 #[.agg #[.string f.name,.string f.of,.string f.up,.int .i64 f.kind,.int .i64 f.lo,.int .i64 f.hi,.slice wa f.words.length wc,.slice ga f.weights.length gc]] w
   fun e w'=>∃ wa' wc' ga' gc',e = .returned (.agg #[.string (au8 f).name,.string (au8 f).of,.string (au8 f).up,.int .i64 (au8 f).kind,.int .i64 (au8 f).lo,.int .i64 (au8 f).hi,.slice wa' (au8 f).words.length wc',.slice ga' (au8 f).weights.length gc']) ∧
    aw9 w' F (au8 f).words wa' wc'∧RInts w' F (au8 f).weights ga' gc'∧Ex w w':=by
 obtain ⟨n,o,u,k,lo,hi,ws,gs⟩:=f
 simp only at *
 by_cases h0:k=0
 ·subst h0;exact (only_0 n o u lo hi wa ga _ wc _ gc w).mono fun e w' ⟨h1,h2⟩=>⟨_,_,_,_,h1,Row.nil,Row.nil,h2⟩
 by_cases h1:k=1
 ·subst h1;exact (only_1 n o u lo hi wa ga _ wc _ gc w).mono fun e w' ⟨h1,h2⟩=>⟨_,_,_,_,h1,Row.nil,Row.nil,h2⟩
 by_cases h2:k=2
 ·subst h2;exact (only_2 n o u lo hi wa ga _ wc _ gc w).mono fun e w' ⟨h1,h2⟩=>⟨_,_,_,_,h1,Row.nil,Row.nil,h2⟩
 by_cases h3:k=3
 ·subst h3;exact (only_3 n o u lo hi wa ga _ wc _ gc w).mono fun e w' ⟨h1,h2⟩=>⟨_,_,_,_,h1,hw.keep h2.same (fun _ h=>h) (fun _ _ _ h=>h),hg.keep h2.same (fun _ h=>h) (fun _ _ _ h=>h),h2⟩
 by_cases h4:k=4
 ·subst h4;exact (only_4 n o u lo hi wa ga _ wc _ gc w).mono fun e w' ⟨h1,h2⟩=>⟨_,_,_,_,h1,Row.nil,Row.nil,h2⟩
 by_cases h5:k=5
 ·subst h5;exact (only_5 n o u lo hi wa ga _ wc _ gc w).mono fun e w' ⟨h1,h2⟩=>⟨_,_,_,_,h1,Row.nil,Row.nil,h2⟩
 by_cases h6:k=6
 ·subst h6;exact (only_6 n o u lo hi wa ga _ wc _ gc w).mono fun e w' ⟨h1,h2⟩=>⟨_,_,_,_,h1,Row.nil,Row.nil,h2⟩
 by_cases h7:k=7
 ·subst h7;exact (only_7 n o u lo hi wa ga _ wc _ gc w).mono fun e w' ⟨h1,h2⟩=>⟨_,_,_,_,h1,Row.nil,Row.nil,h2⟩
 by_cases h8:k=8
 ·subst h8;exact (only_8 n o u lo hi wa ga _ wc _ gc w).mono fun e w' ⟨h1,h2⟩=>⟨_,_,_,_,h1,Row.nil,Row.nil,h2⟩
 have H:=only_no n o u k (by simp [h0]) (by simp [h1]) (by simp [h2]) (by simp [h3]) (by simp [h4]) (by simp [h5]) (by simp [h6]) (by simp [h7]) (by simp [h8]) lo hi wa ga ws.length wc gs.length gc w
 have e1:au8 ⟨n,o,u,k,lo,hi,ws,gs⟩=⟨n,nos,nos,k,0,0,[],[]⟩:=by simp [au8,ag6,ag5,ag7,ag1,ag0, *]
 rw [e1]
 exact H.mono fun e w' ⟨h1,h2⟩=>⟨_,_,_,_,h1,Row.nil,Row.nil,h2⟩
theorem isE_seq (a:ByteArray):seq a nos=isE a:=by
 have:seq a nos=decide (a=nos):=by
  rw [Bool.eq_iff_iff,aG0];simp
 rw [this,isE,ByteArray.toList_eq]
 obtain ⟨⟨l⟩⟩:=a
 cases l <;> simp [nos]
theorem aG7 {α:Type} {eq:α→α→Bool} (h:∀ a,eq a a=true):∀ l:List α,at8 eq l l=true
 | []=>rfl
 | x :: l=>by simp [at8,h x,aG7 h l]
theorem beqOf_nil {α:Type} {eq:α→α→Bool}:∀ l:List α,at8 eq l []=l.isEmpty
 | []=>rfl
 | _ :: _=>rfl
theorem same_only (f:Fld):aI8 f (au8 f)=an3 f:=by
 obtain ⟨n,o,u,k,lo,hi,ws,gs⟩:=f
 have hs:∀ (c:Bool) (x:ByteArray),seq x (if c=true then x else nos)=(c || isE x):=fun c x=>by cases c <;> simp [ar9,isE_seq]
 have hi':∀ (c:Bool) (x:Int),(x == (if c=true then x else 0))=(c || x == 0):=fun c x=>by cases c <;> simp
 have hl:∀ (c:Bool),(at8 seq ws (if c=true then ws else []) && at8 ieq gs (if c=true then gs else []))=(c || (ws.isEmpty && gs.isEmpty)):=fun c=>by
  cases c <;> simp [aG7 ar9,aG7 (eq:=ieq) (by simp [ieq]),beqOf_nil]
 simp only [aI8,au8,an3,hs,hi',hl,ar9,Bool.true_and,beq_self_eq_true,Bool.and_assoc]
structure aK4 (n o u:ByteArray) (k lo hi:Int) (nw ng:Nat) (sb:Bool) (w:World) (wa ga:Option Addr) (wc gc:Nat) (fo:Fld) (RW RG:World→Option Addr→Nat→Prop):Prop where
 only:∀ w',Ex w w'→Calls Tryz.prog 159 #[.agg #[.string n,.string o,.string u,.int .i64 k,.int .i64 lo,.int .i64 hi,.slice wa nw wc,.slice ga ng gc]] w'
   fun e w2=>∃ wa1 wc1 ga1 gc1,e = .returned (.agg #[.string fo.name,.string fo.of,.string fo.up,.int .i64 fo.kind,.int .i64 fo.lo,.int .i64 fo.hi,.slice wa1 fo.words.length wc1,.slice ga1 fo.weights.length gc1]) ∧
    Ex w' w2∧Hid (RW w2 wa1 wc1∧RG w2 ga1 gc1)
 same:∀ w' wa1 wc1 ga1 gc1,Ex w w'→RW w' wa1 wc1→RG w' ga1 gc1→Calls Tryz.prog 158 #[.agg #[.string n,.string o,.string u,.int .i64 k,.int .i64 lo,.int .i64 hi,.slice wa nw wc,.slice ga ng gc],
   .agg #[.string fo.name,.string fo.of,.string fo.up,.int .i64 fo.kind,.int .i64 fo.lo,.int .i64 fo.hi,.slice wa1 fo.words.length wc1,.slice ga1 fo.weights.length gc1]] w' fun e w2=>e = .returned (.bool sb)∧Ex w' w2
 keepW:∀ w' w2 a c,Ex w' w2→RW w' a c→RW w2 a c
 keepG:∀ w' w2 a c,Ex w' w2→RG w' a c→RG w2 a c
theorem fieldAid (f:Fld) (w:World) {F:Nat→Prop} {wa ga:Option Addr} {wc gc:Nat} (hw:aw9 w F f.words wa wc) (hg:RInts w F f.weights ga gc) (hx:SmF f) :
  aK4 f.name f.of f.up f.kind f.lo f.hi f.words.length f.weights.length (an3 f) w wa ga wc gc (au8 f) (fun w' a c=>aw9 w' F (au8 f).words a c) (fun w' a c=>RInts w' F (au8 f).weights a c):=by
 refine ⟨fun w' he=>(only_any f w' (hw.keep he.same (fun _ h=>h) (fun _ _ _ h=>h)) (hg.keep he.same (fun _ h=>h) (fun _ _ _ h=>h))).mono fun e w2 ⟨a1,a2,a3,a4,h1,h2,h3,h4⟩=>⟨a1,a2,a3,a4,h1,h4,h2,h3⟩,
  fun w' wa1 wc1 ga1 gc1 he h1 h2=>?_,fun w' w2 a c he h=>h.keep he.same (fun _ h=>h) (fun _ _ _ h=>h),fun w' w2 a c he h=>h.keep he.same (fun _ h=>h) (fun _ _ _ h=>h)⟩
 have:=same_any f (au8 f) w' (hw.keep he.same (fun _ h=>h) (fun _ _ _ h=>h)) (hg.keep he.same (fun _ h=>h) (fun _ _ _ h=>h)) (wa':=wa1) (wc':=wc1) (ga':=ga1) (gc':=gc1) (G:=F) h1 h2 hx.nwords hx.nweights
  (by have:=hx.nwords;unfold au8;simp only;split <;> simp_all) (by have:=hx.nweights;unfold au8;simp only;split <;> simp_all)
 rw [same_only] at this
 exact this
theorem isField_1 (k:Int) (n o u:ByteArray) (lo hi:Int) (nw ng:Nat) (w:World) (wa ga:Option Addr) (cw cg:Nat) (fo:Fld) (RW RG:World→Option Addr→Nat→Prop) (hr1:n.size≤9223372036854775807) (hr2:o.size≤9223372036854775807) (hr3:u.size≤9223372036854775807) (sb:Bool) (HA:aK4 n o u k lo hi nw ng sb w wa ga cw cg fo RW RG) (h1:isNm n=false) :
  Calls Tryz.prog 132 #[.agg #[.string n,.string o,.string u,.int .i64 k,.int .i64 lo,.int .i64 hi,.slice wa nw cw,.slice ga ng cg]] w fun e w'=>e = .returned (.bool false)∧Ex w w':=by
 go_enter Tryz.func132,Tryz.ntmps132
 go_wp2
 go_region_with (first|(go_at_call 129;refine (ab7 _ _ (by first|exact hr1|exact hr2|exact hr3)).mono ?_;rintro e w1 ⟨rfl,hb1⟩;(have hq7:=ru7;(try clear hc hf);obtain ⟨hb,hc,hf,hz⟩:=hq7;(try simp only [zsz7] at hz);(try have hz0:=z07 w w1);(try have hz1:=z17 w w1);(try have hz2:=z27 w w1)))|(go_at_call 159;refine (HA.only _ cl0).mono ?_;rintro e w1 ⟨wa1,wc1,ga1,gc1,rfl,hb1,hw1⟩;(have hq7:=ru7;(try clear hc hf);obtain ⟨hb,hc,hf,hz⟩:=hq7;(try simp only [zsz7] at hz);(try have hz0:=z07 w w1);(try have hz1:=z17 w w1);(try have hz2:=z27 w w1)))|(go_at_call 158;refine (HA.same _ _ _ _ _ cl0 hw1.out.1 hw1.out.2).mono ?_;rintro e w1 ⟨rfl,hb1⟩;(have hq7:=ru7;(try clear hc hf);obtain ⟨hb,hc,hf,hz⟩:=hq7;(try simp only [zsz7] at hz);(try have hz0:=z07 w w1);(try have hz1:=z17 w w1);(try have hz2:=z27 w w1))))
 all_goals go_wp2
 all_goals go_ret
 all_goals exact ⟨rfl,cl0⟩
theorem isField_2 (k:Int) (n o u:ByteArray) (lo hi:Int) (nw ng:Nat) (w:World) (wa ga:Option Addr) (cw cg:Nat) (fo:Fld) (RW RG:World→Option Addr→Nat→Prop) (hr1:n.size≤9223372036854775807) (hr2:o.size≤9223372036854775807) (hr3:u.size≤9223372036854775807) (HA:aK4 n o u k lo hi nw ng false w wa ga cw cg fo RW RG) (h1:isNm n=true) :
  Calls Tryz.prog 132 #[.agg #[.string n,.string o,.string u,.int .i64 k,.int .i64 lo,.int .i64 hi,.slice wa nw cw,.slice ga ng cg]] w fun e w'=>e = .returned (.bool false)∧Ex w w':=by
 go_enter Tryz.func132,Tryz.ntmps132
 go_wp2
 go_region_with (first|(go_at_call 129;refine (ab7 _ _ (by first|exact hr1|exact hr2|exact hr3)).mono ?_;rintro e w1 ⟨rfl,hb1⟩;(have hq7:=ru7;(try clear hc hf);obtain ⟨hb,hc,hf,hz⟩:=hq7;(try simp only [zsz7] at hz);(try have hz0:=z07 w w1);(try have hz1:=z17 w w1);(try have hz2:=z27 w w1)))|(go_at_call 159;refine (HA.only _ cl0).mono ?_;rintro e w1 ⟨wa1,wc1,ga1,gc1,rfl,hb1,hw1⟩;(have hq7:=ru7;(try clear hc hf);obtain ⟨hb,hc,hf,hz⟩:=hq7;(try simp only [zsz7] at hz);(try have hz0:=z07 w w1);(try have hz1:=z17 w w1);(try have hz2:=z27 w w1)))|(go_at_call 158;refine (HA.same _ _ _ _ _ cl0 hw1.out.1 hw1.out.2).mono ?_;rintro e w1 ⟨rfl,hb1⟩;(have hq7:=ru7;(try clear hc hf);obtain ⟨hb,hc,hf,hz⟩:=hq7;(try simp only [zsz7] at hz);(try have hz0:=z07 w w1);(try have hz1:=z17 w w1);(try have hz2:=z27 w w1))))
 all_goals go_wp2
 all_goals go_ret
 all_goals exact ⟨rfl,cl0⟩
end
end Go.Proofs.YtjbbmjjildhfbaaGreatDoor
