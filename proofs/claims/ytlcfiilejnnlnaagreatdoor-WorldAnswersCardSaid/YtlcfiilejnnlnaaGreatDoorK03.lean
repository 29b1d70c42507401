/- A part of the proof: Tab TySpec Dat Pn Ex Oq Om. -/
import Derived.Test.YtlcfiilejnnlnaaGreatDoorK02
set_option maxRecDepth 100000
set_option maxHeartbeats 20000000
set_option linter.all false
namespace Go.Proofs.YtlcfiilejnnlnaaGreatDoor
open Tryz
section
open Go
abbrev TO:=Option TI
theorem cu4 {t n:Nat} (h:¬ t<n):Nat.blt t n=false:=by
 rw [Bool.eq_false_iff];intro hb;rw [wT] at hb;exact h hb
def tt0:TO:=some ⟨false,1,[],none,none,[],false⟩
def tt1:TO:=some ⟨false,1,[],none,none,[.fn],false⟩
def tt2:TO:=some ⟨false,1,[],none,none,[.int .i64],false⟩
def tt3:TO:=some ⟨false,1,[],none,none,[.bool],false⟩
def tt4:TO:=some ⟨false,1,[],none,none,[.int .u8],false⟩
def tt5:TO:=some ⟨true,4,[(0,false,1),(1,false,1),(2,false,1),(3,false,1)],none,none,[.int .i64,.int .i64,.bool,.int .u8],false⟩
def tt6:TO:=some ⟨false,1,[],none,none,[.str],true⟩
def tt7:TO:=some ⟨false,1,[],none,none,[.int .u64],false⟩
def tt8:TO:=some ⟨true,2,[(0,false,1),(1,false,1)],none,none,[.str,.int .u64],false⟩
def tt9:TO:=some ⟨false,1,[],none,none,[.ptr],false⟩
def tt10:TO:=some ⟨true,1,[(0,false,1)],none,none,[.ptr],false⟩
def tt11:TO:=some ⟨false,1,[],none,none,[.ifc],false⟩
def tt12:TO:=some ⟨false,1,[],none,none,[.int .i32],false⟩
def tt13:TO:=some ⟨false,1,[],some (3,false,1,8),none,[.sl],false⟩
def tt14:TO:=some ⟨false,1,[],some (5,false,1,1),none,[.sl],false⟩
def tt15:TO:=some ⟨false,1,[],some (85,true,4,56),none,[.sl],false⟩
def tt16:TO:=some ⟨false,1,[],some (89,true,3,64),none,[.sl],false⟩
def tt17:TO:=some ⟨false,1,[],some (92,true,5,72),none,[.sl],false⟩
def tt18:TO:=some ⟨true,4,[(0,false,1),(1,false,1),(2,false,1),(3,false,1)],none,none,[.int .i64,.sl,.sl,.sl],false⟩
def tt19:TO:=some ⟨false,1,[],some (62,false,1,24),none,[.sl],false⟩
def tt20:TO:=some ⟨true,16,[],none,some (16,false,1),[.int .u8,.int .u8,.int .u8,.int .u8,.int .u8,.int .u8,.int .u8,.int .u8,.int .u8,.int .u8,.int .u8,.int .u8,.int .u8,.int .u8,.int .u8,.int .u8],false⟩
def tt21:TO:=some ⟨false,1,[],some (23,false,1,24),none,[.sl],false⟩
def tt22:TO:=some ⟨false,1,[],some (9,false,1,16),none,[.sl],false⟩
def tt23:TO:=some ⟨false,1,[],some (51,true,5,88),none,[.sl],false⟩
def tt24:TO:=some ⟨true,5,[(0,false,1),(1,false,1),(2,false,1),(3,false,1),(4,false,1)],none,none,[.int .i64,.sl,.sl,.sl,.int .i64],false⟩
def tt25:TO:=some ⟨true,8,[(0,false,1),(1,false,1),(2,false,1),(3,true,5)],none,none,[.int .i64,.str,.sl,.int .i64,.sl,.sl,.sl,.int .i64],false⟩
def tt26:TO:=some ⟨false,1,[],some (57,true,5,88),none,[.sl],false⟩
def tt27:TO:=some ⟨false,1,[],some (22,false,1,24),none,[.sl],false⟩
def tt28:TO:=some ⟨false,1,[],some (135,true,4,32),none,[.sl],false⟩
def tt29:TO:=some ⟨false,1,[],some (59,true,8,136),none,[.sl],false⟩
def tt30:TO:=some ⟨false,1,[],some (31,false,1,24),none,[.sl],false⟩
def tt31:TO:=some ⟨true,1,[(0,false,1)],none,none,[.sl],false⟩
def tt32:TO:=some ⟨true,2,[(0,false,1),(1,false,1)],none,none,[.sl,.int .i64],false⟩
def tt33:TO:=some ⟨false,1,[],some (97,true,8,120),none,[.sl],false⟩
def tt34:TO:=some ⟨true,4,[(0,false,1),(1,false,1),(2,false,1),(3,false,1)],none,none,[.str,.int .i64,.int .i64,.sl],false⟩
def tt35:TO:=some ⟨false,1,[],some (90,true,2,16),none,[.sl],false⟩
def tt36:TO:=some ⟨true,3,[(0,false,1),(1,false,1),(2,false,1)],none,none,[.str,.sl,.sl],false⟩
def tt37:TO:=some ⟨true,2,[],none,some (2,false,1),[.int .i64,.int .i64],false⟩
def tt38:TO:=some ⟨true,5,[(0,false,1),(1,false,1),(2,false,1),(3,false,1),(4,false,1)],none,none,[.str,.str,.str,.str,.int .i64],false⟩
def tt39:TO:=some ⟨true,8,[(0,false,1),(1,false,1),(2,false,1),(3,false,1),(4,false,1),(5,false,1),(6,false,1),(7,false,1)],none,none,[.str,.str,.str,.int .i64,.int .i64,.int .i64,.sl,.sl],false⟩
def tt40:TO:=some ⟨true,4,[(0,false,1),(1,false,1),(2,false,1),(3,false,1)],none,none,[.int .i64,.int .i64,.int .i64,.int .i64],false⟩
def tt41:TO:=some ⟨false,1,[],none,none,[.map],false⟩
def tt42:TO:=some ⟨true,7,[(0,true,4),(4,false,1),(5,false,1),(6,false,1)],none,none,[.int .i64,.sl,.sl,.sl,.sl,.int .i64,.map],false⟩
def tt43:TO:=some ⟨false,1,[],some (4,false,1,1),none,[.sl],false⟩
def tt44:TO:=some ⟨false,1,[],some (147,true,3,24),none,[.sl],false⟩
def tt45:TO:=some ⟨true,9,[(0,true,4),(4,false,1),(5,false,1),(6,false,1),(7,false,1),(8,false,1)],none,none,[.int .i64,.sl,.sl,.sl,.sl,.sl,.map,.map,.sl],false⟩
def tt46:TO:=some ⟨true,3,[(0,false,1),(1,false,1),(2,false,1)],none,none,[.int .i64,.int .i64,.int .i64],false⟩
def tt47:TO:=some ⟨false,1,[],some (151,true,4,32),none,[.sl],false⟩
def tt48:TO:=some ⟨true,6,[(0,true,4),(4,false,1),(5,false,1)],none,none,[.int .i64,.sl,.sl,.sl,.ifc,.bool],false⟩
def tt49:TO:=some ⟨false,1,[],none,none,[.int .u32],false⟩
def tt50:TO:=some ⟨true,8,[],none,some (8,false,1),[.int .u32,.int .u32,.int .u32,.int .u32,.int .u32,.int .u32,.int .u32,.int .u32],false⟩
def tt51:TO:=some ⟨true,64,[],none,some (64,false,1),[.int .u8,.int .u8,.int .u8,.int .u8,.int .u8,.int .u8,.int .u8,.int .u8,.int .u8,.int .u8,.int .u8,.int .u8,.int .u8,.int .u8,.int .u8,.int .u8,.int .u8,.int .u8,.int .u8,.int .u8,.int .u8,.int .u8,.int .u8,.int .u8,.int .u8,.int .u8,.int .u8,.int .u8,.int .u8,.int .u8,.int .u8,.int .u8,.int .u8,.int .u8,.int .u8,.int .u8,.int .u8,.int .u8,.int .u8,.int .u8,.int .u8,.int .u8,.int .u8,.int .u8,.int .u8,.int .u8,.int .u8,.int .u8,.int .u8,.int .u8,.int .u8,.int .u8,.int .u8,.int .u8,.int .u8,.int .u8,.int .u8,.int .u8,.int .u8,.int .u8,.int .u8,.int .u8,.int .u8,.int .u8],false⟩
def tt52:TO:=some ⟨true,73,[(0,true,8),(8,true,64),(72,false,1)],none,none,[.int .u32,.int .u32,.int .u32,.int .u32,.int .u32,.int .u32,.int .u32,.int .u32,.int .u8,.int .u8,.int .u8,.int .u8,.int .u8,.int .u8,.int .u8,.int .u8,.int .u8,.int .u8,.int .u8,.int .u8,.int .u8,.int .u8,.int .u8,.int .u8,.int .u8,.int .u8,.int .u8,.int .u8,.int .u8,.int .u8,.int .u8,.int .u8,.int .u8,.int .u8,.int .u8,.int .u8,.int .u8,.int .u8,.int .u8,.int .u8,.int .u8,.int .u8,.int .u8,.int .u8,.int .u8,.int .u8,.int .u8,.int .u8,.int .u8,.int .u8,.int .u8,.int .u8,.int .u8,.int .u8,.int .u8,.int .u8,.int .u8,.int .u8,.int .u8,.int .u8,.int .u8,.int .u8,.int .u8,.int .u8,.int .u8,.int .u8,.int .u8,.int .u8,.int .u8,.int .u8,.int .u8,.int .u8,.int .u64],false⟩
def tt53:TO:=some ⟨true,32,[],none,some (32,false,1),[.int .u8,.int .u8,.int .u8,.int .u8,.int .u8,.int .u8,.int .u8,.int .u8,.int .u8,.int .u8,.int .u8,.int .u8,.int .u8,.int .u8,.int .u8,.int .u8,.int .u8,.int .u8,.int .u8,.int .u8,.int .u8,.int .u8,.int .u8,.int .u8,.int .u8,.int .u8,.int .u8,.int .u8,.int .u8,.int .u8,.int .u8,.int .u8],false⟩
def tt54:TO:=some ⟨false,1,[],some (114,true,4,32),none,[.sl],false⟩
def tt55:TO:=some ⟨false,1,[],some (191,true,4,32),none,[.sl],false⟩
def tt56:TO:=some ⟨false,1,[],some (234,true,2,16),none,[.sl],false⟩
def tt57:TO:=some ⟨false,1,[],some (130,false,1,24),none,[.sl],false⟩
def tt58:TO:=some ⟨false,1,[],some (43,false,1,8),none,[.sl],false⟩
def tt59:TO:=some ⟨true,2,[(0,false,1),(1,false,1)],none,none,[.int .i64,.int .i64],false⟩
def tt60:TO:=some ⟨true,2,[(0,false,1),(1,false,1)],none,none,[.bool,.int .i64],false⟩
def tt61:TO:=some ⟨true,1,[(0,false,1)],none,none,[.fn],false⟩
def tt62:TO:=some ⟨true,14,[(0,true,4),(4,false,1),(5,false,1),(6,true,8)],none,none,[.int .i64,.sl,.sl,.sl,.int .i64,.int .i64,.str,.str,.str,.int .i64,.int .i64,.int .i64,.sl,.sl],false⟩
def tt63:TO:=some ⟨false,1,[],some (48,false,1,24),none,[.sl],false⟩
def tt64:TO:=some ⟨true,2,[(0,false,1),(1,false,1)],none,none,[.ptr,.sl],false⟩
def tt65:TO:=some ⟨true,12,[],none,some (12,false,1),[.bool,.bool,.bool,.bool,.bool,.bool,.bool,.bool,.bool,.bool,.bool,.bool],false⟩
def tt66:TO:=some ⟨true,64,[],none,some (64,false,1),[.int .u32,.int .u32,.int .u32,.int .u32,.int .u32,.int .u32,.int .u32,.int .u32,.int .u32,.int .u32,.int .u32,.int .u32,.int .u32,.int .u32,.int .u32,.int .u32,.int .u32,.int .u32,.int .u32,.int .u32,.int .u32,.int .u32,.int .u32,.int .u32,.int .u32,.int .u32,.int .u32,.int .u32,.int .u32,.int .u32,.int .u32,.int .u32,.int .u32,.int .u32,.int .u32,.int .u32,.int .u32,.int .u32,.int .u32,.int .u32,.int .u32,.int .u32,.int .u32,.int .u32,.int .u32,.int .u32,.int .u32,.int .u32,.int .u32,.int .u32,.int .u32,.int .u32,.int .u32,.int .u32,.int .u32,.int .u32,.int .u32,.int .u32,.int .u32,.int .u32,.int .u32,.int .u32,.int .u32,.int .u32],false⟩
def tt67:TO:=some ⟨true,4,[],none,some (4,false,1),[.int .u32,.int .u32,.int .u32,.int .u32],false⟩
def tt68:TO:=some ⟨false,1,[],some (168,false,1,4),none,[.sl],false⟩
def tt69:TO:=some ⟨false,1,[],some (242,true,2,16),none,[.sl],false⟩
def tt70:TO:=some ⟨false,1,[],some (20,false,1,16),none,[.sl],false⟩
def tt71:TO:=some ⟨true,9,[],none,some (9,false,1),[.str,.str,.str,.str,.str,.str,.str,.str,.str],false⟩
def tt72:TO:=some ⟨true,24,[],none,some (24,false,1),[.int .u8,.int .u8,.int .u8,.int .u8,.int .u8,.int .u8,.int .u8,.int .u8,.int .u8,.int .u8,.int .u8,.int .u8,.int .u8,.int .u8,.int .u8,.int .u8,.int .u8,.int .u8,.int .u8,.int .u8,.int .u8,.int .u8,.int .u8,.int .u8],false⟩
def tt73:TO:=some ⟨true,20,[],none,some (20,false,1),[.int .u64,.int .u64,.int .u64,.int .u64,.int .u64,.int .u64,.int .u64,.int .u64,.int .u64,.int .u64,.int .u64,.int .u64,.int .u64,.int .u64,.int .u64,.int .u64,.int .u64,.int .u64,.int .u64,.int .u64],false⟩
def tt74:TO:=some ⟨true,65,[],none,some (65,false,1),[.int .u8,.int .u8,.int .u8,.int .u8,.int .u8,.int .u8,.int .u8,.int .u8,.int .u8,.int .u8,.int .u8,.int .u8,.int .u8,.int .u8,.int .u8,.int .u8,.int .u8,.int .u8,.int .u8,.int .u8,.int .u8,.int .u8,.int .u8,.int .u8,.int .u8,.int .u8,.int .u8,.int .u8,.int .u8,.int .u8,.int .u8,.int .u8,.int .u8,.int .u8,.int .u8,.int .u8,.int .u8,.int .u8,.int .u8,.int .u8,.int .u8,.int .u8,.int .u8,.int .u8,.int .u8,.int .u8,.int .u8,.int .u8,.int .u8,.int .u8,.int .u8,.int .u8,.int .u8,.int .u8,.int .u8,.int .u8,.int .u8,.int .u8,.int .u8,.int .u8,.int .u8,.int .u8,.int .u8,.int .u8,.int .u8],false⟩
def tt75:TO:=some ⟨true,4,[(0,false,1),(1,false,1),(2,false,1),(3,false,1)],none,none,[.ptr,.ptr,.ptr,.str],false⟩
def tt76:TO:=some ⟨true,0,[],none,some (0,false,1),[],false⟩
def tt77:TO:=some ⟨true,0,[(0,true,0)],none,none,[],false⟩
def tt78:TO:=some ⟨true,11,[(0,false,1),(1,false,1),(2,false,1),(3,false,1),(4,false,1),(5,false,1),(6,false,1),(7,false,1),(8,false,1),(9,false,1),(10,false,1)],none,none,[.int .u64,.int .u64,.int .u32,.int .u8,.int .u8,.int .u8,.int .u8,.fn,.ptr,.int .i32,.int .i32],false⟩
def tget (t:Nat):TO:=bif Nat.blt t 365 then (bif Nat.blt t 182 then (bif Nat.blt t 91 then (bif Nat.blt t 45 then (bif Nat.blt t 22 then (bif Nat.blt t 11 then (bif Nat.blt t 5 then (bif Nat.blt t 2 then (bif Nat.blt t 1 then (tt0) else (tt1)) else (bif Nat.blt t 3 then (tt2) else (bif Nat.blt t 4 then (tt2) else (tt3)))) else (bif Nat.blt t 8 then (bif Nat.blt t 6 then (tt4) else (bif Nat.blt t 7 then (tt4) else (tt5))) else (bif Nat.blt t 9 then (tt5) else (tt6)))) else (bif Nat.blt t 16 then (bif Nat.blt t 13 then (bif Nat.blt t 12 then (tt6) else (tt7)) else (bif Nat.blt t 14 then (tt8) else (bif Nat.blt t 15 then (tt8) else (tt9)))) else (bif Nat.blt t 19 then (bif Nat.blt t 17 then (tt9) else (bif Nat.blt t 18 then (tt9) else (tt10))) else (bif Nat.blt t 20 then (tt10) else (bif Nat.blt t 21 then (tt11) else (tt12)))))) else (bif Nat.blt t 33 then (bif Nat.blt t 27 then (bif Nat.blt t 24 then (bif Nat.blt t 23 then (tt13) else (tt14)) else (bif Nat.blt t 25 then (tt15) else (bif Nat.blt t 26 then (tt16) else (tt17)))) else (bif Nat.blt t 30 then (bif Nat.blt t 28 then (tt18) else (bif Nat.blt t 29 then (tt18) else (tt1))) else (bif Nat.blt t 31 then (tt19) else (bif Nat.blt t 32 then (tt19) else (tt1))))) else (bif Nat.blt t 39 then (bif Nat.blt t 36 then (tt1) else (bif Nat.blt t 37 then (tt1) else (tt20))) else (bif Nat.blt t 42 then (tt1) else (bif Nat.blt t 43 then (tt21) else (bif Nat.blt t 44 then (tt2) else (tt0))))))) else (bif Nat.blt t 68 then (bif Nat.blt t 56 then (bif Nat.blt t 50 then (bif Nat.blt t 47 then (tt1) else (bif Nat.blt t 48 then (tt1) else (bif Nat.blt t 49 then (tt22) else (tt23)))) else (bif Nat.blt t 53 then (bif Nat.blt t 51 then (tt24) else (bif Nat.blt t 52 then (tt24) else (tt25))) else (bif Nat.blt t 54 then (tt25) else (bif Nat.blt t 55 then (tt1) else (tt26))))) else (bif Nat.blt t 62 then (bif Nat.blt t 59 then (bif Nat.blt t 57 then (tt24) else (bif Nat.blt t 58 then (tt24) else (tt25))) else (bif Nat.blt t 60 then (tt25) else (tt1))) else (bif Nat.blt t 65 then (bif Nat.blt t 63 then (tt27) else (bif Nat.blt t 64 then (tt0) else (tt1))) else (bif Nat.blt t 66 then (tt1) else (bif Nat.blt t 67 then (tt1) else (tt28)))))) else (bif Nat.blt t 79 then (bif Nat.blt t 73 then (bif Nat.blt t 70 then (tt1) else (bif Nat.blt t 71 then (tt1) else (bif Nat.blt t 72 then (tt29) else (tt30)))) else (bif Nat.blt t 76 then (bif Nat.blt t 74 then (tt1) else (bif Nat.blt t 75 then (tt1) else (tt31))) else (bif Nat.blt t 77 then (tt31) else (tt1)))) else (bif Nat.blt t 85 then (bif Nat.blt t 82 then (bif Nat.blt t 80 then (tt9) else (tt32)) else (bif Nat.blt t 83 then (tt1) else (bif Nat.blt t 84 then (tt33) else (tt34)))) else (bif Nat.blt t 88 then (bif Nat.blt t 86 then (tt34) else (bif Nat.blt t 87 then (tt1) else (tt35))) else (bif Nat.blt t 89 then (tt36) else (bif Nat.blt t 90 then (tt36) else (tt37)))))))) else (bif Nat.blt t 136 then (bif Nat.blt t 113 then (bif Nat.blt t 102 then (bif Nat.blt t 96 then (bif Nat.blt t 93 then (tt38) else (bif Nat.blt t 94 then (tt0) else (tt1))) else (bif Nat.blt t 99 then (bif Nat.blt t 97 then (tt39) else (bif Nat.blt t 98 then (tt39) else (tt1))) else (tt1))) else (bif Nat.blt t 107 then (bif Nat.blt t 104 then (tt1) else (bif Nat.blt t 105 then (tt1) else (bif Nat.blt t 106 then (tt1) else (tt0)))) else (bif Nat.blt t 110 then (bif Nat.blt t 108 then (tt1) else (bif Nat.blt t 109 then (tt1) else (tt0))) else (bif Nat.blt t 111 then (tt0) else (tt1))))) else (bif Nat.blt t 124 then (bif Nat.blt t 118 then (bif Nat.blt t 115 then (tt40) else (bif Nat.blt t 116 then (tt1) else (bif Nat.blt t 117 then (tt9) else (tt32)))) else (bif Nat.blt t 121 then (bif Nat.blt t 119 then (tt32) else (tt1)) else (bif Nat.blt t 122 then (tt9) else (bif Nat.blt t 123 then (tt0) else (tt1))))) else (bif Nat.blt t 130 then (bif Nat.blt t 127 then (bif Nat.blt t 125 then (tt1) else (bif Nat.blt t 126 then (tt9) else (tt1))) else (bif Nat.blt t 128 then (tt41) else (tt42))) else (bif Nat.blt t 133 then (bif Nat.blt t 131 then (tt43) else (tt1)) else (bif Nat.blt t 134 then (tt1) else (bif Nat.blt t 135 then (tt1) else (tt40))))))) else (bif Nat.blt t 159 then (bif Nat.blt t 147 then (bif Nat.blt t 141 then (bif Nat.blt t 138 then (tt1) else (bif Nat.blt t 139 then (tt41) else (tt1))) else (bif Nat.blt t 144 then (bif Nat.blt t 142 then (tt44) else (tt41)) else (bif Nat.blt t 145 then (tt45) else (bif Nat.blt t 146 then (tt45) else (tt46))))) else (bif Nat.blt t 153 then (bif Nat.blt t 150 then (bif Nat.blt t 148 then (tt46) else (bif Nat.blt t 149 then (tt47) else (tt1))) else (bif Nat.blt t 151 then (tt40) else (bif Nat.blt t 152 then (tt40) else (tt1)))) else (bif Nat.blt t 156 then (bif Nat.blt t 154 then (tt1) else (tt11)) else (bif Nat.blt t 157 then (tt9) else (tt48))))) else (bif Nat.blt t 170 then (bif Nat.blt t 164 then (tt1) else (bif Nat.blt t 167 then (tt1) else (bif Nat.blt t 168 then (tt7) else (bif Nat.blt t 169 then (tt49) else (tt50))))) else (bif Nat.blt t 176 then (bif Nat.blt t 173 then (bif Nat.blt t 171 then (tt51) else (tt52)) else (tt1)) else (bif Nat.blt t 179 then (bif Nat.blt t 177 then (tt53) else (tt1)) else (bif Nat.blt t 180 then (tt1) else (bif Nat.blt t 181 then (tt7) else (tt1))))))))) else (bif Nat.blt t 273 then (bif Nat.blt t 227 then (bif Nat.blt t 204 then (bif Nat.blt t 193 then (bif Nat.blt t 187 then (bif Nat.blt t 184 then (tt1) else (bif Nat.blt t 185 then (tt54) else (tt1))) else (bif Nat.blt t 190 then (bif Nat.blt t 188 then (tt1) else (bif Nat.blt t 189 then (tt1) else (tt55))) else (bif Nat.blt t 191 then (tt1) else (bif Nat.blt t 192 then (tt40) else (tt1))))) else (bif Nat.blt t 198 then (tt1) else (bif Nat.blt t 201 then (bif Nat.blt t 199 then (tt1) else (bif Nat.blt t 200 then (tt56) else (tt0))) else (tt1)))) else (bif Nat.blt t 215 then (bif Nat.blt t 209 then (bif Nat.blt t 206 then (tt1) else (bif Nat.blt t 207 then (tt57) else (bif Nat.blt t 208 then (tt0) else (tt1)))) else (bif Nat.blt t 212 then (bif Nat.blt t 210 then (tt1) else (bif Nat.blt t 211 then (tt0) else (tt58))) else (tt1))) else (bif Nat.blt t 221 then (bif Nat.blt t 218 then (bif Nat.blt t 216 then (tt1) else (bif Nat.blt t 217 then (tt1) else (tt0))) else (tt1)) else (tt1)))) else (bif Nat.blt t 250 then (bif Nat.blt t 238 then (bif Nat.blt t 232 then (bif Nat.blt t 229 then (bif Nat.blt t 228 then (tt0) else (tt1)) else (bif Nat.blt t 230 then (tt0) else (tt1))) else (bif Nat.blt t 235 then (bif Nat.blt t 233 then (tt1) else (tt59)) else (tt1))) else (bif Nat.blt t 244 then (bif Nat.blt t 241 then (tt1) else (bif Nat.blt t 242 then (tt60) else (bif Nat.blt t 243 then (tt60) else (tt1)))) else (bif Nat.blt t 247 then (bif Nat.blt t 245 then (tt61) else (bif Nat.blt t 246 then (tt0) else (tt41))) else (bif Nat.blt t 248 then (tt62) else (bif Nat.blt t 249 then (tt62) else (tt0)))))) else (bif Nat.blt t 261 then (bif Nat.blt t 255 then (tt1) else (bif Nat.blt t 258 then (bif Nat.blt t 256 then (tt1) else (bif Nat.blt t 257 then (tt1) else (tt63))) else (bif Nat.blt t 259 then (tt1) else (bif Nat.blt t 260 then (tt1) else (tt0))))) else (bif Nat.blt t 267 then (bif Nat.blt t 264 then (bif Nat.blt t 262 then (tt1) else (bif Nat.blt t 263 then (tt0) else (tt1))) else (bif Nat.blt t 265 then (tt9) else (tt64))) else (bif Nat.blt t 270 then (bif Nat.blt t 268 then (tt1) else (tt11)) else (bif Nat.blt t 271 then (tt0) else (tt1))))))) else (bif Nat.blt t 319 then (bif Nat.blt t 296 then (bif Nat.blt t 284 then (bif Nat.blt t 278 then (bif Nat.blt t 275 then (tt1) else (bif Nat.blt t 276 then (tt1) else (tt65))) else (tt1)) else (bif Nat.blt t 290 then (bif Nat.blt t 287 then (bif Nat.blt t 285 then (tt1) else (bif Nat.blt t 286 then (tt1) else (tt0))) else (tt1)) else (bif Nat.blt t 293 then (tt1) else (bif Nat.blt t 294 then (tt66) else (bif Nat.blt t 295 then (tt1) else (tt67)))))) else (bif Nat.blt t 307 then (bif Nat.blt t 301 then (bif Nat.blt t 298 then (bif Nat.blt t 297 then (tt68) else (tt1)) else (tt1)) else (bif Nat.blt t 304 then (bif Nat.blt t 302 then (tt1) else (bif Nat.blt t 303 then (tt1) else (tt69))) else (bif Nat.blt t 305 then (tt1) else (bif Nat.blt t 306 then (tt41) else (tt1))))) else (bif Nat.blt t 313 then (bif Nat.blt t 310 then (bif Nat.blt t 308 then (tt9) else (tt1)) else (tt1)) else (bif Nat.blt t 316 then (bif Nat.blt t 314 then (tt1) else (bif Nat.blt t 315 then (tt1) else (tt0))) else (tt1))))) else (bif Nat.blt t 342 then (bif Nat.blt t 330 then (bif Nat.blt t 324 then (bif Nat.blt t 321 then (bif Nat.blt t 320 then (tt1) else (tt70)) else (bif Nat.blt t 322 then (tt1) else (bif Nat.blt t 323 then (tt1) else (tt9)))) else (bif Nat.blt t 327 then (tt1) else (bif Nat.blt t 328 then (tt0) else (tt1)))) else (bif Nat.blt t 336 then (tt1) else (bif Nat.blt t 339 then (bif Nat.blt t 337 then (tt71) else (tt1)) else (bif Nat.blt t 340 then (tt1) else (bif Nat.blt t 341 then (tt1) else (tt72)))))) else (bif Nat.blt t 353 then (bif Nat.blt t 347 then (bif Nat.blt t 344 then (tt1) else (bif Nat.blt t 345 then (tt0) else (tt1))) else (bif Nat.blt t 350 then (bif Nat.blt t 348 then (tt73) else (bif Nat.blt t 349 then (tt74) else (tt1))) else (bif Nat.blt t 351 then (tt1) else (tt75)))) else (bif Nat.blt t 359 then (bif Nat.blt t 356 then (bif Nat.blt t 354 then (tt76) else (tt77)) else (bif Nat.blt t 357 then (tt1) else (tt4))) else (bif Nat.blt t 362 then (bif Nat.blt t 360 then (tt1) else (tt12)) else (bif Nat.blt t 363 then (tt78) else (bif Nat.blt t 364 then (tt78) else (tt1)))))))))) else none
theorem ca8:((List.range 365).all fun t=>decide (tiOf prog t=tget t))=true:=by kernel_rfl
def wY:=@of_decide_eq_true
theorem aa0 (t:TypeId) (i:TI) (h:tget t=some i):tiOf prog t=some i:=by
 by_cases ht:t<365
 ·have:=yA.1 ca8 t (xT.2 ht);rw [wY this];exact h
 ·unfold tget at h;rw [cu4 ht] at h
  cases h
theorem mixed:prog.follows .mixedOrders=true:=by kernel_rfl
end
section
open Go
def aa9 (x:Sch) (n:ByteArray):Int:=idx (fun k=>seq k.name n) x.kz
def aa4 (k:Knd) (n:ByteArray):Int:=idx (fun f=>seq f.name n) k.fields
def af6 (x:Sch) (i:Int):Option Knd:=if 0<=i then x.kz[i.toNat]? else none
def fieldAt (x:Sch) (i j:Int):Option Fld:=match af6 x i with|some k=>if 0<=j then k.fields[j.toNat]? else none|none=>none
def refUp (x:Sch) (i:Int) (f:Fld):Int:=if aa9 x f.of<i then aa9 x f.of else -1
def aO8 (u j:Int):Option Fld->Option Fld
 | some g=>if u<j/\g.kind=1 then some g else none
 | none=>none
def bi3 (x:Sch) (i j:Int) (f:Fld):Option Fld:=
 match af6 x i with
 | none=>none
 | some k=>aO8 (aa4 k f.up) j (fieldAt x i (aa4 k f.up))
def aB8 (x:Sch) (i:Int):Option Fld->Int
 | some g=>refUp x i g
 | none=>-1
def upIx (x:Sch) (i j:Int):Int:=
 match fieldAt x i j with
 | none=>-1
 | some f=>if f.kind=7\/f.kind=8 then aB8 x i (bi3 x i j f) else if f.kind=1 then refUp x i f else -1
def aA5 (x:Sch) (i:Int) (f:Fld):List Int:=
 match af6 x (aa9 x f.of) with
 | none=>[]
 | some k=>((List.range k.fields.length).filter fun (j:Nat)=>match k.fields[j]? with|some g=>decide (g.kind=7)&&seq g.of f.name&&decide (upIx x (aa9 x f.of) j=i)|none=>false).map (fun (j:Nat)=>(j:Int))
def aw6 (x:Sch) (i:Int) (f:Fld):Bool:=!decide (f.kind=6)||decide (aa9 x f.of<=i)
end
section
open Go
abbrev iD (n:Int):D:=.v (.int .i64 n)
abbrev bD (b:Bool):D:=.v (.bool b)
abbrev sD (s:ByteArray):D:=.v (.string s)
def slI (xs:List Int):D:=.sl 1 (xs.map fun x=>[iD x])
def slS (xs:List ByteArray):D:=.sl 1 (xs.map fun x=>[sD x])
def fldC (f:Fld):List D:=[sD f.name,sD f.of,sD f.up,iD f.kind,iD f.lo,iD f.hi,slS f.words,slI f.wz]
def slF (xs:List Fld):D:=.sl 8 (xs.map fldC)
def kndC (k:Knd):List D:=[sD k.name,iD k.lo,iD k.hi,slF k.fields]
def slK (xs:List Knd):D:=.sl 4 (xs.map kndC)
def movC (m:Int × Int):List D:=[iD m.1,iD m.2]
def lifC (x:Lif):List D:=[sD x.name,slS x.tz,.sl 2 (x.mz.map movC)]
def slL (xs:List Lif):D:=.sl 3 (xs.map lifC)
def rulC (x:Rul):List D:=[sD x.name,sD x.kind,sD x.a,sD x.b,iD x.n]
def slR (xs:List Rul):D:=.sl 5 (xs.map rulC)
def schC (x:Sch):List D:=[iD x.vz,slK x.kz,slL x.lz,slR x.rules]
abbrev schD (x:Sch):D:=.agg (schC x)
abbrev kndD (x:Knd):D:=.agg (kndC x)
abbrev fldD (x:Fld):D:=.agg (fldC x)
abbrev lifD (x:Lif):D:=.agg (lifC x)
abbrev rulD (x:Rul):D:=.agg (rulC x)
theorem cp7 {α β:Type} {f:α->β} {l:List α} {i:Nat} {x:α} (h:l[i]?=some x):(l.map f)[i]?=some (f x):=by rw [zP,h];rfl
end
section
open Go Go.RowKit Go.Shelf
section
variable {P:Program} {r:Option Nat} {n:Nat} {df:Nat} {ops:Array Oper} {Q:Pst} {a:List D} {σ:aa1} {w:World} {X:Nat->Prop} {ρ:Operand->D}
def Le (d d':D):Prop:=∀ (w:World) (O:Nat->Prop) (v:Value),Rd w O d v->Rd w O d' v
inductive LeL:List D->List D->Prop
 | nil:LeL [] []
 | cons {d d':D} {ds ds':List D} (h:Le d d') (t:LeL ds ds'):LeL (d::ds) (d'::ds')
theorem Le.refl (d:D):Le d d:=fun _ _ _ h=>h
theorem ai5 (k:Nat):Le (.v (.slice none 0 0)) (.sl k []):=fun w O v h=>by
 have:=h.val rfl;subst this;exact .sl k [] none 0 (fun _ _=>undef) (zT _) (by simp) (fun i x hx=>by simp at hx) (fun i x hx=>by simp at hx)
theorem LeL.rd {ds ds':List D} (h:LeL ds ds') {O:Nat->Prop}:∀ {vs:List Value},RdL w O ds vs->RdL w O ds' vs:=by
 induction h with
 | nil=>exact fun h=>h
 | cons h t ih=>
  intro vs hv
  cases vs with
  | nil=>have:=hv.len;simp at this
  | cons v vs=>
   exact .cons (h _ _ _ (hv.at_ 0 _ _ rfl rfl)) (ih ⟨by have:=hv.len;simpa using this,fun j d u h1 h2=>hv.at_ (j+1) d u (by simpa using h1) (by simpa using h2)⟩)
theorem bW8 {ds ds':List D} (h:LeL ds ds'):Le (.agg ds) (.agg ds'):=fun w O v hv=>by
 obtain⟨vs,rfl,h1⟩:=hv.agg_inv;have:=h.rd h1;exact .agg _ _ this.len this.at_
theorem br1 {ds ds':List D} (h:LeL ds ds'):Le (.tup ds) (.tup ds'):=fun w O v hv=>by
 obtain⟨vs,rfl,h1⟩:=hv.tup_inv;have:=h.rd h1;exact .tup _ _ this.len this.at_
theorem bL7 {fn:Func} {i1 i2 i3 i4 i5:Tmp} (h:fn.results = #[.tmp i1,.tmp i2,.tmp i3,.tmp i4,.tmp i5]) :
  ResOK P fn a σ (.tup [a.getD i1 (.v undef),a.getD i2 (.v undef),a.getD i3 (.v undef),a.getD i4 (.v undef),a.getD i5 (.v undef)]):=fun w X t hf _=>by
 refine⟨.tuple #[t.getD i1 undef,t.getD i2 undef,t.getD i3 undef,t.getD i4 undef,t.getD i5 undef],by simp [results,h],?_⟩;have:=RdL.cons (al7 hf i1) (RdL.cons (al7 hf i2) (RdL.cons (al7 hf i3) (RdL.cons (al7 hf i4) (RdL.cons (al7 hf i5) RdL.nil))));exact .tup _ _ this.len this.at_
end
end
section
open Go Go.RowKit Go.Shelf
abbrev Frm:=List (Nat × D)
def ap4:Frm->Nat->Option D
 | [],_=>none
 | (i,d)::f,t=>bif Nat.beq i t then some d else ap4 f t
def evF (f:Frm):Operand->D
 | .tmp t=>match ap4 f t with|some d=>d|none=>.any
 | .const v=>.v v
 | .global g=>.v (.pointer (some ⟨g,0,none⟩))
 | .func f=>.v (.func (.func f) #[] #[])
structure Sp (N:Nat) (a:List D) (f:Frm):Prop where
 len:a.length=N
 at_:∀ i d,ap4 f i=some d->d = .any\/a[i]?=some d
section
variable {N:Nat} {a:List D} {f:Frm}
theorem Sp.le (h:Sp N a f) (x:Operand):Le (evD a x) (evF f x):=by
 cases x with
 | tmp t=>
  simp only [evF]
  cases hl:ap4 f t with
  | none=>exact fun _ _ v _=>.any v
  | some d=>
   rcases h.at_ t d hl with rfl|h1
   ·exact fun _ _ v _=>.any v
   ·simp only [evD,List.getD_eq_getElem?_getD,h1];exact Le.refl _
 | _=>exact Le.refl _
theorem Sp.eq (h:Sp N a f) {x:Operand} {d:D} (he:evF f x=d) (hd:d ≠ .any):evD a x=d:=by
 cases x with
 | tmp t=>
  simp only [evF] at he
  cases hl:ap4 f t with
  | none=>rw [hl] at he;exact absurd he.symm hd
  | some d'=>
   rw [hl] at he;simp only at he;subst he;rcases h.at_ t d' hl with h0|h1
   ·exact absurd h0 hd
   ·simp [evD,List.getD_eq_getElem?_getD,h1]
 | _=>exact he
theorem Yd.le {P:Program} {o:Oper} {ρ ρ':Operand->D} {σ:aa1} {d:D} (h:∀ x,Le (ρ x) (ρ' x)) (hy:Yd P o ρ' σ d):Yd P o ρ σ d:=
 fun w X η hη hs=>hy w X η (fun x hx=>h x _ _ _ (hη x hx)) hs
def putK (N:Nat) (dst:Option Tmp) (d:D) (f:Frm) (K:Frm->Prop):Prop:=
 match dst with
 | none=>K f
 | some i=>bif Nat.blt i N then K ((i,d)::f) else False
def yH:=@Nat.eq_of_beq_eq_true
theorem ae5 {dst:Option Tmp} {d:D} {K:Frm->Prop} (h:putK N dst d f K) (hs:Sp N a f):∃ f',Sp N (putD a dst d) f'/\K f':=by
 cases dst with
 | none=>exact⟨f,hs,h⟩
 | some i=>
  simp only [putK] at h
  cases hb:Nat.blt i N with
  | false=>rw [hb] at h;exact h.elim
  | true=>
   rw [hb] at h;rw [wT] at hb;refine⟨_,⟨by simp [putD,hs.len],fun j d' hj=>?_⟩,h⟩;simp only [ap4] at hj
   cases he:Nat.beq i j with
   | true=>
    rw [he] at hj;simp only [cond_true,xB] at hj;have:=yH he;subst this hj;exact .inr (by simp [putD,hs.len,hb])
   | false=>
    rw [he] at hj;have hne:i≠j:=fun e=>by subst e;simp at he
    rcases hs.at_ j d' hj with h1|h1
    ·exact .inl h1
    ·exact .inr (by simp [putD,xP,hne,h1])
end
def ab7 (d:D) (K:D->Prop):Prop:=match d with
 | .v x=>K (.v x)
 | .any=>K .any
 | .sl k xs=>K (.sl k xs)
 | .ro cs=>K (.ro cs)
 | .agg cs=>K (.agg cs)
 | .tup ds=>K (.tup ds)
 | .clo f cs=>K (.clo f cs)
 | .gl g=>K (.gl g)
 | .ifc t d=>K (.ifc t d)
theorem ae8 {d:D} {K:D->Prop} (h:ab7 d K):K d:=by cases d<;>exact h
def au4:List D->(List D->Prop)->Prop
 | [],K=>K []
 | d::ds,K=>ab7 d fun d=>au4 ds fun ds=>K (d::ds)
theorem ak5:∀ {l:List D} {K:List D->Prop},au4 l K->K l
 | [],_,h=>h
 | d::ds,K,h=>ak5 (K:=fun ds=>K (d::ds)) (ae8 (K:=fun d=>au4 ds fun ds=>K (d::ds)) h)
def aH9:List (List D)->(List (List D)->Prop)->Prop
 | [],K=>K []
 | x::xs,K=>au4 x fun x=>aH9 xs fun xs=>K (x::xs)
theorem aU8:∀ {l:List (List D)} {K:List (List D)->Prop},aH9 l K->K l
 | [],_,h=>h
 | x::xs,K,h=>aU8 (K:=fun xs=>K (x::xs)) (ak5 (K:=fun x=>aH9 xs fun xs=>K (x::xs)) h)
def bH7:Nat->List D->(List D->Prop)->Prop
 | 0,l,K=>K l
 | _+1,[],K=>K []
 | n+1,_::l,K=>bH7 n l K
theorem aM0:∀ {n:Nat} {l:List D} {K:List D->Prop},bH7 n l K->K (l.drop n)
 | 0,_,_,h=>h
 | _+1,[],_,h=>h
 | n+1,_::l,K,h=>aM0 (n:=n) (l:=l) (K:=K) h
def mkK (ag:Bool) (n:Nat) (cs:List D) (K:D->Prop):Prop:=
 match ag with
 | true=>bif Nat.beq n cs.length then K (.agg cs) else au4 (cs.take n) fun l=>K (.agg l)
 | false=>match cs with|c::_=>bif Nat.beq n 1 then ab7 c K else False | []=>False
def yM:=@List.take_length
theorem bW6 {ag:Bool} {n:Nat} {cs:List D} {K:D->Prop} (h:mkK ag n cs K):K (mkD ag (cs.take n)):=by
 unfold mkK at h
 cases ag with
 | true=>
  simp only at h
  cases hb:Nat.beq n cs.length with
  | true=>
   rw [hb] at h;have:=yH hb;rw [this,yM];exact h
  | false=>rw [hb] at h;exact ak5 (K:=fun l=>K (.agg l)) h
 | false=>
  cases cs with
  | nil=>exact h.elim
  | cons c cs=>
   simp only at h
   cases hb:Nat.beq n 1 with
   | false=>rw [hb] at h;exact h.elim
   | true=>rw [hb] at h;have:=yH hb;subst this;exact ae8 h
structure Br (t:Bool) (A B:Prop):Prop where
 yes:t=true->A
 no:t=false->B
structure Bc (t:Bool) (A B C:Prop):Prop where
 run:Br t A B\/C
structure Bx (A B:Prop):Prop where
 run:A\/B
structure Sd (s A:Prop):Prop where
 s:s
 k:A
structure Ck (b:Bool) (A:Prop):Prop where
 s:b=true
 k:A
structure Ix (xs:List (List D)) (j:Int) (K:List D->Prop):Prop where
 run:0<=j/\∃ cs,xs[j.toNat]?=some cs/\K cs
structure Ld (P:Program) (o:Oper) (ρ:Operand->D) (σ:aa1) (b off:Nat) (ag:Bool) (sz:Nat) (K:D->Prop):Prop where
 run:(∃ (j:Nat) (tb:TypeId) (cs:List D),σ[j]?=some (b,.cells tb cs)/\off+sz<=cs.length/\K (mkD ag ((cs.drop off).take sz)))\/∃ d,Yd P o ρ σ d/\K d
structure Ot (P:Program) (o:Oper) (ρ:Operand->D) (σ:aa1) (K:D->Prop):Prop where
 run:∃ d,Yd P o ρ σ d/\K d
structure APk (P:Program) (f:FuncId) (args:List D) (σ:aa1) (d:D):Prop where
 ent:Enters P f
 run:∀ (w:World) (X:Nat->Prop) (vs:List Value),RdL w (Own σ X) args vs->StOK w X σ ->
  Calls P f vs.toArray w fun e w'=>∃ u,e = .returned u/\Rd w' (Own σ X) d u/\Ex w w'
theorem APure.pk {P:Program} {f:FuncId} {args:List D} {σ:aa1} {d:D} (h:APure P f args d):APk P f args σ d:=
 ⟨h.ent,fun w X vs hv hs=>h.run w _ vs hv hs.gok⟩
theorem cv4 {P:Program} {σ:aa1} {o:Oper} {ρ:Operand->D} {f:FuncId} {ds:List D} {d:D} (h:bx9 o.op ρ=some (f,ds)) (hp:APk P f ds σ d):Yd P o ρ σ d:=by
 intro w X η hη hst;obtain⟨vs,h1,h2⟩:=bt0 (P:=P) (w:=w) h hp.ent hη;rw [h2];exact⟨rfl,(hp.run w X vs h1 hst).mono fun e w' ⟨u,g1,g2,g3⟩=>⟨u,g1,g3,g2⟩⟩
structure Cp (P:Program) (f:FuncId) (args:List D) (σ:aa1) (K:D->Prop):Prop where
 run:∃ d,APk P f args σ d/\K d
def cb2:BinOp->Value->Bool
 | .add,_=>true | .sub,_=>true | .mul,_=>true | .rem,_=>true | .quo,_=>true
 | _,_=>false
theorem bL3 {b:BinOp} {x y u:Value} {s:Prop} (h:vBin b x y=some (s,u)) (hb:cb2 b x=false):s:=by
 unfold vBin at h;split at h<;>cases h<;>first|trivial|cases hb
def exY (P:Program) (T:TypeId->Option TI) (o:Oper) (f:Frm) (σ:aa1) (K:D->Prop):Prop:=
 match o.op with
 | .move x=>ab7 (evF f x) K
 | .assign x=>ab7 (evF f x) K
 | .pick c x y=>match evF f c with
  | .v (.bool t)=>Br t (ab7 (evF f x) K) (ab7 (evF f y) K)
  | _=>Ot P o (evF f) σ (fun d=>ab7 d K)
 | .box _ x=>match evF f x with
  | .any=>Ot P o (evF f) σ (fun d=>ab7 d K)
  | .agg cs=>K (.ro cs)
  | .v (.agg vs)=>au4 (vs.toList.map .v) fun l=>K (.ro l)
  | d=>K (.ro [d])
 | .nilCheck x=>match evF f x with
  | .ro cs=>K (.ro cs)
  | .clo g cs=>K (.clo g cs)
  | .v (.pointer (some p))=>K (.v (.pointer (some p)))
  | .v (.func (.func g) u v)=>K (.v (.func (.func g) u v))
  | _=>Ot P o (evF f) σ (fun d=>ab7 d K)
 | .binOp b _ x y _=>match evF f x with
  | .v u=>match evF f y with
   | .v v=>match vBin b u v with
    | some (s,r)=>bif cb2 b u then Bx (Sd s (K (.v r))) (Ot P o (evF f) σ (fun d=>ab7 d K)) else K (.v r)
    | none=>Ot P o (evF f) σ (fun d=>ab7 d K)
   | _=>Ot P o (evF f) σ (fun d=>ab7 d K)
  | _=>Ot P o (evF f) σ (fun d=>ab7 d K)
 | .unOp b _ x=>match evF f x with
  | .v u=>match vUn b u with
   | some (s,r)=>(match b with | .not=>Sd s (K (.v r)) | _=>Sd s (K (.v r)))
   | none=>Ot P o (evF f) σ (fun d=>ab7 d K)
  | _=>Ot P o (evF f) σ (fun d=>ab7 d K)
 | .load t x=>match T t with
  | none=>Ot P o (evF f) σ (fun d=>ab7 d K)
  | some i=>match evF f x with
   | .ro cs=>bif Nat.ble i.size cs.length&&(i.agg||i.size==1) then mkK i.agg i.size cs K else False
   | .v (.pointer (some ⟨b,off,none⟩))=>bif i.agg||i.size==1 then Ld P o (evF f) σ b off i.agg i.size (fun d=>ab7 d K) else False
   | _=>Ot P o (evF f) σ (fun d=>ab7 d K)
 | .fieldAddr s x fl=>match T s with
  | none=>Ot P o (evF f) σ (fun d=>ab7 d K)
  | some i=>match i.fs[fl]? with
   | none=>Ot P o (evF f) σ (fun d=>ab7 d K)
   | some (off,_,n)=>match evF f x with
    | .ro cs=>bif Nat.ble off cs.length && !(n==0) then bH7 off cs fun l=>K (.ro l) else False
    | .v (.pointer (some ⟨b,o,none⟩))=>bif !(n==0) then K (.v (.pointer (some ⟨b,o+off,none⟩))) else False
    | _=>Ot P o (evF f) σ (fun d=>ab7 d K)
 | .field s x fl=>match T s with
  | none=>Ot P o (evF f) σ (fun d=>ab7 d K)
  | some i=>match i.fs[fl]? with
   | none=>Ot P o (evF f) σ (fun d=>ab7 d K)
   | some (off,ag,n)=>match evF f x with
    | .agg cs=>bif Nat.ble (off+n) cs.length&&(ag||n==1) then bH7 off cs fun l=>mkK ag n l K else False
    | _=>Ot P o (evF f) σ (fun d=>ab7 d K)
 | .extract x i=>match evF f x with
  | .tup ds=>match ds[i]? with|some d=>ab7 d K|none=>Ot P o (evF f) σ (fun d=>ab7 d K)
  | .v (.tuple vs)=>match vs[i]? with|some d=>K (.v d)|none=>Ot P o (evF f) σ (fun d=>ab7 d K)
  | _=>Ot P o (evF f) σ (fun d=>ab7 d K)
 | .indexAddr t x ix=>match T t with
  | none=>Ot P o (evF f) σ (fun d=>ab7 d K)
  | some i=>match evF f ix with
   | .v (.int kk j)=>match evF f x with
    | .sl k xs=>match i.sl with
     | some (_,_,k',_)=>bif Nat.beq k' k then Ix xs j (fun cs=>K (.ro cs)) else False
     | none=>Ot P o (evF f) σ (fun d=>ab7 d K)
    | .v (.slice (some ⟨b,off,none⟩) n _)=>match i.sl with
     | some (_,_,k,_)=>Sd (0<=j/\j<n) (K (.v (.pointer (some ⟨b,off+j.toNat*k,none⟩))))
     | none=>Ot P o (evF f) σ (fun d=>ab7 d K)
    | .ro cs=>match j with
     | .ofNat m=>match i.arr with
      | some (n,_,k)=>bif Nat.blt m n&&Nat.ble (m*k) cs.length then bH7 (m*k) cs fun l=>K (.ro l) else False
      | none=>Ot P o (evF f) σ (fun d=>ab7 d K)
     | _=>Ot P o (evF f) σ (fun d=>ab7 d K)
    | _=>Ot P o (evF f) σ (fun d=>ab7 d K)
   | _=>Ot P o (evF f) σ (fun d=>ab7 d K)
 | .build t ps=>match T t with
  | none=>Ot P o (evF f) σ (fun d=>ab7 d K)
  | some i=>bif Nat.beq i.zero.length i.size&&Nat.blt 0 i.size&&(i.arr.isSome || !i.fs.isEmpty) then
    (match aS3 (plD i) (i.zero.map fun z=>.v (zv z)) (ps.toList.map fun p=>(p.1,evF f p.2)) with
    | some out=>au4 out fun l=>K (.agg l)
    | none=>Ot P o (evF f) σ (fun d=>ab7 d K)) else False
 | .buildSlice t m ps=>match T t with
  | none=>Ot P o (evF f) σ (fun d=>ab7 d K)
  | some i=>match i.sl with
   | none=>Ot P o (evF f) σ (fun d=>ab7 d K)
   | some (e,_,k,_)=>match T e with
    | none=>Ot P o (evF f) σ (fun d=>ab7 d K)
    | some j=>bif Nat.beq j.zero.length j.size&&Nat.beq j.size k&&Nat.blt 0 k&&Nat.ble (m*k) 1000 then
      (match aS3 (fun q=>some (q*k,k)) (aG3 j.zero k m) (ps.toList.map fun p=>(p.1,evF f p.2)) with
      | some out=>bif out.length==m*k then aH9 (aQ9 k m out) fun l=>K (.sl k l) else False
      | none=>Ot P o (evF f) σ (fun d=>ab7 d K)) else False
 | .makeFunc (.func g) first cap=>bif first.toList.isEmpty then au4 (cap.toList.map (evF f)) fun l=>K (.clo g l) else False
 | .call c=>match c.callee with
  | .builtin .len=>match c.args.toList,c.argTypes.toList with
   | [x],[t]=>match T t with
    | none=>Ot P o (evF f) σ (fun d=>ab7 d K)
    | some i=>match evF f x with
     | .sl _ xs=>bif i.sl.isSome then K (.v (.int .i64 xs.length)) else False
     | .v (.slice _ n _)=>bif i.sl.isSome then K (.v (.int .i64 n)) else False
     | .v (.string s)=>bif i.str then K (.v (.int .i64 s.size)) else False
     | _=>Ot P o (evF f) σ (fun d=>ab7 d K)
   | _,_=>Ot P o (evF f) σ (fun d=>ab7 d K)
  | .value _=>match bx9 o.op (evF f) with
   | some (g,ds)=>au4 ds fun ds=>Cp P g ds σ fun d=>ab7 d K
   | none=>Ot P o (evF f) σ (fun d=>ab7 d K)
  | _=>Ot P o (evF f) σ (fun d=>ab7 d K)
 | _=>Ot P o (evF f) σ (fun d=>ab7 d K)
section
variable {P:Program} {N:Nat} {σ:aa1} {a:List D} {f:Frm} {T:TypeId->Option TI}
theorem ag7 {c:Bool} {A:Prop} (h:bif c then A else False):c=true/\A:=by cases c;exact h.elim;exact⟨rfl,h⟩
theorem cl1 {p:Prop} (h:p:=by simp only [ho,aop,ci8,hc,e2,e3,hi,hx,aLen,h1,cond_true];try rfl):p:=h
theorem aV1 (hT:∀ t i,T t=some i->tiOf P t=some i) {o:Oper} {K:D->Prop} (h:exY P T o f σ K):∃ d,Yd P o (evF f) σ d/\K d:=by
 have go:∀ {s d},aop T o.op (evF f)=some (s,d)->s->K d->∃ d,Yd P o (evF f) σ d/\K d:=fun h1 h2 h3=>⟨_,ck0 hT h1 h2,h3⟩
 have ot:Ot P o (evF f) σ (fun d=>ab7 d K)->∃ d,Yd P o (evF f) σ d/\K d:=fun h=>let ⟨d,h1,h2⟩:=h.run;⟨d,h1,ae8 h2⟩;unfold exY at h;split at h
 ·rename_i x ho;exact go (by simp only [ho,aop];try rfl) trivial (ae8 h)
 ·rename_i x ho;exact go (by simp only [ho,aop];try rfl) trivial (ae8 h)
 ·rename_i c x y ho;split at h
  ·rename_i t ht
   cases t with
   | true=>exact go (by simp only [ho,aop,ht,bT4];try rfl) trivial (ae8 (h.yes rfl))
   | false=>exact go (by simp only [ho,aop,ht,bT4];try rfl) trivial (ae8 (h.no rfl))
  ·exact ot h
 ·rename_i t x ho;split at h
  ·exact ot h
  ·rename_i cs hx;exact go (by simp only [ho,aop,hx,aBox];try rfl) trivial h
  ·rename_i vs hx;have:=ak5 (K:=fun l=>K (.ro l)) h;exact go (by simp only [ho,aop,hx,aBox];try rfl) trivial this
  ·rename_i d h1 h2 h3;have hc:ag3 (evF f x)=[evF f x]:=by
    unfold ag3;split
    ·rename_i cs e;exact absurd e (h2 cs)
    ·rename_i vs e;exact absurd e (h3 vs)
    ·rfl
   have hb:aBox (evF f x)=some (True,.ro (ag3 (evF f x))):=by
    unfold aBox;split
    ·rename_i e;exact absurd e h1
    ·rfl
   exact go (by simp only [ho,aop];exact hb) trivial (by rw [hc];exact h)
 ·rename_i x ho;split at h
  ·rename_i hx;exact go (by simp only [ho,aop,hx,aNil];try rfl) trivial h
  ·rename_i hx;exact go (by simp only [ho,aop,hx,aNil];try rfl) trivial h
  ·rename_i hx;exact go (by simp only [ho,aop,hx,aNil];try rfl) trivial h
  ·rename_i hx;exact go (by simp only [ho,aop,hx,aNil];try rfl) trivial h
  ·exact ot h
 ·rename_i b t x y t' ho;split at h
  ·rename_i u hu;split at h
   ·rename_i v hv;split at h
    ·rename_i s r hr;have hb:aop T o.op (evF f)=some (s,.v r):=by simp only [ho,aop,hu,hv,aBin,hr,Option.map_some]
     cases hs:cb2 b u with
     | true=>
      rw [hs] at h;rcases h.run with h|h
      ·exact go hb h.s h.k
      ·exact ot h
     | false=>rw [hs] at h;exact go hb (bL3 hr hs) h
    ·exact ot h
   ·exact ot h
  ·exact ot h
 ·rename_i b t x ho;split at h
  ·rename_i u hu;split at h
   ·rename_i s r hr;have hb:aop T o.op (evF f)=some (s,.v r):=by simp only [ho,aop,hu,aUn,hr,Option.map_some]
    split at h<;>exact go hb h.s h.k
   ·exact ot h
  ·exact ot h
 ·rename_i t x ho;split at h
  ·exact ot h
  ·rename_i i hi;split at h
   ·rename_i cs hx;obtain⟨h1,h2⟩:=ag7 h;exact go (by simp only [ho,aop,hx,hi,bT8,h1,cond_true];try rfl) trivial (bW6 h2)
   ·rename_i b off hx;obtain⟨h1,h2⟩:=ag7 h;rcases h2.run with ⟨j,tb,cs,g1,g2,g3⟩|⟨d,g1,g2⟩
    ·exact⟨_,cj4 hT ho hi hx g1 g2 (by simpa using h1),ae8 g3⟩
    ·exact⟨d,g1,ae8 g2⟩
   ·exact ot h
 ·rename_i s x fl ho;split at h
  ·exact ot h
  ·rename_i i hi;split at h
   ·exact ot h
   ·rename_i off ag n hf;split at h
    ·rename_i cs hx;obtain⟨h1,h2⟩:=ag7 h;exact go (by simp only [ho,aop,hx,hi,aG2,hf,h1,cond_true];try rfl) trivial (aM0 (K:=fun l=>K (.ro l)) h2)
    ·rename_i b oo hx;obtain⟨h1,h2⟩:=ag7 h;exact go (by simp only [ho,aop,hx,hi,aG2,hf,h1,cond_true];try rfl) trivial h2
    ·exact ot h
 ·rename_i s x fl ho;split at h
  ·exact ot h
  ·rename_i i hi;split at h
   ·exact ot h
   ·rename_i off ag n hf;split at h
    ·rename_i cs hx;obtain⟨h1,h2⟩:=ag7 h;exact go (by simp only [ho,aop,hx,hi,bm4,hf,h1,cond_true];try rfl) trivial (bW6 (aM0 (K:=fun l=>mkK ag n l K) h2))
    ·exact ot h
 ·rename_i x i ho;split at h
  ·rename_i ds hx;split at h
   ·rename_i d hd;exact go (by simp only [ho,aop,hx,aExt,hd];try rfl) trivial (ae8 h)
   ·exact ot h
  ·rename_i vs hx;split at h
   ·rename_i d hd;exact go (by simp only [ho,aop,hx,aExt,hd];try rfl) trivial h
   ·exact ot h
  ·exact ot h
 ·rename_i t x ix ho;split at h
  ·exact ot h
  ·rename_i i hi;split at h
   ·rename_i kk j hj;split at h
    ·rename_i k xs hx;split at h
     ·rename_i e ag k' by_ hs;obtain⟨h1,h2⟩:=ag7 h;obtain⟨g1,cs,g2,g3⟩:=h2.run;exact⟨_,bK5 hT ho hx hj hi hs (yH h1) g2 g1,g3⟩
     ·exact ot h
    ·rename_i b off n c hx;split at h
     ·rename_i e ag k by_ hs;exact go (by simp only [ho,aop,hx,hi,hj,aIdx,hs];try rfl) h.s h.k
     ·exact ot h
    ·rename_i cs hx;split at h
     ·rename_i m;split at h
      ·rename_i n ag k hs;obtain⟨h1,h2⟩:=ag7 h;exact go (by simp only [ho,aop,hx,hi,hj,aIdx,hs,h1,cond_true];try rfl) trivial (aM0 (K:=fun l=>K (.ro l)) h2)
      ·exact ot h
     ·exact ot h
    ·exact ot h
   ·exact ot h
 ·rename_i t ps ho;split at h
  ·exact ot h
  ·rename_i i hi;obtain⟨h1,h2⟩:=ag7 h;simp only [zJ] at h1;split at h2
   ·rename_i out hf;exact⟨_,bK6 hT ho hi (yH h1.1.1) h1.1.2 h1.2 hf,ak5 (K:=fun l=>K (.agg l)) h2⟩
   ·exact ot h2
 ·rename_i t m ps ho;split at h
  ·exact ot h
  ·rename_i i hi;split at h
   ·exact ot h
   ·rename_i e ag k by_ hs;split at h
    ·exact ot h
    ·rename_i j hj;obtain⟨h1,h2⟩:=ag7 h;simp only [zJ] at h1;split at h2
     ·rename_i out hf;obtain⟨h3,h4⟩:=ag7 h2;exact⟨_,cj8 hT ho hi hs hj (yH h1.1.1.1) (yH h1.1.1.2) h1.1.2 h1.2 hf h3,aU8 (K:=fun l=>K (.sl k l)) h4⟩
     ·exact ot h2
 ·rename_i g first cap ho
  obtain⟨h1,h2⟩:=ag7 h;have h0:first = #[]:=by simpa using h1
  subst h0;exact⟨_,cj5 ho,ak5 (K:=fun l=>K (.clo g l)) h2⟩
 ·rename_i c ho;split at h
  ·rename_i hc;split at h
   ·rename_i x t e2 e3;split at h
    ·exact ot h
    ·rename_i i hi;split at h
     ·rename_i k xs hx;obtain⟨h1,h2⟩:=ag7 h;exact go cl1 trivial h2
     ·rename_i ad n cc hx;obtain⟨h1,h2⟩:=ag7 h;exact go cl1 trivial h2
     ·rename_i s hx;obtain⟨h1,h2⟩:=ag7 h;exact go cl1 trivial h2
     ·exact ot h
   ·exact ot h
  ·split at h
   ·rename_i g ds hc;obtain⟨d,g1,g2⟩:=(ak5 (K:=fun ds=>Cp P g ds σ fun d=>ab7 d K) h).run;exact⟨d,cv4 hc g1,ae8 g2⟩
   ·exact ot h
  ·exact ot h
 ·exact ot h
end
end
section
open Go Go.RowKit Go.Shelf
section
variable {P:Program} {r:Option Nat} {n:Nat} {df:Nat} {ops:Array Oper} {Q:Pst} {a:List D} {σ:aa1} {md:Region.Mode} {al:Option (Nat × TypeId)}
def vI:=@Array.getElem?_setIfInBounds_ne
theorem aV5 {m g:Nat} {Lq:List D->Prop} (hwt:∀ i listed,i<m->HeadInv md ops m listed->listed.getD i true=false->∀ t,m<=t->t ∉ Region.ready md ops listed) :
  ∀ (l:List Oper) (k:Nat) (listed:Array Bool) (a:List D),(∀ j,j<l.length->l[j]?=ops[k+j]?)->k+l.length=m->HeadInv md ops m listed->(∀ j,j<k->listed.getD j false=true) ->
  Region.lexHead md ops g l.length k listed=true->aD4 al P ops σ Lq l a ->
  bm5 al P md ops σ m (fun listed' a'=>Region.seqB md ops g m listed'=true/\(∀ j,j<m->listed'.getD j false=true)/\Lq a') l.length listed a
 | [],k,listed,a,_,hk,_,hs,hB,h=>by
  obtain rfl:k=m:=by simpa using hk
  exact⟨by simpa [Region.lexHead] using hB,hs,h⟩
 | o::l,k,listed,a,hl,hk,inv,hs,hB,h=>by
  have h0:ops[k]?=some o:=by simpa using (hl 0 (by simp)).symm
  simp only [List.length_cons,Region.lexHead,zJ] at hB hk;obtain⟨⟨hr,hf⟩,hB'⟩:=hB;have hr':k∈Region.ready md ops listed:=by simpa using hr
  have hst:aOp al P ops σ k (aD4 al P ops σ Lq l) a:=by unfold aOp;simp only [h0];exact h
  obtain⟨d,hy,hK⟩:=aM5 h0 hst;have hks:k<listed.size:=by
   have h1:=(mem_ready.1 hr').1;refine Nat.lt_of_not_le fun hle=>?_;rw [Array.getD_eq_getD_getElem?,wQ (by omega)] at h1
   cases h1
  exact aR7 h0 (fun ls i1 i2=>hwt k ls (by omega) i1 i2) (by omega) (fun listed' a' hL=>seqB_ready hL.1) l.length listed a inv (Region.free_spec h0 hf) hr' hy
   (aV5 hwt l (k+1) _ _ (fun j hj=>by have:=hl (j+1) (by simp;omega);simpa [vQ,Nat.add_comm 1 j] using this) (by omega) (inv.set hr' (by omega)) (fun j hj=>by
    by_cases e:j=k
    ·subst e;simp [Array.getD_eq_getD_getElem?,hks]
    ·have:=hs j (by omega);rw [Array.getD_eq_getD_getElem?,vI (by omega)]
     simpa [Array.getD_eq_getD_getElem?] using this) hB' hK)
def StG (X:Nat->Prop) (df:Nat) (σ:aa1) (s:Nat) (t0:TypeId) (zc:List Value) (w0:World) (gh:Option Nat) (w:World) (a:List D) (fr:Act):Prop:=match gh with
 | none=>St w X df a σ fr
 | some b=>St w (fun x=>X x\/x=b) df a σ fr/\w0.heap.size<=b/\w.heap[b]?=some (.cells zc.toArray t0 (0,0))/\fr.tmps[s]?=some (.pointer (some ⟨b,0,none⟩))/\¬ Own σ X b
theorem StG.step {X:Nat->Prop} {s:Nat} {t0:TypeId} {zc:List Value} {w0 w w':World} {gh:Option Nat} {fr:Act} {dst:Option Tmp} {d:D} {u:Value} (h:StG X df σ s t0 zc w0 gh w a fr) (hx:Ex w w') (hd:∀ X',(gh=none->X'=X)->(∀ b,gh=some b->X'=fun x=>X x\/x=b)->Rd w' (Own σ X') d u) (hne:dst≠some s) :
  StG X df σ s t0 zc w0 gh w' (putD a dst d) (fr.put dst u):=by
 cases gh with
 | none=>exact (St.ex h hx).put (hd X (fun _=>rfl) (fun b e=>by cases e)) dst
 | some b=>
  obtain⟨h1,h2,h3,h4,h5⟩:=h;refine⟨(h1.ex hx).put (hd _ (fun e=>by cases e) (fun b' e=>by cases e;rfl)) dst,h2,(hx.block b (zX.1 h3).1).trans h3,?_,h5⟩
  cases dst with
  | none=>exact h4
  | some i=>
   have:i≠s:=fun e=>hne (by rw [e]);simp [Act.put,this,h4]
theorem StG.some_st {X:Nat->Prop} {s:Nat} {t0:TypeId} {zc:List Value} {w0 w:World} {gh:Option Nat} {fr:Act} (h:StG X df σ s t0 zc w0 gh w a fr) :
  ∃ X':Nat->Prop,(gh=none->X'=X)/\(∀ b,gh=some b->X'=fun x=>X x\/x=b)/\St w X' df a σ fr:=by
 cases gh with
 | none=>exact⟨X,(fun _=>rfl),(fun b e=>by cases e),h⟩
 | some b=>exact⟨_,(fun e=>by cases e),(fun b' e=>by cases e;rfl),h.1⟩
theorem StG.made {X:Nat->Prop} {s:Nat} {t0:TypeId} {w0 w:World} {fr:Act} (hs:St w X df a σ fr) (hx0:Ex w0 w) (cs:Array Value) (hlt:s<fr.tmps.size) :
  StG X df σ s t0 cs.toList w0 (some w.heap.size) (w.alloc (.cells cs t0)) (putD a (some s) .any) (fr.put (some s) (.pointer (some ⟨w.heap.size,0,none⟩))):=by
 have hx:Ex w (w.alloc (.cells cs t0)):=(Ex.refl w).alloc;have hO:∀ x,x<w.heap.size->¬ Own σ X x->¬ Own σ (fun x=>X x\/x=w.heap.size) x:=by
  intro x hxl hn ho;rcases ho with (ho|ho)|ho
  ·exact hn (.inl ho)
  ·omega
  ·exact hn (.inr ho)
 have hS:∀ x,x<w.heap.size->¬ Own σ X x->(w.alloc (.cells cs t0)).heap[x]?=w.heap[x]?:=fun x hxl _=>hx.block x hxl;refine⟨St.put (⟨hs.fr.keep hx.size hO hS,⟨hs.st.nodup,fun b k hm=>?_,fun b hb=>?_,hs.st.gok.keep hx.size hO hS (fun b hb=>?_)⟩,hs.df.keep hx.size hO hS⟩:St (w.alloc (.cells cs t0)) (fun x=>X x\/x=w.heap.size) df a σ fr) (.any _) (some s),hx0.size,?_,?_,aP2 hs.st (zT _)⟩
 ·obtain⟨h1,o,h2,h3⟩:=hs.st.at_ b k hm;have hbl:=(zX.1 h2).1;refine⟨fun h=>?_,o,(hx.block b hbl).trans h2,pA4 hx.size hO hS h3⟩;rcases h with h|h
  ·exact h1 h
  ·omega
 ·rcases hb with hb|rfl
  ·exact yI (hs.st.xlt b hb) hx.size
  ·simp
 ·rcases hb with (hb|rfl)|hb
  ·exact yI (hs.st.xlt b hb) hx.size
  ·simp
  ·exact yI (hs.st.lt hb) hx.size
 ·unfold World.alloc;simp
 ·simp [Act.put,hlt]
theorem aq6 {listed:Array Bool} {i j:Nat} {b:Bool} (h:i≠j):(listed.setIfInBounds i true).getD j b=listed.getD j b:=by
 simp only [Array.getD_eq_getD_getElem?,vI h]
theorem ap0 {m g i0 s:Nat} {t0:TypeId} {zc:List Value} {o0:Oper} {L:Array Bool->List D->Prop} {Q':Exit->Act->World->Prop} {X:Nat->Prop} {w0:World}
  (h0:ops[i0]?=some o0) (hop:o0.op = .alloc t0) (hd0:o0.dst=some s) (hg0:o0.guard=none) (hu:∀ (j:Nat) o,ops[j]?=some o->o.dst=some s->j=i0) (hsl:s<a.length)
  (hzero:∀ w,∃ z,(zeroValue t0).run P w = .ok z w/\z.cells.toList=zc)
  (hL:∀ listed a fr w b,Ex w0 w->StG X df σ s t0 zc w0 (some b) w a fr->L listed a->wpAnyIn (FW r) n P md ops Q' g listed fr w)
  (hLi:∀ listed a,L listed a->listed.getD i0 false=true) :
  ∀ (f:Nat) (listed:Array Bool) (a:List D) (fr:Act) (w:World) (gh:Option Nat),s<a.length->Ex w0 w->StG X df σ s t0 zc w0 gh w a fr->i0<listed.size->(gh=none->listed.getD i0 true=false)->(∀ b,gh=some b->listed.getD i0 false=true) ->
   bm5 (some (s,t0)) P md ops σ m L f listed a->wpAnyIn (FW r) n P md ops Q' (f+g) listed fr w
 | 0,listed,a,fr,w,gh,hsa,hx,hs,hsz,hn,hb,h=>by
  rw [xD]
  cases gh with
  | none=>have h1:=hLi _ _ h;rw [getD_both (hn rfl)] at h1;cases h1
  | some b=>exact hL _ _ _ _ _ hx hs h
 | f+1,listed,a,fr,w,gh,hsa,hx,hs,hsz,hn,hb,h=>by
  rw [show f+1+g=(f+g)+1 by omega];refine⟨fun hh=>absurd hh h.1,fun i hi=>?_⟩;have h2:=(h.2 i hi).2;obtain⟨hun,oi,hoi,_⟩:=mem_ready.1 hi;have hpl:∀ d,s<(putD a oi.dst d).length:=fun d=>by cases oi.dst<;>simp [putD,hsa]
  unfold aOp at h2;unfold wpOpIn;simp only [hoi] at h2 ⊢;obtain⟨X',hX1,hX2,hst⟩:=hs.some_st;rcases h2 with ⟨k1,k2,d,k3,k4⟩|⟨k1,k2⟩
  ·rw [if_pos (by rw [aq7 hst.fr k1])];refine⟨bf7 oi w _,?_⟩;rw [show (FW r).round=r from rfl,ax0 k2];rcases k3 with ⟨q1,q2⟩|⟨q1,⟨s',t',q2,q3,q4⟩,rfl⟩
   ·have hne:oi.dst≠some s:=fun e=>by simp [isAl,e] at q1
    have hii:i≠i0:=fun e=>by subst e;rw [h0] at hoi;cases hoi;exact hne hd0
    have h1:=q2 w X' fr.eval (fun x _=>hst.fr.eval x) hst.st;generalize (execOp fr.eval oi).run P w=res at h1;have stp:∀ {w':World} {u:Value},Ex w w'->Rd w' (Own σ X') d u->StG X df σ s t0 zc w0 gh w' (putD a oi.dst d) (fr.put oi.dst u):=fun hxx hr=>hs.step hxx (fun X'' e1 e2=>by
     have:X''=X':=by
      cases gh with
      | none=>rw [e1 rfl,hX1 rfl]
      | some b=>rw [e2 b rfl,hX2 b rfl]
     rw [this];exact hr) hne
    have hn':gh=none->(listed.setIfInBounds i true).getD i0 true=false:=fun e=>by rw [aq6 hii];exact hn e
    have hb':∀ b,gh=some b->(listed.setIfInBounds i true).getD i0 false=true:=fun b e=>by rw [aq6 hii];exact hb b e
    cases res with
    | ok x w'=>
     cases x<;>simp only [YU] at h1
     case value u=>exact ap0 h0 hop hd0 hg0 hu hsl hzero hL hLi f _ _ _ _ gh (hpl d) (hx.trans h1.1) (stp h1.1 h1.2) (by simpa using hsz) hn' hb' k4
     case enter fn args=>
      obtain⟨rfl,hc⟩:=h1;refine⟨fun hd=>by simp [FW,Fence.wide] at hd,?_⟩;have hc':CallsIn Fence.wide (n-1) P fn args w' _:=callsIn_wide.2 hc;have:CallsIn (FW r) (n-1) P fn args w' _:=hc';refine this.mono fun e w'' he=>?_;obtain⟨u,rfl,hx2,hr2⟩:=he;exact ap0 h0 hop hd0 hg0 hu hsl hzero hL hLi f _ _ _ _ gh (hpl d) (hx.trans hx2) (stp hx2 hr2) (by simpa using hsz) hn' hb' k4
    | halt x w'=>simp only [YU] at h1
   ·cases q2
    have hii:i=i0:=hu i oi hoi q4;subst hii;have hgh:gh=none:=by
     cases gh with
     | none=>rfl
     | some b=>have h3:=hb b rfl;rw [getD_both hun] at h3;cases h3
    subst hgh;have hst0:St w X df a σ fr:=hs;obtain⟨z,z1,z2⟩:=hzero w;have e:(execOp fr.eval oi).run P w = .ok (.value (.pointer (some ⟨w.heap.size,0,none⟩))) (w.alloc (.cells z.cells t0)):=by
     simp only [execOp,q3,Sem.run_bind,Instr.alloc,z1,Result.andThen,newVar,newRow,newObj]
     rfl
    rw [e];have hm:=StG.made (t0:=t0) hst0 hx z.cells (by rw [hst0.fr.size];exact hsa);rw [z2] at hm;rw [q4] at k4
    show wpAnyIn _ _ _ _ _ _ _ _ (fr.put oi.dst _) _;rw [q4];refine ap0 h0 hop hd0 hg0 hu hsl hzero hL hLi f _ _ _ _ (some w.heap.size) (by simpa [putD] using hsa) (hx.trans ((Ex.refl w).alloc)) hm (by simpa using hsz) (fun e=>by cases e) (fun b _=>?_) k4;simp [Array.getD_eq_getD_getElem?,hsz]
  ·rw [if_neg (by rw [aq7 hst.fr k1];simp)];have hii:i≠i0:=fun e=>by
    subst e;rw [h0] at hoi;cases hoi
    simp [ap1,hg0] at k1
   have hne:oi.dst≠some s:=fun e=>hii (hu i oi hoi e);refine⟨bf7 oi w _,ap0 h0 hop hd0 hg0 hu hsl hzero hL hLi f _ _ _ _ gh (hpl _) hx (hs.step (Ex.refl w) (fun _ _ _=>.v _) hne) (by simpa using hsz) (fun e=>by rw [aq6 hii];exact hn e) (fun b e=>by rw [aq6 hii];exact hb b e) k2⟩
theorem bh3 {id:Nat} {l:List Oper} (m i0 s:Nat) (t0:TypeId) (o0:Oper) {T:TypeId->Option TI} (hT:∀ t i,T t=some i->tiOf P t=some i) {ti:TI} (ht:T t0=some ti) (hz:ti.zero.length=ti.size) (hp:0<ti.size) (hm:P.follows .mixedOrders=true) (hB:Region.lexTailB .any l.toArray m=true)
  (h0:l[i0]?=some o0) (him:i0<m) (hop:o0.op = .alloc t0) (hd0:o0.dst=some s) (hg0:o0.guard=none) (hu:∀ (j:Nat) o,l[j]?=some o->o.dst=some s->j=i0) (hsa:s<a.length)
  (h:aD4 (some (s,t0)) P l.toArray σ (fun a'=>a'.length=a.length/\∀ b,AOps P r n df l.toArray Q (l.drop m) (a'.set s (.v (.pointer (some ⟨b,0,none⟩)))) ((b,.cells t0 (ti.zero.map fun z=>.v (zv z)))::σ)) (l.take m) a):AWP P r n df (.region id l.toArray true) Q a σ:=by
 refine⟨fun w X fr hs=>?_⟩;simp only [Region.lexTailB,zJ,zQ] at hB;obtain⟨⟨⟨⟨hsel,hn⟩,hsk⟩,hc⟩,hlex⟩:=hB;have hn':m<l.length:=by simpa using hn
 have htl:(l.take m).length=m:=by simp;omega
 have hdl:(l.drop m).length=l.toArray.size-m:=by simp
 have inv0:HeadInv .any l.toArray m (Array.replicate l.toArray.size false):=
  ⟨by simp,fun j oj _ hl=>(by rw [getD_replicate_false] at hl;cases hl),fun t _ ht=>getD_in (by simpa using ht) (getD_replicate_false _ _)⟩
 have H:=aV5 (md:=.any) (g:=l.toArray.size-m) (fun i ls hi i1 i2=>tail_waits hsk hc hn i1 _ i rfl hi i2) (l.take m) 0 _ a (fun j hj=>by
  have hj':j<m:=by rw [htl] at hj;exact hj
  simp [hj']) (by simpa using htl) inv0 (fun j hj=>by omega) (by rw [htl];exact hlex) h
 refine wpIn_region_any hm ?_;have hx0:=aB1 w;have hzero:∀ w,∃ z,(zeroValue t0).run P w = .ok z w/\z.cells.toList=ti.zero.map zv:=fun w=>aw5 (hT t0 ti ht) hz hp w;have:=ap0 (r:=r) (n:=n) (df:=df) (Q':=Pw w X df σ Q) (g:=l.toArray.size-m) (X:=X) (w0:={ w with drawn:=w.drawn+1 }) (i0:=i0) (o0:=o0) (a:=a) (by simpa using h0) hop hd0 hg0 (fun j o hj=>hu j o (by simpa using hj)) hsa hzero
  (fun listed a' fr' w' b hx' hs' hL=>by
   obtain⟨g1,g2,g3,g4,g5⟩:=hs';have hbX:∀ x,Own ((b,Blk.cells t0 (ti.zero.map fun z=>.v (zv z)))::σ) X x↔Own σ (fun x=>X x\/x=b) x:=by
    intro x;simp only [Own,aa6,List.map_cons,zU];constructor
    ·rintro (h|h|h)
     ·exact .inl (.inl h)
     ·exact .inl (.inr h)
     ·exact .inr h
    ·rintro ((h|h)|h)
     ·exact .inl h
     ·exact .inr (.inl h)
     ·exact .inr (.inr h)
   have hkp:∀ {d:D} {u:Value},Rd w' (Own σ (fun x=>X x\/x=b)) d u->Rd w' (Own ((b,Blk.cells t0 (ti.zero.map fun z=>.v (zv z)))::σ) X) d u:=fun h=>h.keep (zT _) (fun x _ hn ho=>hn ((hbX x).1 ho)) (fun _ _ _=>rfl);have hbs:b<w'.heap.size:=(zX.1 g3).1;have hSt:St w' X df (a'.set s (.v (.pointer (some ⟨b,0,none⟩)))) ((b,.cells t0 (ti.zero.map fun z=>.v (zv z)))::σ) fr':=by
    refine⟨⟨by simp [g1.fr.size],fun i d hd=>?_⟩,⟨?_,fun b' k hm'=>?_,fun x hx=>g1.st.xlt x (.inl hx),g1.st.gok.mono (fun x hx=>(hbX x).1 hx)⟩,g1.df.keep (zT _) (fun x _ hn ho=>hn ((hbX x).1 ho)) (fun _ _ _=>rfl)⟩
    ·rw [xP] at hd;split at hd
     ·rename_i e;subst e;split at hd
      ·cases hd;exact⟨_,g4,.v _⟩
      ·cases hd
     ·obtain⟨u,k1,k2⟩:=g1.fr.at_ i d hd;exact⟨u,k1,hkp k2⟩
    ·simp only [aa6,List.map_cons,wZ];exact⟨fun hm'=>g5 (.inr hm'),g1.st.nodup⟩
    ·rcases zU.1 hm' with e|hm'
     ·cases e
      refine⟨fun hX=>g5 (.inl hX),_,g3,(ti.zero.map zv),rfl,?_⟩;have:=RdL.vals (w:=w') (O:=Own ((b,Blk.cells t0 (ti.zero.map fun z=>.v (zv z)))::σ) X) (ti.zero.map zv);rw [vA] at this;exact this
     ·obtain⟨q1,o,q2,q3⟩:=g1.st.at_ b' k hm';exact⟨fun hX=>q1 (.inl hX),o,q2,pA4 (zT _) (fun x _ hn ho=>hn ((hbX x).1 ho)) (fun _ _ _=>rfl) q3⟩
   have hMv:Mv w σ w' ((b,.cells t0 (ti.zero.map fun z=>.v (zv z)))::σ):=by
    refine⟨(hx0.trans hx').keep,fun x hx=>?_⟩;simp only [aa6,List.map_cons,zU] at hx;rcases hx with rfl|hx
    ·exact .inr (xH hx0.size g2)
    ·exact .inl hx
   have:=au6 (md:=.any) (Q':=Pw w X df σ Q) (l.drop m) m listed fr' w' (fun j=>by simp [xR]) (by rw [hdl];exact hL.1)
    (ah9 (fun e a w'' hp=>pA3 hMv hp) _ _ _ ((hL.2.2.2 b).run w' X fr' hSt))
   rwa [hdl] at this)
  (fun listed a' hL=>hL.2.1 i0 him) _ _ _ fr _ none hsa (Ex.refl _) (show StG X df σ s t0 _ _ none _ a fr from hs.ex hx0) (by have:=(zE.1 h0).1;simpa using this) (fun _=>getD_in (by have:=(zE.1 h0).1;simpa using this) (getD_replicate_false _ _)) (fun b e=>by cases e) H
 rw [htl,show m+(l.toArray.size-m)=l.toArray.size by omega] at this;exact this
end
end
section
open Go Go.RowKit Go.Shelf
section
variable {P:Program} {r:Option Nat} {n:Nat} {df:Nat} {ops:Array Oper} {Q:Pst} {a:List D} {σ:aa1} {md:Region.Mode}
def only (L:List Tmp) (a:List D):List D:=a.mapIdx fun i d=>if i∈L then d else .any
theorem bq3 (L:List Tmp) (a:List D):(only L a).length=a.length:=by simp [only]
theorem bN7 {L:List Tmp} {dst:Option Tmp} {d:D} (h:∀ i,dst=some i->i ∉ L):only L (putD a dst d)=only L a:=by
 cases dst with
 | none=>rfl
 | some i=>
  refine xY fun j=>?_;simp only [only,putD,List.getElem?_mapIdx,xP];by_cases e:i=j
  ·subst e;have:=h i rfl;by_cases hl:i<a.length
   ·simp [hl,this]
   ·simp [hl]
  ·simp [e]
theorem St.mask {w:World} {X:Nat->Prop} {fr:Act} (L:List Tmp) (h:St w X df a σ fr):St w X df (only L a) σ fr:=by
 refine⟨⟨by rw [bq3];exact h.fr.size,fun i d hd=>?_⟩,h.st,h.df⟩;simp only [only,List.getElem?_mapIdx,xN] at hd;obtain⟨d0,h0,h1⟩:=hd;obtain⟨u,k1,k2⟩:=h.fr.at_ i d0 h0;refine⟨u,k1,?_⟩;subst h1;split
 ·exact k2
 ·exact .any _
theorem St.back {w w':World} {X:Nat->Prop} {dst:Option Tmp} {d:D} {σ':aa1} {fr fr':Act} (h:St w X df a σ fr) (hm:Mv w σ w' σ') {a':List D} (h':St w' X df a' σ' fr') (hl:a'.length=a.length) (hd:∀ i,dst=some i->i<a.length->a'[i]?=some d) (hu:∃ u,fr'.tmps=(fr.put dst u).tmps):St w' X df (putD a dst d) σ' fr':=by
 obtain⟨u,hu⟩:=hu;have keep:∀ {e:D} {v:Value},Rd w (Own σ X) e v->Rd w' (Own σ' X) e v:=fun h=>h.keep hm.keep.size (fun b hb hn ho=>by
  rcases ho with ho|ho
  ·exact hn (.inl ho)
  ·rcases hm.new b ho with h1|h1
   ·exact hn (.inr h1)
   ·omega) (fun b hb hn=>hm.keep.block b hb (fun hk=>hn (.inr hk)))
 refine⟨⟨?_,fun i e he=>?_⟩,h'.st,h'.df⟩
 ·have:=h'.fr.size
  cases dst<;>simpa [putD,hl] using this
 ·cases dst with
  | none=>
   obtain⟨v,k1,k2⟩:=h.fr.at_ i e he;exact⟨v,by rw [hu];exact k1,keep k2⟩
  | some j=>
   by_cases hij:j=i
   ·subst hij;refine h'.fr.at_ j e ?_;simp only [putD,xP,if_true] at he;split at he
    ·rename_i hlt;rw [hd j rfl hlt];exact he
    ·cases he
   ·have he':a[i]?=some e:=by simpa [putD,xP,hij] using he
    obtain⟨v,k1,k2⟩:=h.fr.at_ i e he';exact⟨v,by rw [hu];simpa [Act.put,vI hij] using k1,keep k2⟩
theorem bw3 {F:Fence} {Q0 Q':Exit->Act->World->Prop} {i:Nat} {o:Oper} {fr:Act} {w:World} (hi:ops[i]?=some o) (hq:∀ e a w,Q0 e a w->e = .normal) (h:wpListIn F n P ops Q0 [o] fr w) :
  wpOpIn F n P ops Q' i (fun fr' w'=>Q0 .normal fr' w'/\∃ u,fr'.tmps=(fr.put o.dst u).tmps) fr w:=by
 unfold wpOpIn;simp only [hi];unfold wpListIn at h;split at h
 ·rename_i hw;rw [if_pos hw];unfold Oper.wpIn at h ⊢;refine⟨h.1,?_⟩;have hm:=h.2;generalize (o.semAt F.round fr.eval).run P w=res at *
  cases res with
  | ok x w'=>
   cases x<;>simp only [Oper.uponIn] at hm ⊢
   case value u=>exact⟨hm,u,rfl⟩
   case skip=>exact⟨hm,undef,rfl⟩
   case defer d=>exact⟨hm,undef,by cases o.dst<;>rfl⟩
   case enter f args=>
    refine⟨hm.1,hm.2.mono fun e w'' he=>?_⟩
    cases e with
    | returned v=>exact⟨he,v,rfl⟩
    | panicked c=>have:=hq _ _ _ he;cases this
    | outgrown=>obtain⟨a0,w0,h0⟩:=he;have:=hq _ _ _ h0;cases this
   case row=>exact⟨hm.1,hm.2.mono fun v w'' he=>⟨he,v,rfl⟩⟩
   case round=>
    refine⟨hm.1,hm.2.mono fun e w'' he=>?_⟩
    cases e with
    | returned v=>exact⟨he,v,rfl⟩
    | panicked c=>have:=hq _ _ _ he;cases this
    | outgrown=>obtain⟨a0,w0,h0⟩:=he;have:=hq _ _ _ h0;cases this
  | halt x w'=>cases x<;>simp only [Oper.uponIn] at hm ⊢ <;> first|exact hm.elim|(have:=hq _ _ _ hm;cases this)
 ·rename_i hw;rw [if_neg hw];exact⟨h.1,h.2,undef,rfl⟩
def EfS (P:Program) (r:Option Nat) (n:Nat) (df:Nat) (ops:Array Oper) (o:Oper) (K:List D->aa1->Prop) (a:List D) (σ:aa1):Prop:=
 AOps P r n df ops (fun e a' σ'=>e = .normal/\a'.length=a.length/\∃ d,(∀ i,o.dst=some i->i<a.length->a'[i]?=some d)/\K (putD a o.dst d) σ') [o] (only (o.looksAt ops) a) σ
def gOp (P:Program) (r:Option Nat) (n:Nat) (df:Nat) (ops:Array Oper) (E:Nat->Bool) (i:Nat) (K:List D->aa1->Prop) (a:List D) (σ:aa1):Prop:=match ops[i]? with
 | none=>False
 | some o=>match E i with
  | false=>∃ d,YsIn none P ops σ o d a/\K (putD a o.dst d) σ
  | true=>EfS P r n df ops o K a σ
def gAny (P:Program) (r:Option Nat) (n:Nat) (df:Nat) (md:Region.Mode) (ops:Array Oper) (E:Nat->Bool) (L:List D->aa1->Prop):Nat->Array Bool->List D->aa1->Prop
 | 0,listed,a,σ=>Region.ready md ops listed=[]/\L a σ
 | f+1,listed,a,σ=>Region.ready md ops listed≠[]/\∀ i∈Region.ready md ops listed,gOp P r n df ops E i (gAny P r n df md ops E L f (listed.setIfInBounds i true)) a σ
theorem EfS.mono {o:Oper} {K K':List D->aa1->Prop} (h:∀ a σ,K a σ->K' a σ) (hh:EfS P r n df ops o K a σ):EfS P r n df ops o K' a σ:=
 ⟨fun w X fr hs=>ah9 (fun e a w ⟨a',σ',⟨h1,h0,d,h2,h3⟩,h4⟩=>⟨a',σ',⟨h1,h0,d,h2,h _ _ h3⟩,h4⟩) _ _ _ (AOps.run hh w X fr hs)⟩
theorem ac1 {E:Nat->Bool} {i:Nat} {K K':List D->aa1->Prop} (h:∀ a σ,K a σ->K' a σ) (hh:gOp P r n df ops E i K a σ):gOp P r n df ops E i K' a σ:=by
 unfold gOp at *;split
 ·rename_i ho;simp only [ho] at hh
 ·rename_i o ho;simp only [ho] at hh;split
  ·rename_i he;simp only [he] at hh;obtain⟨d,h1,h2⟩:=hh;exact⟨d,h1,h _ _ h2⟩
  ·rename_i he;simp only [he] at hh;exact hh.mono h
theorem cf2 {E:Nat->Bool} {j:Nat} {oi oj:Oper} {d:D} {S:aa1->Prop} (hj:ops[j]?=some oj) (hap:oi.apart ops oj=true) {K:List D->aa1->Prop}
  (hE:E j=true->∀ s,S s) (hS:S σ) (hy:∀ s,S s->YsIn none P ops s oi d a) (h:gOp P r n df ops E j K (putD a oi.dst d) σ) :
  gOp P r n df ops E j (fun a' σ'=>S σ'/\(∀ s,S s->YsIn none P ops s oi d a')/\K (putD a' oi.dst d) σ') a σ:=by
 obtain⟨h1,h2,h3⟩:=Oper.apart_spec hap;unfold gOp at *;simp only [hj] at *
 cases he:E j with
 | false=>
  simp only [he] at h ⊢;obtain⟨e,k1,k2⟩:=h;refine⟨e,?_,hS,fun s hs=>(hy s hs).put h3,by rw [← aE4 a d e h2];exact k2⟩;unfold YsIn at *;rw [aM8 h1] at k1;rcases k1 with ⟨q1,q2,q3⟩|q
  ·exact .inl ⟨q1,q2,q3.congr (fun x hx=>(bl6 fun i hi=>ax3 (h1 i hi) x hx).symm)⟩
  ·exact .inr q
 | true=>
  simp only [he] at h ⊢;unfold EfS at *;rw [bN7 h1] at h;refine⟨fun w X fr hs=>ah9 (fun e a' w' ⟨a'',σ',⟨q1,q0,d',q2,q3⟩,q4⟩=>⟨a'',σ',⟨q1,by rw [q0];cases oi.dst<;>simp [putD],d',(fun i hi hl=>q2 i hi (by cases oi.dst<;>simpa [putD] using hl)),hE he σ',fun s hs=>(hy s hs).put h3,?_⟩,q4⟩) _ _ _ (h.run w X fr hs)⟩;rw [← aE4 a d d' h2];exact q3
theorem aq4 {E:Nat->Bool} {i:Nat} {oi:Oper} {d:D} {L:List D->aa1->Prop} {S:aa1->Prop} (hi:ops[i]?=some oi) (hEi:E i=false)
  (hS:∀ listed,HeadInv md ops ops.size listed->listed.getD i true=false->∀ j∈Region.ready md ops listed,E j=true->∀ s,S s) :
  ∀ (f:Nat) (listed:Array Bool) (a:List D) (σ:aa1),HeadInv md ops ops.size listed ->
   (∀ j oj,ops[j]?=some oj->j≠i->listed.getD j true=false->(∀ e∈oj.after,Region.binds md e=true->e.on≠i)->oi.apart ops oj=true) ->
   i∈Region.ready md ops listed->S σ->(∀ s,S s->YsIn none P ops s oi d a) ->
   gAny P r n df md ops E L f (listed.setIfInBounds i true) (putD a oi.dst d) σ->gAny P r n df md ops E L (f+1) listed a σ:=by
 intro f
 induction f with
 | zero=>
  intro listed a σ inv _ hr hs hy H;refine⟨fun h=>(by rw [h] at hr;cases hr),fun j hj=>?_⟩;by_cases hji:j=i
  ·subst hji;unfold gOp;simp only [hi,hEi];exact⟨d,hy _ hs,H⟩
  ·have:=ready_mono hj hji;rw [H.1] at this
   cases this
 | succ f ih=>
  intro listed a σ inv hfree hr hs hy H;have hun:=(mem_ready.1 hr).1;refine⟨fun h=>(by rw [h] at hr;cases hr),fun j hj=>?_⟩;by_cases hji:j=i
  ·subst hji;unfold gOp;simp only [hi,hEi];exact⟨d,hy _ hs,H⟩
  ·obtain⟨hjun,oj,hoj,hall⟩:=mem_ready.1 hj;have hjn:j<ops.size:=(zX.1 hoj).1;have hnot:∀ e∈oj.after,Region.binds md e=true->e.on≠i:=fun e he hb heq=>by
    have h1:=hall e he hb;rw [heq,getD_both hun] at h1
    cases h1
   have h2:=cf2 hoj (hfree j oj hoj hji hjun hnot) (hS listed inv hun j hj) hs hy (H.2 j (ready_mono hj hji));refine ac1 (fun a' σ' h3=>ih (listed.setIfInBounds j true) a' σ' (inv.set hj hjn) (fun k ok hk hki hunk hno=>hfree k ok hk hki ?_ hno) (ready_mono hr (Ne.symm hji)) h3.1 h3.2.1 ?_) h2
   ·by_cases hjk:j=k
    ·subst hjk;exact hjun
    ·rw [getD_set_ne true hjk] at hunk;exact hunk
   ·rw [Array.setIfInBounds_comm _ _ hji];exact h3.2.2
def desc (md:Region.Mode) (ops:Array Oper) (i:Nat):List Nat->List Nat->List Nat
 | [],acc=>acc
 | j::l,acc=>desc md ops i l (bif acc.any (fun k=>Region.waitsFor md ops j k) then j::acc else acc)
def barB (md:Region.Mode) (ops:Array Oper) (E:Nat->Bool) (i:Nat):Bool:=
 (List.range ops.size).all fun e=>!E e||(desc md ops i (List.range ops.size) []).contains e||(desc md ops i (List.range ops.size) [i]).contains e && !Nat.beq e i
def wK:=@Option.some.inj
theorem bl7 {listed:Array Bool} {i:Nat} (inv:HeadInv md ops ops.size listed) (hun:listed.getD i true=false) :
  ∀ (l acc:List Nat),(∀ k∈acc,listed.getD k false=false/\(k=i\/k ∉ Region.ready md ops listed))->∀ k∈desc md ops i l acc,listed.getD k false=false/\(k=i\/k ∉ Region.ready md ops listed)
 | [],acc,h,k,hk=>h k hk
 | j::l,acc,h,k,hk=>by
  refine bl7 inv hun l _ (fun k hk=>?_) k hk
  cases hb:acc.any (fun k=>Region.waitsFor md ops j k) with
  | false=>rw [hb] at hk;exact h k hk
  | true=>
   rw [hb] at hk;rcases zU.1 hk with rfl|hk
   ·obtain⟨k',hk',hw⟩:=wC.1 hb;obtain⟨oj,hoj,e,he,hbi,hon⟩:=Region.waitsFor_spec hw;have h1:=(h k' hk').1;constructor
    ·cases hl:listed.getD k false with
     | false=>rfl
     | true=>have h2:=inv.closed k oj hoj hl e he hbi;rw [hon,h1] at h2;cases h2
    ·refine .inr fun hr=>?_;obtain⟨_,o',ho',hall⟩:=mem_ready.1 hr;have:o'=oj:=wK (ho'.symm.trans hoj);subst this;have h2:=hall e he hbi;rw [hon,h1] at h2
     cases h2
   ·exact h k hk
theorem bl9 {E:Nat->Bool} {i:Nat} (h:barB md ops E i=true) (listed:Array Bool) (inv:HeadInv md ops ops.size listed) (hun:listed.getD i true=false) (j:Nat) (hj:j∈Region.ready md ops listed):E j=false:=by
 cases hE:E j with
 | false=>rfl
 | true=>
  exfalso;obtain⟨_,oj,hoj,_⟩:=mem_ready.1 hj;have hjn:j<ops.size:=(zX.1 hoj).1;have h1:=yA.1 h j (xT.2 hjn);simp only [hE,Bool.not_true,Bool.false_or,xO,zJ,List.contains_iff_mem,xJ] at h1;rcases h1 with h1|⟨h1,h2⟩
  ·have:=bl7 inv hun _ [] (fun k hk=>by cases hk) j h1;rcases this.2 with e|e
   ·subst e;have:∀ (l:List Nat),desc md ops j l []=[]:=fun l=>by induction l with
     | nil=>rfl
     | cons x l ih=>simpa [desc] using ih
    rw [this] at h1;cases h1
   ·exact e hj
  ·have:=bl7 inv hun _ [i] (fun k hk=>by
    have:k=i:=by simpa using hk
    subst this;exact⟨getD_both hun,.inl rfl⟩) j h1
   rcases this.2 with e|e
   ·subst e;simp at h2
   ·exact e hj
def bB8 (md:Region.Mode) (ops:Array Oper):List Nat->Array Bool->Bool
 | [],listed=>(Region.ready md ops listed).isEmpty
 | k::l,listed=>decide (Region.ready md ops listed=[k])&&bB8 md ops l (listed.setIfInBounds k true)
def mixB (md:Region.Mode) (ops:Array Oper) (E:Nat->Bool) (rest:List Nat):List Nat->Array Bool->Bool
 | [],listed=>bB8 md ops rest listed
 | i::hs,listed=>(Region.ready md ops listed).contains i&&Region.free md ops listed i && !E i&&mixB md ops E rest hs (listed.setIfInBounds i true)
def gSeq (P:Program) (r:Option Nat) (n:Nat) (df:Nat) (ops:Array Oper) (E:Nat->Bool) (L:List D->aa1->Prop):List Nat->List D->aa1->Prop
 | [],a,σ=>L a σ
 | k::l,a,σ=>gOp P r n df ops E k (gSeq P r n df ops E L l) a σ
def gLex (P:Program) (md:Region.Mode) (ops:Array Oper) (E:Nat->Bool) (L:List D->aa1->Prop):List Nat->List D->aa1->Prop
 | [],a,σ=>L a σ
 | i::hs,a,σ=>∃ o d,ops[i]?=some o/\((barB md ops E i=true/\YsIn none P ops σ o d a)\/YsIn none P ops [] o d a)/\gLex P md ops E L hs (putD a o.dst d) σ
theorem aQ3 {E:Nat->Bool} {L:List D->aa1->Prop}:∀ (l:List Nat) (listed:Array Bool) (a:List D) (σ:aa1),bB8 md ops l listed=true->gSeq P r n df ops E L l a σ->gAny P r n df md ops E L l.length listed a σ
 | [],listed,a,σ,hB,h=>⟨by simpa [bB8] using hB,h⟩
 | k::l,listed,a,σ,hB,h=>by
  simp only [bB8,zJ,zQ] at hB;refine⟨fun h1=>(by rw [hB.1] at h1;cases h1),fun i hi=>?_⟩;rw [hB.1] at hi;have:i=k:=by simpa using hi
  subst this;exact ac1 (fun a' σ' h'=>aQ3 l _ a' σ' hB.2 h') h
theorem Yd.free {o:Oper} {ρ:Operand->D} {d:D} (h:Yd P o ρ [] d):Yd P o ρ σ d:=by
 intro w X η hη hs;have io:∀ x,Own [] (Own σ X) x↔Own σ X x:=fun x=>⟨fun h=>h.elim id (fun h=>by cases h),.inl⟩
 have t1:∀ {w':World} {d:D} {u:Value},Rd w' (Own σ X) d u->Rd w' (Own [] (Own σ X)) d u:=fun h=>h.keep (zT _) (fun x _ hn ho=>hn ((io x).1 ho)) (fun _ _ _=>rfl);have t2:∀ {w':World} {d:D} {u:Value},Rd w' (Own [] (Own σ X)) d u->Rd w' (Own σ X) d u:=fun h=>h.keep (zT _) (fun x _ hn ho=>hn ((io x).2 ho)) (fun _ _ _=>rfl);have h1:=h w (Own σ X) η (fun x hx=>t1 (hη x hx)) ⟨List.nodup_nil,fun b k hm=>(by cases hm),fun b hb=>by
  rcases hb with hb|hb
  ·exact hs.xlt b hb
  ·exact hs.lt hb,hs.gok.mono (fun x hx=>(io x).1 hx)⟩
 generalize (execOp η o).run P w=res at h1
 cases res with
 | ok x w'=>
  cases x<;>simp only [YU] at h1 ⊢
  case value u=>exact⟨h1.1,t2 h1.2⟩
  case enter f args=>exact⟨h1.1,h1.2.mono fun e w'' ⟨u,q1,q2,q3⟩=>⟨u,q1,q2,t2 q3⟩⟩
 | halt x w'=>simp only [YU] at h1
theorem YsIn.free {o:Oper} {d:D} (h:YsIn none P ops [] o d a) (s:aa1):YsIn none P ops s o d a:=by
 rcases h with ⟨h1,h2,h3⟩|h
 ·exact .inl ⟨h1,h2,.of h3.yd.free⟩
 ·exact .inr h
theorem aQ4 {E:Nat->Bool} {L:List D->aa1->Prop} {rest:List Nat}:∀ (hs:List Nat) (listed:Array Bool) (a:List D) (σ:aa1),HeadInv md ops ops.size listed->mixB md ops E rest hs listed=true ->
  gLex P md ops E (gSeq P r n df ops E L rest) hs a σ->gAny P r n df md ops E L (hs.length+rest.length) listed a σ
 | [],listed,a,σ,inv,hB,h=>by
  rw [show ([]:List Nat).length+rest.length=rest.length by simp];exact aQ3 rest listed a σ hB h
 | i::hs,listed,a,σ,inv,hB,h=>by
  simp only [mixB,zJ,xJ] at hB;obtain⟨⟨⟨hr,hf⟩,hE⟩,hB'⟩:=hB;obtain⟨o,d,ho,hy,hk⟩:=h;have hr':i∈Region.ready md ops listed:=by simpa using hr
  have hin:i<ops.size:=(zX.1 ho).1;have H:=aQ4 hs _ _ _ (inv.set hr' hin) hB' hk;rw [show (i::hs).length+rest.length=(hs.length+rest.length)+1 by simp;omega];rcases hy with ⟨hb,hy⟩|hy
  ·exact aq4 (S:=fun s=>s=σ) ho hE (fun ls i1 i2 j hj e=>by rw [bl9 hb ls i1 i2 j hj] at e;cases e) _ listed a σ inv (Region.free_spec ho hf) hr' rfl (fun s e=>by subst e;exact hy) H
  ·exact aq4 (S:=fun _=>True) ho hE (fun _ _ _ _ _ _ _=>trivial) _ listed a σ inv (Region.free_spec ho hf) hr' trivial (fun s _=>hy.free s) H
inductive Ord where
 | done
 | one (i:Nat) (t:Ord)
 | two (i:Nat) (t:Ord) (j:Nat) (u:Ord)
 | three (i:Nat) (t:Ord) (j:Nat) (u:Ord) (k:Nat) (v:Ord)
def ordB (md:Region.Mode) (ops:Array Oper):Nat->Ord->Array Bool->Bool
 | 0,.done,listed=>(Region.ready md ops listed).isEmpty
 | f+1,.one i t,listed=>decide (Region.ready md ops listed=[i])&&ordB md ops f t (listed.setIfInBounds i true)
 | f+1,.two i t j u,listed=>decide (Region.ready md ops listed=[i,j])&&(ordB md ops f t (listed.setIfInBounds i true)&&ordB md ops f u (listed.setIfInBounds j true))
 | f+1,.three i t j u k v,listed=>decide (Region.ready md ops listed=[i,j,k])&&(ordB md ops f t (listed.setIfInBounds i true)&&(ordB md ops f u (listed.setIfInBounds j true)&&ordB md ops f v (listed.setIfInBounds k true)))
 | _,_,_=>false
def gOrd (P:Program) (r:Option Nat) (n:Nat) (df:Nat) (ops:Array Oper) (E:Nat->Bool) (L:List D->aa1->Prop):Ord->List D->aa1->Prop
 | .done,a,σ=>L a σ
 | .one i t,a,σ=>gOp P r n df ops E i (gOrd P r n df ops E L t) a σ
 | .two i t j u,a,σ=>gOp P r n df ops E i (gOrd P r n df ops E L t) a σ/\gOp P r n df ops E j (gOrd P r n df ops E L u) a σ
 | .three i t j u k v,a,σ=>gOp P r n df ops E i (gOrd P r n df ops E L t) a σ/\gOp P r n df ops E j (gOrd P r n df ops E L u) a σ/\gOp P r n df ops E k (gOrd P r n df ops E L v) a σ
theorem an6 {E:Nat->Bool} {L:List D->aa1->Prop}:∀ (f:Nat) (t:Ord) (listed:Array Bool) (a:List D) (σ:aa1),ordB md ops f t listed=true->gOrd P r n df ops E L t a σ->gAny P r n df md ops E L f listed a σ
 | 0,.done,listed,a,σ,hB,h=>⟨by simpa [ordB] using hB,h⟩
 | f+1,.one i t,listed,a,σ,hB,h=>by
  simp only [ordB,zJ,zQ] at hB;refine⟨fun h1=>(by rw [hB.1] at h1;cases h1),fun k hk=>?_⟩;rw [hB.1] at hk;have:k=i:=by simpa using hk
  subst this;exact ac1 (fun a' σ' h'=>an6 f t _ a' σ' hB.2 h') h
 | f+1,.two i t j u,listed,a,σ,hB,h=>by
  simp only [ordB,zJ,zQ] at hB;refine⟨fun h1=>(by rw [hB.1] at h1;cases h1),fun k hk=>?_⟩;rw [hB.1] at hk;have:k=i\/k=j:=by simpa using hk
  rcases this with rfl|rfl
  ·exact ac1 (fun a' σ' h'=>an6 f t _ a' σ' hB.2.1 h') h.1
  ·exact ac1 (fun a' σ' h'=>an6 f u _ a' σ' hB.2.2 h') h.2
 | f+1,.three i t j u l v,listed,a,σ,hB,h=>by
  simp only [ordB,zJ,zQ] at hB;refine⟨fun h1=>(by rw [hB.1] at h1;cases h1),fun k hk=>?_⟩;rw [hB.1] at hk;have:k=i\/k=j\/k=l:=by simpa using hk
  rcases this with rfl|rfl|rfl
  ·exact ac1 (fun a' σ' h'=>an6 f t _ a' σ' hB.2.1 h') h.1
  ·exact ac1 (fun a' σ' h'=>an6 f u _ a' σ' hB.2.2.1 h') h.2.1
  ·exact ac1 (fun a' σ' h'=>an6 f v _ a' σ' hB.2.2.2 h') h.2.2
 | 0,.one _ _,_,_,_,hB,_=>by cases hB
 | 0,.three _ _ _ _ _ _,_,_,_,hB,_=>by cases hB
 | 0,.two _ _ _ _,_,_,_,hB,_=>by cases hB
 | _+1,.done,_,_,_,hB,_=>by cases hB
def bw8 (md:Region.Mode) (ops:Array Oper) (E:Nat->Bool) (f:Nat) (t:Ord):List Nat->Array Bool->Bool
 | [],listed=>ordB md ops f t listed
 | i::hs,listed=>(Region.ready md ops listed).contains i&&Region.free md ops listed i && !E i&&bw8 md ops E f t hs (listed.setIfInBounds i true)
theorem aJ6 {E:Nat->Bool} {L:List D->aa1->Prop} {f:Nat} {t:Ord}:∀ (hs:List Nat) (listed:Array Bool) (a:List D) (σ:aa1),HeadInv md ops ops.size listed->bw8 md ops E f t hs listed=true ->
  gLex P md ops E (gOrd P r n df ops E L t) hs a σ->gAny P r n df md ops E L (hs.length+f) listed a σ
 | [],listed,a,σ,inv,hB,h=>by
  rw [show ([]:List Nat).length+f=f by simp];exact an6 f t listed a σ hB h
 | i::hs,listed,a,σ,inv,hB,h=>by
  simp only [bw8,zJ,xJ] at hB;obtain⟨⟨⟨hr,hf⟩,hE⟩,hB'⟩:=hB;obtain⟨o,d,ho,hy,hk⟩:=h;have hr':i∈Region.ready md ops listed:=by simpa using hr
  have hin:i<ops.size:=(zX.1 ho).1;have H:=aJ6 hs _ _ _ (inv.set hr' hin) hB' hk;rw [show (i::hs).length+f=(hs.length+f)+1 by simp;omega];rcases hy with ⟨hb,hy⟩|hy
  ·exact aq4 (S:=fun s=>s=σ) ho hE (fun ls i1 i2 j hj e=>by rw [bl9 hb ls i1 i2 j hj] at e;cases e) _ listed a σ inv (Region.free_spec ho hf) hr' rfl (fun s e=>by subst e;exact hy) H
  ·exact aq4 (S:=fun _=>True) ho hE (fun _ _ _ _ _ _ _=>trivial) _ listed a σ inv (Region.free_spec ho hf) hr' trivial (fun s _=>hy.free s) H
theorem an7 {E:Nat->Bool} {X:Nat->Prop} {w0:World} {σ0:aa1}:∀ (f:Nat) (listed:Array Bool) (a:List D) (σ:aa1) (fr:Act) (w:World),Mv w0 σ0 w σ->St w X df a σ fr->gAny P r n df md ops E (fun a σ=>Q .normal a σ) f listed a σ ->
  wpAnyIn (FW r) n P md ops (Pw w0 X df σ0 Q) f listed fr w
 | 0,listed,a,σ,fr,w,hm,hs,h=>⟨h.1,a,σ,h.2,hs,hm⟩
 | f+1,listed,a,σ,fr,w,hm,hs,h=>by
  refine⟨fun h0=>absurd h0 h.1,fun i hi=>?_⟩;have h2:=h.2 i hi;unfold gOp at h2;split at h2
  ·exact h2.elim
  ·rename_i o ho;split at h2
   ·obtain⟨d,hy,hk⟩:=h2;unfold wpOpIn;simp only [ho];rcases hy with ⟨k1,k2,k3⟩|⟨k1,rfl⟩
    ·rw [if_pos (by rw [aq7 hs.fr k1])];refine⟨bf7 o w _,?_⟩;rw [show (FW r).round=r from rfl,ax0 k2];have h1:=k3.yd w X fr.eval (fun x _=>hs.fr.eval x) hs.st;generalize (execOp fr.eval o).run P w=res at h1
     cases res with
     | ok x w'=>
      cases x<;>simp only [YU] at h1
      case value u=>exact an7 f _ _ _ _ _ (hm.trans (pA2 h1.1)) ((hs.ex h1.1).put h1.2 o.dst) hk
      case enter fn args=>
       obtain⟨rfl,hc⟩:=h1;refine⟨fun hd=>by simp [FW,Fence.wide] at hd,?_⟩;have hc':CallsIn Fence.wide (n-1) P fn args w' _:=callsIn_wide.2 hc;have:CallsIn (FW r) (n-1) P fn args w' _:=hc';refine this.mono fun e w'' he=>?_;obtain⟨u,rfl,hx2,hr2⟩:=he;exact an7 f _ _ _ _ _ (hm.trans (pA2 hx2)) ((hs.ex hx2).put hr2 o.dst) hk
     | halt x w'=>simp only [YU] at h1
    ·rw [if_neg (by rw [aq7 hs.fr k1];simp)];exact⟨bf7 o w _,an7 f _ _ _ _ _ hm (hs.put (.v _) o.dst) hk⟩
   ·have h3:=AOps.run h2 w X fr (hs.mask _);refine wpOpIn_mono ?_ (bw3 (Q':=Pw w0 X df σ0 Q) ho (fun e a w ⟨_,_,⟨h,_⟩,_⟩=>h) h3);rintro fr' w' ⟨⟨a',σ',⟨_,hl,d,hd,hK⟩,hst',hmv⟩,hu⟩;exact an7 f _ _ _ _ _ (hm.trans hmv) (St.back hs hmv hst' hl hd hu) hK
theorem bh4 {id:Nat} {l:List Oper} (E:Nat->Bool) (hs rest:List Nat) (hm:P.follows .mixedOrders=true) (hl:hs.length+rest.length=l.length) (hB:mixB .any l.toArray E rest hs (Array.replicate l.length false)=true)
  (h:gLex P .any l.toArray E (gSeq P r n df l.toArray E (fun a σ=>Q .normal a σ) rest) hs a σ):AWP P r n df (.region id l.toArray true) Q a σ:=by
 refine⟨fun w X fr hst=>?_⟩;have inv0:HeadInv .any l.toArray l.toArray.size (Array.replicate l.length false):=
  ⟨by simp,fun j oj _ hl=>(by rw [getD_replicate_false] at hl;cases hl),fun t ht ht'=>by omega⟩
 refine wpIn_region_any hm ?_;have hx0:=aB1 w;have:=an7 (w0:=w) (σ0:=σ) (X:=X) _ _ _ _ fr { w with drawn:=w.drawn+1 } (pA2 hx0) (hst.ex hx0) (aQ4 hs _ a σ inv0 hB h);rw [hl] at this;have e:l.toArray.size=l.length:=by simp
 rw [e];exact this
theorem aJ9 {id:Nat} {l:List Oper} (E:Nat->Bool) (hs:List Nat) (f:Nat) (t:Ord) (hm:P.follows .mixedOrders=true) (hl:hs.length+f=l.length) (hB:bw8 .any l.toArray E f t hs (Array.replicate l.length false)=true)
  (h:gLex P .any l.toArray E (gOrd P r n df l.toArray E (fun a σ=>Q .normal a σ) t) hs a σ):AWP P r n df (.region id l.toArray true) Q a σ:=by
 refine⟨fun w X fr hst=>?_⟩;have inv0:HeadInv .any l.toArray l.toArray.size (Array.replicate l.length false):=
  ⟨by simp,fun j oj _ hl=>(by rw [getD_replicate_false] at hl;cases hl),fun t ht ht'=>by omega⟩
 refine wpIn_region_any hm ?_;have hx0:=aB1 w;have:=an7 (w0:=w) (σ0:=σ) (X:=X) _ _ _ _ fr { w with drawn:=w.drawn+1 } (pA2 hx0) (hst.ex hx0) (aJ6 hs _ a σ inv0 hB h);rw [hl] at this;have e:l.toArray.size=l.length:=by simp
 rw [e];exact this
end
end
end Go.Proofs.YtlcfiilejnnlnaaGreatDoor
