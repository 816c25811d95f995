/- A part of the proof of TopSoundsDescribed (texts C0): an executor of the program's code, proved sound, and its runs. No condition. -/
import Derived.Test.YtdflipbphcmpoaaGreatDoorP08
import Derived.Test.YtdflipbphcmpoaaGreatDoorProg
import Derived.KernelRfl
set_option linter.unusedSimpArgs false
set_option linter.unusedVariables false
set_option maxRecDepth 100000
namespace Go.Proofs.YtdflipbphcmpoaaGreatDoor.Cd
open Go Go.Sx Go.Proofs
/-- scriptorium/scriptoriumtop.TopSoundsDescribed -/
def c3:AFun:=⟨1,code3,[.t 2]⟩
theorem k3:compF Tryz.prog Tryz.f3 c3=some c3:=by kernel_rfl
/-- scriptorium/format.Parse -/
def c5:AFun:=⟨1,.seq (.ops false [oi 0 2 (.alloc [.nils]),oi 1 3 (.alloc [.int .i64 0,.int .i64 0])] (some [0,2,3])) (.seq (.seq (.ops false [oi 0 15 (.mv (.t 0)),oi 1 16 (.len true (.t 15)),oi 2 17 (.bin .gtr (.t 16) (.c (.int .i64
 2000)))] (some [0,2,3,17])) (.cond (.t 17) (.seq (.ops false [oi 0 18 (.build [.nils] []),oi 1 19 (.call false 15 [(.c (.int .i64 3)),(.c (.int .i64 (-1)))]),ou 2 (.st 1 (.t 2) (.t 18)),ou 3 (.st 2 (.t 3) (.t 19))] (some [2,3])) (.ret))
 (.skip))) (.seq (.ops false [oi 0 4 (.alloc [.nils])] (some [0,2,3,4])) (.seq (.ops false [oi 0 5 (.mv (.c .nils))] (some [0,2,3,4,5])) (.seq (.seq (.ops false [oi 0 6 (.mv (.c (.int .i64 0)))] (some [0,2,3,4,5,6])) (.block 0 (.loop (.seq
 (.seq (.ops false [oi 0 20 (.mv (.t 0)),oi 1 21 (.bin .neq (.t 20) (.c (.str [])))] (some [0,2,3,4,5,6,21])) (.cond (.t 21) (.skip) (.exit 0))) (.seq (.block 1 (.seq (.ops false [oi 0 25 (.mv (.t 0)),oi 1 26 (.call false 16 [(.t 25),(.c
 (.str [10]))]),oi 2 24 (.mv (.t 26)),oi 3 27 (.ext 0 (.t 24)),oi 4 28 (.ext 1 (.t 24)),oi 5 29 (.ext 2 (.t 24)),oi 6 7 (.mv (.t 27)),oi 7 8 (.mv (.t 28)),oi 8 9 (.mv (.t 29))] (some [2,3,4,5,6,7,8,9])) (.seq (.ops false [oi 0 31 (.mv (.t
 7)),oi 1 32 (.call false 17 [(.t 31)]),oi 2 30 (.mv (.t 32)),oi 3 33 (.ext 0 (.t 30)),oi 4 34 (.ext 1 (.t 30)),oi 5 35 (.ext 2 (.t 30)),oi 6 10 (.alloc [.str [],.int .i64 0,.nils,.int .i64 0,.bool false,.int .i64 0,.int .i64 0,.int .i64
 0,.int .i64 0,.int .i64 0,.nils,.nils]),ou 7 (.st 12 (.t 10) (.t 33)),oi 8 11 (.mv (.t 34)),oi 9 12 (.mv (.t 35))] (some [2,3,4,5,6,8,9,10,11,12])) (.seq (.seq (.ops false [oi 0 36 (.mv (.t 12)),oi 1 37 (.un .not (.t 36)),oi 2 38 (.mv (.t
 37)),⟨3,some 39,.mv (.t 9),(some (some 38,false)),[]⟩,⟨4,some 40,.un .not (.t 39),(some (some 38,false)),[]⟩,oi 5 41 (.pick (.t 38) (.c (.bool true)) (.t 40))] (some [2,3,4,5,6,8,10,11,41])) (.cond (.t 41) (.seq (.ops false [oi 0 42 (.build
 [.nils] []),oi 1 43 (.mv (.t 6)),oi 2 44 (.call false 15 [(.c (.int .i64 1)),(.t 43)]),ou 3 (.st 1 (.t 2) (.t 42)),ou 4 (.st 2 (.t 3) (.t 44))] (some [2,3])) (.ret)) (.skip))) (.ops false [oi 0 45 (.fa 0 (.t 4)),oi 1 46 (.ld1 (.t 45)),oi 2
 47 (.ldA 12 (.t 10)),oi 3 48 (.mkS 1 [.str [],.int .i64 0,.nils,.int .i64 0,.bool false,.int .i64 0,.int .i64 0,.int .i64 0,.int .i64 0,.int .i64 0,.nils,.nils] [(0,12,(.t 47))]),oi 4 49 (.app true 12 152 (.t 46) (.t 48)),oi 5 50 (.mv (.t
 5)),oi 6 51 (.mv (.t 11)),oi 7 52 (.mkS 1 [.nils] [(0,1,(.t 51))]),oi 8 53 (.app false 1 24 (.t 50) (.t 52)),oi 9 54 (.mv (.t 8)),oi 10 55 (.fa 0 (.t 4)),ou 11 (.st 1 (.t 55) (.t 49)),oi 12 5 (.mv (.t 53)),oi 13 0 (.mv (.t 54))] (some
 [0,2,3,4,5,6])))))) (.ops false [oi 0 22 (.mv (.t 6)),oi 1 23 (.bin .add (.t 22) (.c (.int .i64 1))),oi 2 6 (.mv (.t 23))] (some [0,2,3,4,5,6]))))))) (.seq (.seq (.ops false [oi 0 56 (.fa 0 (.t 4)),oi 1 57 (.ld1 (.t 56)),oi 2 58 (.len false
 (.t 57)),oi 3 59 (.mv (.c (.int .i64 0)))] (some [2,3,4,5,58,59])) (.block 2 (.loop (.seq (.ops false [oi 0 60 (.bin .lss (.t 59) (.t 58))] (some [2,3,4,5,58,59,60])) (.seq (.cond (.t 60) (.skip) (.exit 2)) (.seq (.block 3 (.seq (.ops false
 [oi 0 61 (.mv (.t 59)),oi 1 13 (.mv (.t 61))] (some [2,3,4,5,13,58,59])) (.seq (.ops true [oi 0 62 (.ldA 1 (.t 4)),oi 1 63 (.fa 0 (.t 4)),oi 2 64 (.ld1 (.t 63)),oi 3 65 (.mv (.t 13)),oi 4 66 (.ia 12 (.t 64) (.t 65)),oi 5 67 (.mv (.t 5)),oi
 6 68 (.mv (.t 13)),oi 7 69 (.ia 1 (.t 67) (.t 68)),oi 8 70 (.ld1 (.t 69)),oi 9 71 (.call false 18 [(.t 62),(.t 66),(.t 70)]),oi 10 72 (.un .not (.t 71))] (some [2,3,4,5,13,58,59,72])) (.cond (.t 72) (.seq (.ops false [oi 0 73 (.build
 [.nils] []),oi 1 74 (.mv (.t 13)),oi 2 75 (.call false 15 [(.c (.int .i64 12)),(.t 74)]),ou 3 (.st 1 (.t 2) (.t 73)),ou 4 (.st 2 (.t 3) (.t 75))] (some [2,3])) (.ret)) (.skip))))) (.ops false [oi 0 76 (.bin .add (.t 59) (.c (.int .i64
 1))),oi 1 59 (.mv (.t 76))] (some [2,3,4,5,58,59])))))))) (.seq (.seq (.ops false [oi 0 77 (.ldA 1 (.t 4)),oi 1 78 (.call false 19 [(.t 77)]),oi 2 14 (.alloc [.int .i64 0,.int .i64 0]),ou 3 (.st 2 (.t 14) (.t 78))] (some [2,3,4,14])) (.seq
 (.ops false [oi 0 79 (.ldA 2 (.t 14)),oi 1 80 (.build [.int .i64 0,.int .i64 0] []),oi 2 81 (.eqA true 2 (.t 79) (.t 80))] (some [2,3,4,14,81])) (.cond (.t 81) (.seq (.ops true [oi 0 82 (.build [.nils] []),oi 1 83 (.ldA 2 (.t
 14)),⟨2,none,.st 1 (.t 2) (.t 82),none,[1]⟩,ou 3 (.st 2 (.t 3) (.t 83))] (some [2,3])) (.ret)) (.skip)))) (.seq (.ops false [oi 0 84 (.ldA 1 (.t 4)),oi 1 85 (.build [.int .i64 0,.int .i64 0] []),ou 2 (.st 1 (.t 2) (.t 84)),ou 3 (.st 2 (.t
 3) (.t 85))] (some [2,3])) (.ret)))))))),[.cA 2 1,.cA 3 2]⟩
theorem k5:compF Tryz.prog Tryz.f5 c5=some c5:=by kernel_rfl
/-- scriptorium/scriptoriumtop.soundFormat -/
def c6:AFun:=⟨0,.seq (.ops false [oi 0 0 (.mv (.c (.str [])))] (some [])) (.seq (.ops false [oi 0 0 (.mv (.c (.str
 [102,105,108,101,32,115,101,113,117,101,110,99,101,32,45,58,109,97,103,105,99,32,99,104,117,110,107,115,58,108,105,115,116,10,109,97,103,105,99,32,108,105,116,101,114,97,108,32,53,51,52,101,52,52,51,49,10,108,105,115,116,32,114,101,112,101,97,116,32,48,32,99,104,117,110,107,10,99,104,117,110,107,32,99,104,111,105,99,101,32,102,111,114,109,32,115,97,109,112,108,101,115,32,108,111,119,32,109,105,100,100,108,101,32,104,105,103,104,10,102,111,114,109,32,115,101,113,117,101,110,99,101,32,45,58,102,111,114,109,104,101,97,100,32,114,97,116,101,58,116,119,111,32,99,104,97,110,110,101,108,115,58,111,110,101,32,99,111,100,105,110,103,58,111,110,101,10,102,111,114,109,104,101,97,100,32,108,105,116,101,114,97,108,32,52,54,48,48,48,52,10,115,97,109,112,108,101,115,32,115,101,113,117,101,110,99,101,32,45,58,115,97,109,112,108,101,104,101,97,100,32,100,97,116,97,58,98,108,111,98,10,115,97,109,112,108,101,104,101,97,100,32,108,105,116,101,114,97,108,32,52,52,10,108,111,119,32,115,101,113,117,101,110,99,101,32,110,97,109,101,58,108,111,119,110,97,109,101,32,100,97,116,97,58,98,108,111,98,10,109,105,100,100,108,101,32,115,101,113,117,101,110,99,101,32,110,97,109,101,58,109,105,100,100,108,101,110,97,109,101,32,100,97,116,97,58,98,108,111,98,10,104,105,103,104,32,115,101,113,117,101,110,99,101,32,110,97,109,101,58,104,105,103,104,110,97,109,101,32,100,97,116,97,58,98,108,111,98,10,108,111,119,110,97,109,101,32,110,117,109,98,101,114,32,49,32,98,105,103,32,54,53,32,54,55,10,109,105,100,100,108,101,110,97,109,101,32,110,117,109,98,101,114,32,49,32,98,105,103,32,54,57,32,54,57,10,104,105,103,104,110,97,109,101,32,110,117,109,98,101,114,32,49,32,98,105,103,32,55,49,32,57,48,10,111,110,101,32,110,117,109,98,101,114,32,49,32,98,105,103,32,48,32,50,53,53,10,116,119,111,32,110,117,109,98,101,114,32,50,32,98,105,103,32,48,32,54,53,53,51,53,10,98,108,111,98,32,98,108,111,98,32,116,119,111,10])))]
 (some [0])) (.ret)),[.t 0]⟩
theorem k6:compF Tryz.prog Tryz.f6 c6=some c6:=by kernel_rfl
/-- scriptorium/formatio.Parse -/
def c7:AFun:=⟨2,code7,[.cA 4 5,.cA 5 2]⟩
theorem k7:compF Tryz.prog Tryz.f7 c7=some c7:=by kernel_rfl
/-- scriptorium/value.At -/
def c8:AFun:=⟨2,code8,[.cA 4 5,.cA 5 2]⟩
theorem k8:compF Tryz.prog Tryz.f8 c8=some c8:=by kernel_rfl
/-- scriptorium/sound.To -/
def c9:AFun:=⟨1,code9,[.cA 2 5,.t 3,.cA 4 2]⟩
theorem k9:compF Tryz.prog Tryz.f9 c9=some c9:=by kernel_rfl
/-- scriptorium/formatio.Print -/
def c10:AFun:=⟨2,code10,[.c1 4,.cA 5 2]⟩
theorem k10:compF Tryz.prog Tryz.f10 c10=some c10:=by kernel_rfl
/-- scriptorium/value.Find -/
def c11:AFun:=⟨2,code11,[.t 4,.cA 5 2]⟩
theorem k11:compF Tryz.prog Tryz.f11 c11=some c11:=by kernel_rfl
/-- scriptorium/scriptoriumref1.Bytes -/
def c12:AFun:=⟨2,code12,[.t 4]⟩
theorem k12:compF Tryz.prog Tryz.f12 c12=some c12:=by kernel_rfl
/-- scriptorium/format.fault -/
def c15:AFun:=⟨2,.seq (.ops false [oi 0 4 (.alloc [.int .i64 0,.int .i64 0])] (some [0,1,4])) (.seq (.ops false [oi 0 5 (.mv (.t 0)),oi 1 6 (.mv (.t 1)),oi 2 7 (.build [.int .i64 0,.int .i64 0] [(0,1,(.t 5)),(1,1,(.t 6))]),ou 3 (.st 2
 (.t 4) (.t 7))] (some [4])) (.ret)),[.cA 4 2]⟩
theorem k15:compF Tryz.prog Tryz.f15 c15=some c15:=by kernel_rfl
/-- strings.Cut -/
def c16:AFun:=⟨2,.seq (.ops false [oi 0 4 (.mv (.c (.str []))),oi 1 5 (.mv (.c (.str []))),oi 2 6 (.mv (.c (.bool false)))] (some [0,1])) (.seq (.ops false [oi 0 7 (.mv (.t 0)),oi 1 8 (.mv (.t 1)),oi 2 9 (.call false 41 [(.t 7),(.t
 8)]),oi 3 10 (.ext 0 (.t 9)),oi 4 11 (.ext 1 (.t 9)),oi 5 12 (.ext 2 (.t 9)),oi 6 4 (.mv (.t 10)),oi 7 5 (.mv (.t 11)),oi 8 6 (.mv (.t 12))] (some [4,5,6])) (.ret)),[.t 4,.t 5,.t 6]⟩
theorem k16:compF Tryz.prog Tryz.f16 c16=some c16:=by kernel_rfl
/-- scriptorium/format.readLine -/
def c17:AFun:=⟨1,.seq (.ops false [oi 0 2 (.alloc [.str [],.int .i64 0,.nils,.int .i64 0,.bool false,.int .i64 0,.int .i64 0,.int .i64 0,.int .i64 0,.int .i64 0,.nils,.nils]),oi 1 3 (.mv (.c .nils)),oi 2 4 (.mv (.c (.bool false)))]
 (some [0,2])) (.seq (.ops false [oi 0 7 (.mv (.t 0)),oi 1 8 (.call false 42 [(.t 7),(.c (.str [32]))]),oi 2 9 (.build [.nils,.bool false,.nils] [(0,1,(.t 8))]),oi 3 10 (.box (.t 9)),oi 4 5 (.mv (.t 10))] (some [2,5])) (.seq (.ops false [oi
 0 11 (.mv (.t 5)),oi 1 12 (.call false 43 [(.t 11)]),oi 2 13 (.build [.str [],.int .i64 0,.nils,.int .i64 0,.bool false,.int .i64 0,.int .i64 0,.int .i64 0,.int .i64 0,.int .i64 0,.nils,.nils] [(0,1,(.t 12))]),oi 3 6 (.alloc [.str [],.int
 .i64 0,.nils,.int .i64 0,.bool false,.int .i64 0,.int .i64 0,.int .i64 0,.int .i64 0,.int .i64 0,.nils,.nils]),ou 4 (.st 12 (.t 6) (.t 13))] (some [2,5,6])) (.seq (.ops false [oi 0 14 (.call false 45 [(.c (.str
 [108,105,116,101,114,97,108,32,110,117,109,98,101,114,32,100,101,99,105,109,97,108,32,98,121,116,101,115,32,117,110,116,105,108,32,99,111,117,110,116,101,100,32,115,101,113,117,101,110,99,101,32,99,104,111,105,99,101,32,114,101,112,101,97,116,32,98,108,111,98]))]),oi
 1 15 (.mv (.t 5)),oi 2 16 (.call false 43 [(.t 15)]),oi 3 17 (.call false 44 [(.t 14),(.t 16)]),oi 4 18 (.bin .add (.t 17) (.c (.int .i64 1))),oi 5 19 (.fa 1 (.t 6)),ou 6 (.st 1 (.t 19) (.t 18))] (some [2,5,6])) (.seq (.seq (.ops false [oi
 0 20 (.mv (.t 5)),oi 1 21 (.nilck (.t 20)),oi 2 22 (.fa 1 (.t 21)),oi 3 23 (.ld1 (.t 22)),oi 4 24 (.mv (.t 23)),⟨5,some 25,.fa 0 (.t 6),(some (some 24,false)),[]⟩,⟨6,some 26,.ld1 (.t 25),(some (some 24,false)),[]⟩,⟨7,some 27,.call false 34
 [(.t 26)],(some (some 24,false)),[]⟩,⟨8,some 28,.un .not (.t 27),(some (some 24,false)),[]⟩,oi 9 29 (.pick (.t 24) (.c (.bool true)) (.t 28)),oi 10 30 (.mv (.t 29)),⟨11,some 31,.fa 1 (.t 6),(some (some 30,false)),[]⟩,⟨12,some 32,.ld1 (.t
 31),(some (some 30,false)),[]⟩,⟨13,some 33,.bin .lss (.t 32) (.c (.int .i64 1)),(some (some 30,false)),[]⟩,oi 14 34 (.pick (.t 30) (.c (.bool true)) (.t 33))] (some [2,5,6,34])) (.cond (.t 34) (.seq (.ops false [oi 0 35 (.build [.str
 [],.int .i64 0,.nils,.int .i64 0,.bool false,.int .i64 0,.int .i64 0,.int .i64 0,.int .i64 0,.int .i64 0,.nils,.nils] []),ou 1 (.st 12 (.t 2) (.t 35)),oi 2 3 (.mv (.c .nils)),oi 3 4 (.mv (.c (.bool false)))] (some [2,3,4])) (.ret))
 (.skip))) (.seq (.seq (.ops false [oi 0 36 (.fa 1 (.t 6)),oi 1 37 (.ld1 (.t 36)),oi 2 38 (.bin .eql (.t 37) (.c (.int .i64 1)))] (some [2,5,6,38])) (.cond (.t 38) (.ops false [oi 0 39 (.mv (.t 5)),oi 1 40 (.call false 46 [(.t 39)]),oi 2 41
 (.fa 2 (.t 6)),ou 3 (.st 1 (.t 41) (.t 40))] (some [2,5,6])) (.skip))) (.seq (.seq (.ops false [oi 0 42 (.ldA 12 (.t 6)),oi 1 43 (.call false 47 [(.t 42)])] (some [2,5,6,43])) (.cond (.t 43) (.ops false [oi 0 44 (.mv (.t 5)),oi 1 45 (.call
 false 48 [(.t 44)]),oi 2 46 (.fa 7 (.t 6)),ou 3 (.st 1 (.t 46) (.t 45))] (some [2,5,6])) (.skip))) (.seq (.seq (.ops false [oi 0 47 (.ldA 12 (.t 6)),oi 1 48 (.call false 49 [(.t 47)])] (some [2,5,6,48])) (.cond (.t 48) (.ops false [oi 0 49
 (.mv (.t 5)),oi 1 50 (.call false 48 [(.t 49)]),oi 2 51 (.fa 3 (.t 6)),ou 3 (.st 1 (.t 51) (.t 50))] (some [2,5,6])) (.skip))) (.seq (.seq (.ops false [oi 0 52 (.fa 1 (.t 6)),oi 1 53 (.ld1 (.t 52)),oi 2 54 (.bin .eql (.t 53) (.c (.int .i64
 2)))] (some [2,5,6,54])) (.cond (.t 54) (.ops false [oi 0 55 (.mv (.t 5)),oi 1 56 (.call false 50 [(.t 55)]),oi 2 57 (.mv (.t 5)),oi 3 58 (.call false 48 [(.t 57)]),oi 4 59 (.fa 4 (.t 6)),ou 5 (.st 1 (.t 59) (.t 56)),oi 6 60 (.fa 5 (.t
 6)),ou 7 (.st 1 (.t 60) (.t 58))] (some [2,5,6])) (.skip))) (.seq (.seq (.ops false [oi 0 61 (.ldA 12 (.t 6)),oi 1 62 (.call false 51 [(.t 61)])] (some [2,5,6,62])) (.cond (.t 62) (.ops false [oi 0 63 (.mv (.t 5)),oi 1 64 (.call false 48
 [(.t 63)]),oi 2 65 (.fa 6 (.t 6)),ou 3 (.st 1 (.t 65) (.t 64))] (some [2,5,6])) (.skip))) (.seq (.seq (.ops false [oi 0 66 (.ldA 12 (.t 6)),oi 1 67 (.call false 52 [(.t 66)])] (some [2,5,6,67])) (.cond (.t 67) (.ops false [oi 0 68 (.mv (.t
 5)),oi 1 69 (.mv (.t 5)),oi 2 70 (.call false 43 [(.t 69)]),oi 3 71 (.call false 53 [(.t 68),(.t 70)])] (some [2,5,6])) (.skip))) (.seq (.seq (.ops false [oi 0 72 (.ldA 12 (.t 6)),oi 1 73 (.call false 54 [(.t 72)])] (some [2,5,6,73]))
 (.cond (.t 73) (.ops false [oi 0 74 (.mv (.t 5)),oi 1 75 (.mv (.t 5)),oi 2 76 (.call false 43 [(.t 75)]),oi 3 77 (.call false 53 [(.t 74),(.t 76)])] (some [2,5,6])) (.skip))) (.seq (.seq (.ops false [oi 0 78 (.ldA 12 (.t 6)),oi 1 79 (.call
 false 55 [(.t 78)])] (some [2,5,6,79])) (.cond (.t 79) (.ops false [oi 0 80 (.mv (.t 5)),oi 1 81 (.fa 1 (.t 6)),oi 2 82 (.ld1 (.t 81)),oi 3 83 (.bin .eql (.t 82) (.c (.int .i64 7))),oi 4 84 (.call false 56 [(.t 80),(.t 83)]),oi 5 85 (.fa 10
 (.t 6)),ou 6 (.st 1 (.t 85) (.t 84))] (some [2,5,6])) (.skip))) (.seq (.ops true [oi 0 86 (.ldA 12 (.t 6)),oi 1 87 (.mv (.t 5)),oi 2 88 (.nilck (.t 87)),oi 3 89 (.fa 2 (.t 88)),oi 4 90 (.ld1 (.t 89)),oi 5 91 (.mv (.t 5)),oi 6 92 (.nilck (.t
 91)),oi 7 93 (.fa 1 (.t 92)),oi 8 94 (.ld1 (.t 93)),oi 9 95 (.un .not (.t 94)),oi 10 96 (.mv (.t 95)),⟨11,some 97,.mv (.t 5),(some (some 96,true)),[]⟩,⟨12,some 98,.nilck (.t 97),(some (some 96,true)),[]⟩,⟨13,some 99,.fa 0 (.t 98),(some
 (some 96,true)),[]⟩,⟨14,some 100,.ld1 (.t 99),(some (some 96,true)),[]⟩,⟨15,some 101,.len false (.t 100),(some (some 96,true)),[]⟩,⟨16,some 102,.bin .eql (.t 101) (.c (.int .i64 0)),(some (some 96,true)),[]⟩,oi 17 103 (.pick (.t 96) (.t
 102) (.c (.bool false))),⟨18,none,.st 12 (.t 2) (.t 86),none,[17,16,15,14,13,12,11,4,3,2,1]⟩,oi 19 3 (.mv (.t 90)),oi 20 4 (.mv (.t 103))] (some [2,3,4])) (.ret)))))))))))))),[.cA 2 12,.t 3,.t 4]⟩
theorem k17:compF Tryz.prog Tryz.f17 c17=some c17:=by kernel_rfl
/-- scriptorium/format.resolve -/
def c18:AFun:=⟨3,.seq (.ops false [oi 0 3 (.box (.t 0)),oi 1 6 (.mv (.c (.bool false)))] (some [1,2,3])) (.seq (.ops false [oi 0 7 (.mv (.c .nils))] (some [1,2,3,7])) (.seq (.seq (.ops false [oi 0 11 (.mv (.t 2)),oi 1 12 (.len false
 (.t 11)),oi 2 13 (.mv (.c (.int .i64 0)))] (some [1,3,7,11,12,13])) (.block 0 (.loop (.seq (.ops false [oi 0 14 (.bin .lss (.t 13) (.t 12))] (some [1,3,7,11,12,13,14])) (.seq (.cond (.t 14) (.skip) (.exit 0)) (.seq (.block 1 (.seq (.ops
 false [oi 0 15 (.ia 1 (.t 11) (.t 13)),oi 1 16 (.ld1 (.t 15)),oi 2 9 (.mv (.t 16))] (some [1,3,7,9,11,12,13])) (.seq (.ops false [oi 0 17 (.fa 0 (.t 3)),oi 1 18 (.ld1 (.t 17)),oi 2 19 (.mv (.t 9)),oi 3 20 (.call false 57 [(.t 18),(.t
 19)]),oi 4 10 (.mv (.t 20))] (some [1,3,7,10,11,12,13])) (.seq (.seq (.ops false [oi 0 21 (.mv (.t 10)),oi 1 22 (.bin .lss (.t 21) (.c (.int .i64 0)))] (some [1,3,7,10,11,12,13,22])) (.cond (.t 22) (.seq (.ops false [oi 0 6 (.mv (.c (.bool
 false)))] (some [6])) (.ret)) (.skip))) (.ops false [oi 0 23 (.mv (.t 7)),oi 1 24 (.mv (.t 10)),oi 2 25 (.mkS 1 [.int .i64 0] [(0,1,(.t 24))]),oi 3 26 (.app false 1 8 (.t 23) (.t 25)),oi 4 7 (.mv (.t 26))] (some [1,3,7,11,12,13])))))) (.ops
 false [oi 0 27 (.bin .add (.t 13) (.c (.int .i64 1))),oi 1 13 (.mv (.t 27))] (some [1,3,7,11,12,13])))))))) (.seq (.seq (.ops false [oi 0 28 (.mv (.t 1)),oi 1 29 (.nilck (.t 28)),oi 2 30 (.ldA 12 (.t 29)),oi 3 31 (.call false 52 [(.t 30)])]
 (some [1,7,31])) (.cond (.t 31) (.ops true [oi 0 32 (.mv (.t 1)),oi 1 33 (.mv (.t 7)),oi 2 34 (.ia 1 (.t 33) (.c (.int .i64 0))),oi 3 35 (.ld1 (.t 34)),oi 4 36 (.mv (.t 7)),oi 5 37 (.slc 1 (.t 36) (some (.c (.int .i64 1))) none none),oi 6
 38 (.nilck (.t 32)),oi 7 39 (.fa 8 (.t 38)),⟨8,none,.st 1 (.t 39) (.t 35),none,[5,4]⟩,oi 9 7 (.mv (.t 37))] (some [1,7])) (.skip))) (.seq (.seq (.ops false [oi 0 40 (.mv (.t 1)),oi 1 41 (.nilck (.t 40)),oi 2 42 (.ldA 12 (.t 41)),oi 3 43
 (.call false 54 [(.t 42)])] (some [1,7,43])) (.cond (.t 43) (.ops true [oi 0 44 (.mv (.t 1)),oi 1 45 (.mv (.t 7)),oi 2 46 (.ia 1 (.t 45) (.c (.int .i64 0))),oi 3 47 (.ld1 (.t 46)),oi 4 48 (.mv (.t 7)),oi 5 49 (.slc 1 (.t 48) (some (.c (.int
 .i64 1))) none none),oi 6 50 (.nilck (.t 44)),oi 7 51 (.fa 9 (.t 50)),⟨8,none,.st 1 (.t 51) (.t 47),none,[5,4]⟩,oi 9 7 (.mv (.t 49))] (some [1,7])) (.skip))) (.seq (.ops false [oi 0 52 (.mv (.t 1)),oi 1 53 (.mv (.t 7)),oi 2 54 (.nilck (.t
 52)),oi 3 55 (.fa 11 (.t 54)),ou 4 (.st 1 (.t 55) (.t 53))] (some [])) (.seq (.ops false [oi 0 6 (.mv (.c (.bool true)))] (some [6])) (.ret))))))),[.t 6]⟩
theorem k18:compF Tryz.prog Tryz.f18 c18=some c18:=by kernel_rfl
/-- scriptorium/format.Validate -/
def c19:AFun:=⟨1,.seq (.ops false [oi 0 1 (.box (.t 0)),oi 1 2 (.alloc [.int .i64 0,.int .i64 0])] (some [1,2])) (.seq (.ops false [oi 0 6 (.ldA 1 (.t 1)),oi 1 7 (.call false 58 [(.t 6)]),oi 2 5 (.mv (.t 7)),oi 3 8 (.ext 0 (.t 5)),oi 4
 9 (.ext 1 (.t 5)),oi 5 4 (.alloc [.int .i64 0,.int .i64 0]),oi 6 3 (.mv (.t 8)),ou 7 (.st 2 (.t 4) (.t 9))] (some [2,4])) (.seq (.ops false [oi 0 10 (.ldA 2 (.t 4)),ou 1 (.st 2 (.t 2) (.t 10))] (some [2])) (.ret))),[.cA 2 2]⟩
theorem k19:compF Tryz.prog Tryz.f19 c19=some c19:=by kernel_rfl
/-- scriptorium/formatio.fault -/
def c20:AFun:=⟨2,.seq (.ops false [oi 0 4 (.alloc [.int .i64 0,.int .i64 0])] (some [0,1,4])) (.seq (.ops false [oi 0 5 (.mv (.t 0)),oi 1 6 (.mv (.t 1)),oi 2 7 (.build [.int .i64 0,.int .i64 0] [(0,1,(.t 5)),(1,1,(.t 6))]),ou 3 (.st 2
 (.t 4) (.t 7))] (some [4])) (.ret)),[.cA 4 2]⟩
theorem k20:compF Tryz.prog Tryz.f20 c20=some c20:=by kernel_rfl
/-- scriptorium/formatio.Parse$1 -/
def c21:AFun:=⟨2,code21,[]⟩
theorem k21:compF Tryz.prog Tryz.f21 c21=some c21:=by kernel_rfl
/-- scriptorium/formatio.firsts -/
def c22:AFun:=⟨1,.seq (.ops false [oi 0 1 (.box (.t 0)),oi 1 2 (.mv (.c .nils))] (some [1])) (.seq (.ops false [oi 0 3 (.mv (.c .nils))] (some [1,3])) (.seq (.seq (.ops false [oi 0 7 (.fa 0 (.t 1)),oi 1 8 (.ld1 (.t 7)),oi 2 9 (.len
 false (.t 8)),oi 3 10 (.mv (.c (.int .i64 0)))] (some [1,3,9,10])) (.block 0 (.loop (.seq (.ops false [oi 0 11 (.bin .lss (.t 10) (.t 9))] (some [1,3,9,10,11])) (.seq (.cond (.t 11) (.skip) (.exit 0)) (.seq (.block 1 (.seq (.ops false [oi 0
 12 (.mv (.t 10)),oi 1 4 (.mv (.t 12))] (some [1,3,4,9,10])) (.seq (.ops false [oi 0 14 (.ldA 1 (.t 1)),oi 1 15 (.mv (.t 4)),oi 2 16 (.call false 59 [(.t 14),(.t 15)]),oi 3 13 (.mv (.t 16)),oi 4 17 (.ext 0 (.t 13)),oi 5 18 (.ext 1 (.t
 13)),oi 6 6 (.alloc [.int .i64 0,.int .i64 0]),oi 7 5 (.mv (.t 17)),ou 8 (.st 2 (.t 6) (.t 18))] (some [1,3,5,9,10])) (.ops false [oi 0 19 (.mv (.t 3)),oi 1 20 (.mv (.t 5)),oi 2 21 (.mkS 1 [.nils] [(0,1,(.t 20))]),oi 3 22 (.app false 1 24
 (.t 19) (.t 21)),oi 4 3 (.mv (.t 22))] (some [1,3,9,10]))))) (.ops false [oi 0 23 (.bin .add (.t 10) (.c (.int .i64 1))),oi 1 10 (.mv (.t 23))] (some [1,3,9,10])))))))) (.seq (.ops false [oi 0 24 (.mv (.t 3)),oi 1 2 (.mv (.t 24))] (some
 [2])) (.ret)))),[.t 2]⟩
theorem k22:compF Tryz.prog Tryz.f22 c22=some c22:=by kernel_rfl
/-- (*scriptorium/formatio.reader).value -/
def c23:AFun:=⟨2,code23,[.cA 4 5]⟩
theorem k23:compF Tryz.prog Tryz.f23 c23=some c23:=by kernel_rfl
/-- scriptorium/formatio.wrong -/
def c24:AFun:=⟨1,.ops false [oi 0 2 (.mv (.t 0)),oi 1 3 (.call false 20 [(.c (.int .i64 1)),(.t 2)]),oi 2 4 (.mkI 27 (.t 3)),ou 3 .stop] (some []),[]⟩
theorem k24:compF Tryz.prog Tryz.f24 c24=some c24:=by kernel_rfl
/-- scriptorium/value.Validate -/
def c25:AFun:=⟨1,code25,[.cA 2 2]⟩
theorem k25:compF Tryz.prog Tryz.f25 c25=some c25:=by kernel_rfl
/-- scriptorium/value.find -/
def c26:AFun:=⟨2,code26,[.t 4,.cA 5 2]⟩
theorem k26:compF Tryz.prog Tryz.f26 c26=some c26:=by kernel_rfl
/-- scriptorium/value.clone -/
def c27:AFun:=⟨1,code27,[.cA 2 5]⟩
theorem k27:compF Tryz.prog Tryz.f27 c27=some c27:=by kernel_rfl
/-- scriptorium/sound.fault -/
def c28:AFun:=⟨2,code28,[.cA 4 2]⟩
theorem k28:compF Tryz.prog Tryz.f28 c28=some c28:=by kernel_rfl
/-- scriptorium/sound.read -/
def c29:AFun:=⟨1,code29,[.cA 2 5,.t 3]⟩
theorem k29:compF Tryz.prog Tryz.f29 c29=some c29:=by kernel_rfl
/-- scriptorium/sound.To$1 -/
def c30:AFun:=⟨1,code30,[.cA 2 5]⟩
theorem k30:compF Tryz.prog Tryz.f30 c30=some c30:=by kernel_rfl
/-- scriptorium/sound.residue -/
def c31:AFun:=⟨2,code31,[.t 4]⟩
theorem k31:compF Tryz.prog Tryz.f31 c31=some c31:=by kernel_rfl
/-- scriptorium/formatio.Print$1 -/
def c32:AFun:=⟨2,code32,[]⟩
theorem k32:compF Tryz.prog Tryz.f32 c32=some c32:=by kernel_rfl
/-- (*scriptorium/formatio.writer).value -/
def c33:AFun:=⟨3,code33,[]⟩
theorem k33:compF Tryz.prog Tryz.f33 c33=some c33:=by kernel_rfl
/-- scriptorium/value.Name -/
def c34:AFun:=⟨1,code34,[.t 2]⟩
theorem k34:compF Tryz.prog Tryz.f34 c34=some c34:=by kernel_rfl
/-- scriptorium/value.fault -/
def c35:AFun:=⟨2,code35,[.cA 4 2]⟩
theorem k35:compF Tryz.prog Tryz.f35 c35=some c35:=by kernel_rfl
/-- scriptorium/value.Walk -/
def c36:AFun:=⟨1,code36,[.t 2]⟩
theorem k36:compF Tryz.prog Tryz.f36 c36=some c36:=by kernel_rfl
/-- internal/stringslite.Cut -/
def c41:AFun:=⟨2,.seq (.ops false [oi 0 4 (.mv (.c (.str []))),oi 1 5 (.mv (.c (.str []))),oi 2 6 (.mv (.c (.bool false)))] (some [0,1])) (.seq (.seq (.ops false [oi 0 8 (.mv (.t 0)),oi 1 9 (.mv (.t 1)),oi 2 10 (.call false 100 [(.t
 8),(.t 9)]),oi 3 7 (.mv (.t 10))] (some [0,1,7])) (.seq (.ops false [oi 0 11 (.mv (.t 7)),oi 1 12 (.bin .geq (.t 11) (.c (.int .i64 0)))] (some [0,1,7,12])) (.cond (.t 12) (.seq (.ops true [oi 0 13 (.mv (.t 0)),oi 1 14 (.mv (.t 7)),oi 2 15
 (.slcS (.t 13) none (some (.t 14))),oi 3 16 (.mv (.t 0)),oi 4 17 (.mv (.t 7)),oi 5 18 (.mv (.t 1)),oi 6 19 (.len true (.t 18)),oi 7 20 (.bin .add (.t 17) (.t 19)),oi 8 21 (.slcS (.t 16) (some (.t 20)) none),oi 9 4 (.mv (.t 15)),oi 10 5 (.mv
 (.t 21)),oi 11 6 (.mv (.c (.bool true)))] (some [4,5,6])) (.ret)) (.skip)))) (.seq (.ops false [oi 0 22 (.mv (.t 0)),oi 1 4 (.mv (.t 22)),oi 2 5 (.mv (.c (.str []))),oi 3 6 (.mv (.c (.bool false)))] (some [4,5,6])) (.ret))),[.t 4,.t 5,.t
 6]⟩
theorem k41:compF Tryz.prog Tryz.f41 c41=some c41:=by kernel_rfl
/-- strings.Split -/
def c42:AFun:=⟨2,.seq (.ops false [oi 0 4 (.mv (.c .nils))] (some [0,1])) (.seq (.ops false [oi 0 5 (.mv (.t 0)),oi 1 6 (.mv (.t 1)),oi 2 7 (.call false 101 [(.t 5),(.t 6),(.c (.int .i64 0)),(.c (.int .i64 (-1)))]),oi 3 4 (.mv (.t 7))]
 (some [4])) (.ret)),[.t 4]⟩
theorem k42:compF Tryz.prog Tryz.f42 c42=some c42:=by kernel_rfl
/-- (*scriptorium/format.reader).next -/
def c43:AFun:=⟨1,.seq (.ops false [oi 0 2 (.mv (.c (.str [])))] (some [0])) (.seq (.seq (.ops false [oi 0 4 (.mv (.t 0)),oi 1 5 (.nilck (.t 4)),oi 2 6 (.fa 0 (.t 5)),oi 3 7 (.ld1 (.t 6)),oi 4 8 (.len false (.t 7)),oi 5 9 (.bin .eql (.t
 8) (.c (.int .i64 0)))] (some [0,9])) (.cond (.t 9) (.seq (.ops false [oi 0 10 (.mv (.t 0)),oi 1 11 (.nilck (.t 10)),oi 2 12 (.fa 1 (.t 11)),ou 3 (.st 1 (.t 12) (.c (.bool true)))] (some [])) (.seq (.ops false [oi 0 2 (.mv (.c (.str [])))]
 (some [2])) (.ret))) (.skip))) (.seq (.ops false [oi 0 13 (.mv (.t 0)),oi 1 14 (.nilck (.t 13)),oi 2 15 (.fa 0 (.t 14)),oi 3 16 (.ld1 (.t 15)),oi 4 17 (.ia 1 (.t 16) (.c (.int .i64 0))),oi 5 18 (.ld1 (.t 17)),oi 6 3 (.mv (.t 18))] (some
 [0,3])) (.seq (.ops false [oi 0 19 (.mv (.t 0)),oi 1 20 (.mv (.t 0)),oi 2 21 (.nilck (.t 20)),oi 3 22 (.fa 0 (.t 21)),oi 4 23 (.ld1 (.t 22)),oi 5 24 (.slc 1 (.t 23) (some (.c (.int .i64 1))) none none),oi 6 25 (.nilck (.t 19)),oi 7 26 (.fa
 0 (.t 25)),ou 8 (.st 1 (.t 26) (.t 24))] (some [3])) (.seq (.ops false [oi 0 27 (.mv (.t 3)),oi 1 2 (.mv (.t 27))] (some [2])) (.ret))))),[.t 2]⟩
theorem k43:compF Tryz.prog Tryz.f43 c43=some c43:=by kernel_rfl
/-- slices.Index[[]string,string] -/
def c44:AFun:=⟨2,code44,[.t 4]⟩
theorem k44:compF Tryz.prog Tryz.f44 c44=some c44:=by kernel_rfl
/-- strings.Fields -/
def c45:AFun:=⟨1,.seq (.ops false [oi 0 2 (.mv (.c .nils))] (some [0])) (.seq (.ops false [oi 0 3 (.mv (.c (.int .i64 0)))] (some [0,3])) (.seq (.ops false [oi 0 4 (.mv (.c (.int .i64 1)))] (some [0,3,4])) (.seq (.ops false [oi 0 5
 (.mv (.c (.int .u8 0)))] (some [0,3,4,5])) (.seq (.seq (.ops false [oi 0 6 (.mv (.c (.int .i64 0)))] (some [0,3,4,5,6])) (.block 0 (.loop (.seq (.seq (.ops false [oi 0 13 (.mv (.t 6)),oi 1 14 (.mv (.t 0)),oi 2 15 (.len true (.t 14)),oi 3 16
 (.bin .lss (.t 13) (.t 15))] (some [0,3,4,5,6,16])) (.cond (.t 16) (.skip) (.exit 0))) (.seq (.block 1 (.seq (.ops false [oi 0 19 (.mv (.t 0)),oi 1 20 (.mv (.t 6)),oi 2 21 (.ixS (.t 19) (.t 20)),oi 3 7 (.mv (.t 21))] (some [0,3,4,5,6,7]))
 (.seq (.ops false [oi 0 22 (.mv (.t 5)),oi 1 23 (.mv (.t 7)),oi 2 24 (.bin .or (.t 22) (.t 23)),oi 3 5 (.mv (.t 24))] (some [0,3,4,5,6,7])) (.seq (.ops false [oi 0 25 (.mv (.t 7)),oi 1 26 (.iaA 256 1 (.g 0) (.t 25)),oi 2 27 (.ld1 (.t
 26)),oi 3 28 (.cvi .i64 (.t 27)),oi 4 8 (.mv (.t 28))] (some [0,3,4,5,6,8])) (.seq (.ops false [oi 0 29 (.mv (.t 3)),oi 1 30 (.mv (.t 4)),oi 2 31 (.mv (.t 8)),oi 3 32 (.un .xor (.t 31)),oi 4 33 (.bin .and (.t 30) (.t 32)),oi 5 34 (.bin .add
 (.t 29) (.t 33)),oi 6 3 (.mv (.t 34))] (some [0,3,5,6,8])) (.ops false [oi 0 35 (.mv (.t 8)),oi 1 4 (.mv (.t 35))] (some [0,3,4,5,6]))))))) (.ops false [oi 0 17 (.mv (.t 6)),oi 1 18 (.bin .add (.t 17) (.c (.int .i64 1))),oi 2 6 (.mv (.t
 18))] (some [0,3,4,5,6]))))))) (.seq (.seq (.ops false [oi 0 36 (.mv (.t 5)),oi 1 37 (.bin .geq (.t 36) (.c (.int .u8 128)))] (some [0,3,37])) (.cond (.t 37) (.seq (.ops false [oi 0 38 (.mv (.t 0)),oi 1 39 (.call false 102 [(.t 38),(.c (.fn
 103 [] []))]),oi 2 2 (.mv (.t 39))] (some [2])) (.ret)) (.skip))) (.seq (.ops false [oi 0 40 (.mv (.t 3)),oi 1 41 (.mkM 1 16 [.str []] (.t 40) (.t 40)),oi 2 9 (.mv (.t 41))] (some [0,9])) (.seq (.ops false [oi 0 10 (.mv (.c (.int .i64 0)))]
 (some [0,9,10])) (.seq (.ops false [oi 0 11 (.mv (.c (.int .i64 0)))] (some [0,9,10])) (.seq (.ops false [oi 0 12 (.mv (.c (.int .i64 0)))] (some [0,9,10,12])) (.seq (.block 2 (.loop (.seq (.seq (.ops false [oi 0 42 (.mv (.t 12)),oi 1 43
 (.mv (.t 0)),oi 2 44 (.len true (.t 43)),oi 3 45 (.bin .lss (.t 42) (.t 44)),oi 4 46 (.mv (.t 45)),⟨5,some 47,.mv (.t 0),(some (some 46,true)),[]⟩,⟨6,some 48,.mv (.t 12),(some (some 46,true)),[]⟩,⟨7,some 49,.ixS (.t 47) (.t 48),(some (some
 46,true)),[]⟩,⟨8,some 50,.iaA 256 1 (.g 0) (.t 49),(some (some 46,true)),[]⟩,⟨9,some 51,.ld1 (.t 50),(some (some 46,true)),[]⟩,⟨10,some 52,.bin .neq (.t 51) (.c (.int .u8 0)),(some (some 46,true)),[]⟩,oi 11 53 (.pick (.t 46) (.t 52) (.c
 (.bool false)))] (some [0,9,10,12,53])) (.cond (.t 53) (.skip) (.exit 2))) (.block 3 (.ops false [oi 0 54 (.mv (.t 12)),oi 1 55 (.bin .add (.t 54) (.c (.int .i64 1))),oi 2 12 (.mv (.t 55))] (some [0,9,10,12])))))) (.seq (.ops false [oi 0 56
 (.mv (.t 12)),oi 1 11 (.mv (.t 56))] (some [0,9,10,11,12])) (.seq (.block 4 (.loop (.seq (.seq (.ops false [oi 0 57 (.mv (.t 12)),oi 1 58 (.mv (.t 0)),oi 2 59 (.len true (.t 58)),oi 3 60 (.bin .lss (.t 57) (.t 59))] (some
 [0,9,10,11,12,60])) (.cond (.t 60) (.skip) (.exit 4))) (.block 5 (.seq (.seq (.ops false [oi 0 61 (.mv (.t 0)),oi 1 62 (.mv (.t 12)),oi 2 63 (.ixS (.t 61) (.t 62)),oi 3 64 (.iaA 256 1 (.g 0) (.t 63)),oi 4 65 (.ld1 (.t 64)),oi 5 66 (.bin
 .eql (.t 65) (.c (.int .u8 0)))] (some [0,9,10,11,12,66])) (.cond (.t 66) (.seq (.ops false [oi 0 67 (.mv (.t 12)),oi 1 68 (.bin .add (.t 67) (.c (.int .i64 1))),oi 2 12 (.mv (.t 68))] (some [0,9,10,11,12])) (.exit 5)) (.skip))) (.seq (.ops
 false [oi 0 69 (.mv (.t 9)),oi 1 70 (.mv (.t 10)),oi 2 71 (.mv (.t 0)),oi 3 72 (.mv (.t 11)),oi 4 73 (.mv (.t 12)),oi 5 74 (.slcS (.t 71) (some (.t 72)) (some (.t 73))),oi 6 75 (.ia 1 (.t 69) (.t 70)),ou 7 (.st 1 (.t 75) (.t 74))] (some
 [0,9,10,12])) (.seq (.ops false [oi 0 76 (.mv (.t 10)),oi 1 77 (.bin .add (.t 76) (.c (.int .i64 1))),oi 2 10 (.mv (.t 77))] (some [0,9,10,12])) (.seq (.ops false [oi 0 78 (.mv (.t 12)),oi 1 79 (.bin .add (.t 78) (.c (.int .i64 1))),oi 2 12
 (.mv (.t 79))] (some [0,9,10,12])) (.seq (.block 6 (.loop (.seq (.seq (.ops false [oi 0 80 (.mv (.t 12)),oi 1 81 (.mv (.t 0)),oi 2 82 (.len true (.t 81)),oi 3 83 (.bin .lss (.t 80) (.t 82)),oi 4 84 (.mv (.t 83)),⟨5,some 85,.mv (.t 0),(some
 (some 84,true)),[]⟩,⟨6,some 86,.mv (.t 12),(some (some 84,true)),[]⟩,⟨7,some 87,.ixS (.t 85) (.t 86),(some (some 84,true)),[]⟩,⟨8,some 88,.iaA 256 1 (.g 0) (.t 87),(some (some 84,true)),[]⟩,⟨9,some 89,.ld1 (.t 88),(some (some
 84,true)),[]⟩,⟨10,some 90,.bin .neq (.t 89) (.c (.int .u8 0)),(some (some 84,true)),[]⟩,oi 11 91 (.pick (.t 84) (.t 90) (.c (.bool false)))] (some [0,9,10,12,91])) (.cond (.t 91) (.skip) (.exit 6))) (.block 7 (.ops false [oi 0 92 (.mv (.t
 12)),oi 1 93 (.bin .add (.t 92) (.c (.int .i64 1))),oi 2 12 (.mv (.t 93))] (some [0,9,10,12])))))) (.ops false [oi 0 94 (.mv (.t 12)),oi 1 11 (.mv (.t 94))] (some [0,9,10,11,12]))))))))))) (.seq (.seq (.ops false [oi 0 95 (.mv (.t 11)),oi 1
 96 (.mv (.t 0)),oi 2 97 (.len true (.t 96)),oi 3 98 (.bin .lss (.t 95) (.t 97))] (some [0,9,10,11,98])) (.cond (.t 98) (.ops false [oi 0 99 (.mv (.t 9)),oi 1 100 (.mv (.t 10)),oi 2 101 (.mv (.t 0)),oi 3 102 (.mv (.t 11)),oi 4 103 (.slcS (.t
 101) (some (.t 102)) none),oi 5 104 (.ia 1 (.t 99) (.t 100)),ou 6 (.st 1 (.t 104) (.t 103))] (some [9])) (.skip))) (.seq (.ops false [oi 0 105 (.mv (.t 9)),oi 1 2 (.mv (.t 105))] (some [2])) (.ret))))))))))))))),[.t 2]⟩
theorem k45:compF Tryz.prog Tryz.f45 c45=some c45:=by kernel_rfl
/-- (*scriptorium/format.reader).hex -/
def c46:AFun:=⟨1,.seq (.ops false [oi 0 2 (.mv (.c .nils))] (some [0])) (.seq (.ops false [oi 0 8 (.mv (.t 0)),oi 1 9 (.call false 43 [(.t 8)]),oi 2 3 (.mv (.t 9))] (some [0,3])) (.seq (.seq (.ops false [oi 0 10 (.mv (.t 3)),oi 1 11
 (.bin .eql (.t 10) (.c (.str []))),oi 2 12 (.mv (.t 11)),⟨3,some 13,.mv (.t 3),(some (some 12,false)),[]⟩,⟨4,some 14,.len true (.t 13),(some (some 12,false)),[]⟩,⟨5,some 15,.bin .rem (.t 14) (.c (.int .i64 2)),(some (some
 12,false)),[]⟩,⟨6,some 16,.bin .neq (.t 15) (.c (.int .i64 0)),(some (some 12,false)),[]⟩,oi 7 17 (.pick (.t 12) (.c (.bool true)) (.t 16))] (some [0,3,17])) (.cond (.t 17) (.seq (.ops false [oi 0 18 (.mv (.t 0)),oi 1 19 (.nilck (.t 18)),oi
 2 20 (.fa 1 (.t 19)),ou 3 (.st 1 (.t 20) (.c (.bool true)))] (some [])) (.seq (.ops false [oi 0 2 (.mv (.c .nils))] (some [2])) (.ret))) (.skip))) (.seq (.ops false [oi 0 4 (.mv (.c .nils))] (some [0,3,4])) (.seq (.seq (.ops false [oi 0 5
 (.mv (.c (.int .i64 0)))] (some [0,3,4,5])) (.block 0 (.loop (.seq (.seq (.ops false [oi 0 21 (.mv (.t 5)),oi 1 22 (.mv (.t 3)),oi 2 23 (.len true (.t 22)),oi 3 24 (.bin .lss (.t 21) (.t 23))] (some [0,3,4,5,24])) (.cond (.t 24) (.skip)
 (.exit 0))) (.seq (.block 1 (.seq (.ops true [oi 0 27 (.mv (.t 3)),oi 1 28 (.mv (.t 5)),oi 2 29 (.ixS (.t 27) (.t 28)),oi 3 30 (.call false 104 [(.c (.str [48,49,50,51,52,53,54,55,56,57,97,98,99,100,101,102])),(.t 29)]),⟨4,some 31,.mv (.t
 3),none,[3]⟩,⟨5,some 32,.mv (.t 5),none,[3]⟩,⟨6,some 33,.bin .add (.t 32) (.c (.int .i64 1)),none,[3]⟩,⟨7,some 34,.ixS (.t 31) (.t 33),none,[3]⟩,oi 8 35 (.call false 104 [(.c (.str [48,49,50,51,52,53,54,55,56,57,97,98,99,100,101,102])),(.t
 34)]),oi 9 6 (.mv (.t 30)),oi 10 7 (.mv (.t 35))] (some [0,3,4,5,6,7])) (.seq (.ops false [oi 0 36 (.mv (.t 0)),oi 1 37 (.mv (.t 0)),oi 2 38 (.nilck (.t 37)),oi 3 39 (.fa 1 (.t 38)),oi 4 40 (.ld1 (.t 39)),oi 5 41 (.mv (.t 40)),⟨6,some
 42,.mv (.t 6),(some (some 41,false)),[]⟩,⟨7,some 43,.bin .lss (.t 42) (.c (.int .i64 0)),(some (some 41,false)),[]⟩,oi 8 44 (.pick (.t 41) (.c (.bool true)) (.t 43)),oi 9 45 (.mv (.t 44)),⟨10,some 46,.mv (.t 7),(some (some
 45,false)),[]⟩,⟨11,some 47,.bin .lss (.t 46) (.c (.int .i64 0)),(some (some 45,false)),[]⟩,oi 12 48 (.pick (.t 45) (.c (.bool true)) (.t 47)),oi 13 49 (.nilck (.t 36)),oi 14 50 (.fa 1 (.t 49)),ou 15 (.st 1 (.t 50) (.t 48))] (some
 [0,3,4,5,6,7])) (.ops false [oi 0 51 (.mv (.t 4)),oi 1 52 (.mv (.t 6)),oi 2 53 (.bin .shl (.t 52) (.c (.int .u64 4))),oi 3 54 (.mv (.t 7)),oi 4 55 (.bin .and (.t 54) (.c (.int .i64 15))),oi 5 56 (.bin .or (.t 53) (.t 55)),oi 6 57 (.cvi .u8
 (.t 56)),oi 7 58 (.mkS 1 [.int .u8 0] [(0,1,(.t 57))]),oi 8 59 (.app false 1 1 (.t 51) (.t 58)),oi 9 4 (.mv (.t 59))] (some [0,3,4,5]))))) (.ops false [oi 0 25 (.mv (.t 5)),oi 1 26 (.bin .add (.t 25) (.c (.int .i64 2))),oi 2 5 (.mv (.t
 26))] (some [0,3,4,5]))))))) (.seq (.ops false [oi 0 60 (.mv (.t 4)),oi 1 2 (.mv (.t 60))] (some [2])) (.ret)))))),[.t 2]⟩
theorem k46:compF Tryz.prog Tryz.f46 c46=some c46:=by kernel_rfl
/-- scriptorium/format.usesStop -/
def c47:AFun:=⟨1,.seq (.ops false [oi 0 1 (.box (.t 0)),oi 1 2 (.mv (.c (.bool false)))] (some [1])) (.seq (.ops false [oi 0 3 (.ldA 12 (.t 1)),oi 1 4 (.mkS 3 [.int .i64 0,.int .i64 0,.int .i64 0] [(0,1,(.c (.int .i64 3))),(1,1,(.c
 (.int .i64 5))),(2,1,(.c (.int .i64 9)))]),oi 2 5 (.call false 105 [(.t 3),(.t 4)]),oi 3 2 (.mv (.t 5))] (some [2])) (.ret)),[.t 2]⟩
theorem k47:compF Tryz.prog Tryz.f47 c47=some c47:=by kernel_rfl
/-- (*scriptorium/format.reader).number -/
def c48:AFun:=⟨1,.seq (.ops false [oi 0 2 (.mv (.c (.int .i64 0)))] (some [0])) (.seq (.ops false [oi 0 6 (.mv (.t 0)),oi 1 7 (.call false 43 [(.t 6)]),oi 2 3 (.mv (.t 7))] (some [0,3])) (.seq (.ops false [oi 0 9 (.mv (.t 3)),oi 1 10
 (.call false 106 [(.t 9)]),oi 2 8 (.mv (.t 10)),oi 3 11 (.ext 0 (.t 8)),oi 4 12 (.ext 1 (.t 8)),oi 5 4 (.mv (.t 11)),oi 6 5 (.mv (.t 12))] (some [0,3,4,5])) (.seq (.ops false [oi 0 13 (.mv (.t 0)),oi 1 14 (.mv (.t 0)),oi 2 15 (.nilck (.t
 14)),oi 3 16 (.fa 1 (.t 15)),oi 4 17 (.ld1 (.t 16)),oi 5 18 (.mv (.t 17)),⟨6,some 19,.mv (.t 5),(some (some 18,false)),[]⟩,⟨7,some 20,.isnil true 2 (.t 19),(some (some 18,false)),[]⟩,oi 8 21 (.pick (.t 18) (.c (.bool true)) (.t 20)),oi 9 22
 (.mv (.t 21)),⟨10,some 23,.mv (.t 3),(some (some 22,false)),[]⟩,⟨11,some 24,.len true (.t 23),(some (some 22,false)),[]⟩,⟨12,some 25,.bin .gtr (.t 24) (.c (.int .i64 10)),(some (some 22,false)),[]⟩,oi 13 26 (.pick (.t 22) (.c (.bool true))
 (.t 25)),oi 14 27 (.mv (.t 26)),⟨15,some 28,.mv (.t 4),(some (some 27,false)),[]⟩,⟨16,some 29,.bin .lss (.t 28) (.c (.int .i64 0)),(some (some 27,false)),[]⟩,oi 17 30 (.pick (.t 27) (.c (.bool true)) (.t 29)),oi 18 31 (.mv (.t 30)),⟨19,some
 32,.mv (.t 4),(some (some 31,false)),[]⟩,⟨20,some 33,.call false 107 [(.t 32)],(some (some 31,false)),[]⟩,⟨21,some 34,.mv (.t 3),(some (some 31,false)),[]⟩,⟨22,some 35,.bin .neq (.t 33) (.t 34),(some (some 31,false)),[]⟩,oi 23 36 (.pick (.t
 31) (.c (.bool true)) (.t 35)),oi 24 37 (.nilck (.t 13)),oi 25 38 (.fa 1 (.t 37)),ou 26 (.st 1 (.t 38) (.t 36))] (some [4])) (.seq (.ops false [oi 0 39 (.mv (.t 4)),oi 1 2 (.mv (.t 39))] (some [2])) (.ret))))),[.t 2]⟩
theorem k48:compF Tryz.prog Tryz.f48 c48=some c48:=by kernel_rfl
/-- scriptorium/format.usesSize -/
def c49:AFun:=⟨1,.seq (.ops false [oi 0 1 (.box (.t 0)),oi 1 2 (.mv (.c (.bool false)))] (some [1])) (.seq (.ops false [oi 0 3 (.ldA 12 (.t 1)),oi 1 4 (.mkS 3 [.int .i64 0,.int .i64 0,.int .i64 0] [(0,1,(.c (.int .i64 2))),(1,1,(.c
 (.int .i64 4))),(2,1,(.c (.int .i64 5)))]),oi 2 5 (.call false 105 [(.t 3),(.t 4)]),oi 3 2 (.mv (.t 5))] (some [2])) (.ret)),[.t 2]⟩
theorem k49:compF Tryz.prog Tryz.f49 c49=some c49:=by kernel_rfl
/-- (*scriptorium/format.reader).order -/
def c50:AFun:=⟨1,.seq (.ops false [oi 0 2 (.mv (.c (.bool false)))] (some [0])) (.seq (.ops false [oi 0 4 (.mv (.t 0)),oi 1 5 (.call false 43 [(.t 4)]),oi 2 3 (.mv (.t 5))] (some [0,3])) (.seq (.ops false [oi 0 6 (.mv (.t 0)),oi 1 7
 (.mv (.t 0)),oi 2 8 (.nilck (.t 7)),oi 3 9 (.fa 1 (.t 8)),oi 4 10 (.ld1 (.t 9)),oi 5 11 (.mv (.t 10)),⟨6,some 12,.mv (.t 3),(some (some 11,false)),[]⟩,⟨7,some 13,.bin .neq (.t 12) (.c (.str [98,105,103])),(some (some 11,false)),[]⟩,⟨8,some
 14,.mv (.t 13),(some (some 11,false)),[]⟩,⟨9,some 15,.mv (.t 3),(some (some 14,true)),[]⟩,⟨10,some 16,.bin .neq (.t 15) (.c (.str [108,105,116,116,108,101])),(some (some 14,true)),[]⟩,⟨11,some 17,.pick (.t 14) (.t 16) (.c (.bool
 false)),(some (some 11,false)),[]⟩,oi 12 18 (.pick (.t 11) (.c (.bool true)) (.t 17)),oi 13 19 (.nilck (.t 6)),oi 14 20 (.fa 1 (.t 19)),ou 15 (.st 1 (.t 20) (.t 18))] (some [3])) (.seq (.ops false [oi 0 21 (.mv (.t 3)),oi 1 22 (.bin .eql
 (.t 21) (.c (.str [98,105,103]))),oi 2 2 (.mv (.t 22))] (some [2])) (.ret)))),[.t 2]⟩
theorem k50:compF Tryz.prog Tryz.f50 c50=some c50:=by kernel_rfl
/-- scriptorium/format.usesMax -/
def c51:AFun:=⟨1,.seq (.ops false [oi 0 1 (.box (.t 0)),oi 1 2 (.mv (.c (.bool false)))] (some [1])) (.seq (.ops false [oi 0 3 (.ldA 12 (.t 1)),oi 1 4 (.mkS 2 [.int .i64 0,.int .i64 0] [(0,1,(.c (.int .i64 2))),(1,1,(.c (.int .i64
 3)))]),oi 2 5 (.call false 105 [(.t 3),(.t 4)]),oi 3 2 (.mv (.t 5))] (some [2])) (.ret)),[.t 2]⟩
theorem k51:compF Tryz.prog Tryz.f51 c51=some c51:=by kernel_rfl
/-- scriptorium/format.usesCount -/
def c52:AFun:=⟨1,.seq (.ops false [oi 0 1 (.box (.t 0)),oi 1 2 (.mv (.c (.bool false)))] (some [1])) (.seq (.ops false [oi 0 3 (.ldA 12 (.t 1)),oi 1 4 (.mkS 2 [.int .i64 0,.int .i64 0] [(0,1,(.c (.int .i64 6))),(1,1,(.c (.int .i64
 10)))]),oi 2 5 (.call false 105 [(.t 3),(.t 4)]),oi 3 2 (.mv (.t 5))] (some [2])) (.ret)),[.t 2]⟩
theorem k52:compF Tryz.prog Tryz.f52 c52=some c52:=by kernel_rfl
/-- (*scriptorium/format.reader).rule -/
def c53:AFun:=⟨2,.seq (.ops false [oi 0 4 (.mv (.t 0)),oi 1 5 (.mv (.t 0)),oi 2 6 (.nilck (.t 5)),oi 3 7 (.fa 1 (.t 6)),oi 4 8 (.ld1 (.t 7)),oi 5 9 (.mv (.t 8)),⟨6,some 10,.mv (.t 1),(some (some 9,false)),[]⟩,⟨7,some 11,.call false 34
 [(.t 10)],(some (some 9,false)),[]⟩,⟨8,some 12,.un .not (.t 11),(some (some 9,false)),[]⟩,oi 9 13 (.pick (.t 9) (.c (.bool true)) (.t 12)),oi 10 14 (.nilck (.t 4)),oi 11 15 (.fa 1 (.t 14)),ou 12 (.st 1 (.t 15) (.t 13))] (some [0,1])) (.ops
 false [oi 0 16 (.mv (.t 0)),oi 1 17 (.mv (.t 0)),oi 2 18 (.nilck (.t 17)),oi 3 19 (.fa 2 (.t 18)),oi 4 20 (.ld1 (.t 19)),oi 5 21 (.mv (.t 1)),oi 6 22 (.mkS 1 [.str []] [(0,1,(.t 21))]),oi 7 23 (.app false 1 16 (.t 20) (.t 22)),oi 8 24
 (.nilck (.t 16)),oi 9 25 (.fa 2 (.t 24)),ou 10 (.st 1 (.t 25) (.t 23))] (some [])),[]⟩
theorem k53:compF Tryz.prog Tryz.f53 c53=some c53:=by kernel_rfl
/-- scriptorium/format.usesOf -/
def c54:AFun:=⟨1,.seq (.ops false [oi 0 1 (.box (.t 0)),oi 1 2 (.mv (.c (.bool false)))] (some [1])) (.seq (.ops false [oi 0 3 (.ldA 12 (.t 1)),oi 1 4 (.mkS 2 [.int .i64 0,.int .i64 0] [(0,1,(.c (.int .i64 6))),(1,1,(.c (.int .i64
 9)))]),oi 2 5 (.call false 105 [(.t 3),(.t 4)]),oi 3 2 (.mv (.t 5))] (some [2])) (.ret)),[.t 2]⟩
theorem k54:compF Tryz.prog Tryz.f54 c54=some c54:=by kernel_rfl
/-- scriptorium/format.usesParts -/
def c55:AFun:=⟨1,.seq (.ops false [oi 0 1 (.box (.t 0)),oi 1 2 (.mv (.c (.bool false)))] (some [1])) (.seq (.ops false [oi 0 3 (.ldA 12 (.t 1)),oi 1 4 (.mkS 2 [.int .i64 0,.int .i64 0] [(0,1,(.c (.int .i64 7))),(1,1,(.c (.int .i64
 8)))]),oi 2 5 (.call false 105 [(.t 3),(.t 4)]),oi 3 2 (.mv (.t 5))] (some [2])) (.ret)),[.t 2]⟩
theorem k55:compF Tryz.prog Tryz.f55 c55=some c55:=by kernel_rfl
/-- (*scriptorium/format.reader).parts -/
def c56:AFun:=⟨2,.seq (.ops false [oi 0 4 (.mv (.c .nils))] (some [0,1])) (.seq (.ops false [oi 0 5 (.mv (.c .nils))] (some [0,1,5])) (.seq (.block 0 (.loop (.seq (.seq (.ops false [oi 0 10 (.mv (.t 0)),oi 1 11 (.nilck (.t 10)),oi 2 12
 (.fa 0 (.t 11)),oi 3 13 (.ld1 (.t 12)),oi 4 14 (.len false (.t 13)),oi 5 15 (.bin .gtr (.t 14) (.c (.int .i64 0)))] (some [0,1,5,15])) (.cond (.t 15) (.skip) (.exit 0))) (.block 1 (.seq (.ops false [oi 0 16 (.mv (.t 0)),oi 1 17 (.call false
 43 [(.t 16)]),oi 2 6 (.mv (.t 17))] (some [0,1,5,6])) (.seq (.seq (.ops false [oi 0 18 (.mv (.t 1))] (some [0,1,5,6,18])) (.cond (.t 18) (.seq (.ops false [oi 0 20 (.mv (.t 6)),oi 1 21 (.call false 16 [(.t 20),(.c (.str [58]))]),oi 2 19
 (.mv (.t 21)),oi 3 22 (.ext 0 (.t 19)),oi 4 23 (.ext 1 (.t 19)),oi 5 24 (.ext 2 (.t 19)),oi 6 7 (.mv (.t 22)),oi 7 8 (.mv (.t 23)),oi 8 9 (.mv (.t 24))] (some [0,1,5,7,8,9])) (.seq (.ops false [oi 0 25 (.mv (.t 0)),oi 1 26 (.mv (.t 0)),oi 2
 27 (.nilck (.t 26)),oi 3 28 (.fa 1 (.t 27)),oi 4 29 (.ld1 (.t 28)),oi 5 30 (.mv (.t 29)),⟨6,some 31,.mv (.t 9),(some (some 30,false)),[]⟩,⟨7,some 32,.un .not (.t 31),(some (some 30,false)),[]⟩,oi 8 33 (.pick (.t 30) (.c (.bool true)) (.t
 32)),oi 9 34 (.mv (.t 33)),⟨10,some 35,.mv (.t 7),(some (some 34,false)),[]⟩,⟨11,some 36,.bin .neq (.t 35) (.c (.str [45])),(some (some 34,false)),[]⟩,⟨12,some 37,.mv (.t 36),(some (some 34,false)),[]⟩,⟨13,some 38,.mv (.t 7),(some (some
 37,true)),[]⟩,⟨14,some 39,.call false 34 [(.t 38)],(some (some 37,true)),[]⟩,⟨15,some 40,.un .not (.t 39),(some (some 37,true)),[]⟩,⟨16,some 41,.pick (.t 37) (.t 40) (.c (.bool false)),(some (some 34,false)),[]⟩,oi 17 42 (.pick (.t 34) (.c
 (.bool true)) (.t 41)),oi 18 43 (.nilck (.t 25)),oi 19 44 (.fa 1 (.t 43)),ou 20 (.st 1 (.t 44) (.t 42))] (some [0,1,5,7,8])) (.seq (.seq (.ops false [oi 0 45 (.mv (.t 7)),oi 1 46 (.bin .eql (.t 45) (.c (.str [45])))] (some [0,1,5,7,8,46]))
 (.cond (.t 46) (.ops false [oi 0 7 (.mv (.c (.str [])))] (some [0,1,5,7,8])) (.skip))) (.ops false [oi 0 47 (.mv (.t 5)),oi 1 48 (.mv (.t 7)),oi 2 49 (.mkS 1 [.str []] [(0,1,(.t 48))]),oi 3 50 (.app false 1 16 (.t 47) (.t 49)),oi 4 51 (.mv
 (.t 8)),oi 5 5 (.mv (.t 50)),oi 6 6 (.mv (.t 51))] (some [0,1,5,6]))))) (.skip))) (.ops false [oi 0 52 (.mv (.t 0)),oi 1 53 (.mv (.t 6)),oi 2 54 (.call false 53 [(.t 52),(.t 53)])] (some [0,1,5])))))))) (.seq (.ops false [oi 0 55 (.mv (.t
 5)),oi 1 4 (.mv (.t 55))] (some [4])) (.ret)))),[.t 4]⟩
theorem k56:compF Tryz.prog Tryz.f56 c56=some c56:=by kernel_rfl
/-- scriptorium/format.find -/
def c57:AFun:=⟨2,.seq (.ops false [oi 0 3 (.box (.t 1)),oi 1 4 (.mv (.c (.int .i64 0)))] (some [0,3])) (.seq (.ops false [oi 0 5 (.mv (.t 0)),oi 1 6 (.mkF 109 [] [(.t 3)]),oi 2 7 (.call false 108 [(.t 5),(.t 6)]),oi 3 4 (.mv (.t 7))]
 (some [4])) (.ret)),[.t 4]⟩
theorem k57:compF Tryz.prog Tryz.f57 c57=some c57:=by kernel_rfl
/-- scriptorium/format.Print -/
def c58:AFun:=⟨1,.seq (.ops false [oi 0 1 (.box (.t 0)),oi 1 2 (.mv (.c (.str []))),oi 2 3 (.alloc [.int .i64 0,.int .i64 0])] (some [1,3])) (.seq (.seq (.ops false [oi 0 8 (.ldA 1 (.t 1)),oi 1 9 (.call false 110 [(.t 8)]),oi 2 4
 (.alloc [.int .i64 0,.int .i64 0]),ou 3 (.st 2 (.t 4) (.t 9))] (some [1,3,4])) (.seq (.ops false [oi 0 10 (.ldA 2 (.t 4)),oi 1 11 (.build [.int .i64 0,.int .i64 0] []),oi 2 12 (.eqA true 2 (.t 10) (.t 11))] (some [1,3,4,12])) (.cond (.t 12)
 (.seq (.ops true [oi 0 13 (.ldA 2 (.t 4)),oi 1 2 (.mv (.c (.str []))),ou 2 (.st 2 (.t 3) (.t 13))] (some [2,3])) (.ret)) (.skip)))) (.seq (.ops false [oi 0 5 (.mv (.c (.str [])))] (some [1,3,5])) (.seq (.seq (.ops false [oi 0 14 (.fa 0 (.t
 1)),oi 1 15 (.ld1 (.t 14)),oi 2 16 (.len false (.t 15)),oi 3 17 (.mv (.c (.int .i64 0)))] (some [1,3,5,15,16,17])) (.block 0 (.loop (.seq (.ops false [oi 0 18 (.bin .lss (.t 17) (.t 16))] (some [1,3,5,15,16,17,18])) (.seq (.cond (.t 18)
 (.skip) (.exit 0)) (.seq (.block 1 (.seq (.ops false [oi 0 19 (.ia 12 (.t 15) (.t 17)),oi 1 20 (.ldA 12 (.t 19)),oi 2 7 (.alloc [.str [],.int .i64 0,.nils,.int .i64 0,.bool false,.int .i64 0,.int .i64 0,.int .i64 0,.int .i64 0,.int .i64
 0,.nils,.nils]),ou 3 (.st 12 (.t 7) (.t 20))] (some [1,3,5,7,15,16,17])) (.ops false [oi 0 21 (.mv (.t 5)),oi 1 22 (.ldA 1 (.t 1)),oi 2 23 (.ldA 12 (.t 7)),oi 3 24 (.call false 111 [(.t 22),(.t 23)]),oi 4 25 (.bin .add (.t 21) (.t 24)),oi 5
 5 (.mv (.t 25))] (some [1,3,5,15,16,17])))) (.ops false [oi 0 26 (.bin .add (.t 17) (.c (.int .i64 1))),oi 1 17 (.mv (.t 26))] (some [1,3,5,15,16,17])))))))) (.seq (.seq (.ops false [oi 0 27 (.mv (.t 5)),oi 1 28 (.len true (.t 27)),oi 2 29
 (.bin .gtr (.t 28) (.c (.int .i64 2000)))] (some [3,5,29])) (.cond (.t 29) (.seq (.ops false [oi 0 30 (.call false 15 [(.c (.int .i64 14)),(.c (.int .i64 (-1)))]),oi 1 2 (.mv (.c (.str []))),ou 2 (.st 2 (.t 3) (.t 30))] (some [2,3]))
 (.ret)) (.skip))) (.seq (.ops false [oi 0 31 (.mv (.t 5)),oi 1 32 (.build [.int .i64 0,.int .i64 0] []),oi 2 2 (.mv (.t 31)),ou 3 (.st 2 (.t 3) (.t 32))] (some [2,3])) (.ret)))))),[.t 2,.cA 3 2]⟩
theorem k58:compF Tryz.prog Tryz.f58 c58=some c58:=by kernel_rfl
/-- scriptorium/format.First -/
def c59:AFun:=⟨2,.seq (.ops false [oi 0 2 (.box (.t 0)),oi 1 4 (.mv (.c .nils)),oi 2 5 (.alloc [.int .i64 0,.int .i64 0])] (some [1,2,5])) (.seq (.seq (.ops false [oi 0 10 (.ldA 1 (.t 2)),oi 1 11 (.mv (.t 1)),oi 2 12 (.call false 112
 [(.t 10),(.t 11)]),oi 3 6 (.alloc [.int .i64 0,.int .i64 0]),ou 4 (.st 2 (.t 6) (.t 12))] (some [1,2,5,6])) (.seq (.ops false [oi 0 13 (.ldA 2 (.t 6)),oi 1 14 (.build [.int .i64 0,.int .i64 0] []),oi 2 15 (.eqA true 2 (.t 13) (.t 14))]
 (some [1,2,5,6,15])) (.cond (.t 15) (.seq (.ops true [oi 0 16 (.ldA 2 (.t 6)),oi 1 4 (.mv (.c .nils)),ou 2 (.st 2 (.t 5) (.t 16))] (some [4,5])) (.ret)) (.skip)))) (.seq (.ops false [oi 0 7 (.mv (.c .nils))] (some [1,2,5,7])) (.seq (.seq
 (.ops false [oi 0 17 (.ldA 1 (.t 2)),oi 1 18 (.call false 113 [(.t 17)]),oi 2 19 (.mv (.t 1)),oi 3 20 (.ia 256 (.t 18) (.t 19)),oi 4 21 (.ldA 256 (.t 20)),oi 5 22 (.mv (.c (.int .i64 0)))] (some [5,7,21,22])) (.block 0 (.loop (.seq (.ops
 false [oi 0 23 (.bin .lss (.t 22) (.c (.int .i64 256)))] (some [5,7,21,22,23])) (.seq (.cond (.t 23) (.skip) (.exit 0)) (.seq (.block 1 (.seq (.ops false [oi 0 24 (.mv (.t 22)),oi 1 25 (.ixA 256 (.t 21) (.t 22)),oi 2 8 (.mv (.t 24)),oi 3 9
 (.mv (.t 25))] (some [5,7,8,9,21,22])) (.seq (.ops false [oi 0 26 (.mv (.t 9))] (some [5,7,8,21,22,26])) (.cond (.t 26) (.ops false [oi 0 27 (.mv (.t 7)),oi 1 28 (.mv (.t 8)),oi 2 29 (.mkS 1 [.int .i64 0] [(0,1,(.t 28))]),oi 3 30 (.app
 false 1 8 (.t 27) (.t 29)),oi 4 7 (.mv (.t 30))] (some [5,7,21,22])) (.skip))))) (.ops false [oi 0 31 (.bin .add (.t 22) (.c (.int .i64 1))),oi 1 22 (.mv (.t 31))] (some [5,7,21,22])))))))) (.seq (.ops false [oi 0 32 (.mv (.t 7)),oi 1 33
 (.build [.int .i64 0,.int .i64 0] []),oi 2 4 (.mv (.t 32)),ou 3 (.st 2 (.t 5) (.t 33))] (some [4,5])) (.ret))))),[.t 4,.cA 5 2]⟩
theorem k59:compF Tryz.prog Tryz.f59 c59=some c59:=by kernel_rfl
/-- (*scriptorium/formatio.reader).literal -/
def c60:AFun:=⟨2,code60,[]⟩
theorem k60:compF Tryz.prog Tryz.f60 c60=some c60:=by kernel_rfl
/-- scriptorium/formatio.list -/
def c61:AFun:=⟨1,code61,[.cA 2 5]⟩
theorem k61:compF Tryz.prog Tryz.f61 c61=some c61:=by kernel_rfl
/-- scriptorium/formatio.number -/
def c62:AFun:=⟨1,code62,[.cA 2 5]⟩
theorem k62:compF Tryz.prog Tryz.f62 c62=some c62:=by kernel_rfl
/-- (*scriptorium/formatio.reader).number -/
def c63:AFun:=⟨2,code63,[.t 4]⟩
theorem k63:compF Tryz.prog Tryz.f63 c63=some c63:=by kernel_rfl
/-- scriptorium/formatio.bytes -/
def c64:AFun:=⟨1,code64,[.cA 2 5]⟩
theorem k64:compF Tryz.prog Tryz.f64 c64=some c64:=by kernel_rfl
/-- (*scriptorium/formatio.reader).take -/
def c65:AFun:=⟨2,code65,[.t 4]⟩
theorem k65:compF Tryz.prog Tryz.f65 c65=some c65:=by kernel_rfl
/-- (*scriptorium/formatio.reader).until -/
def c66:AFun:=⟨2,.seq (.ops false [oi 0 3 (.box (.t 1)),oi 1 4 (.mv (.c .nils))] (some [0,3])) (.seq (.ops false [oi 0 6 (.mv (.t 0)),oi 1 7 (.nilck (.t 6)),oi 2 8 (.fa 3 (.t 7)),oi 3 9 (.ld1 (.t 8)),oi 4 5 (.mv (.t 9))] (some
 [0,3,5])) (.seq (.block 0 (.loop (.seq (.seq (.ops true [oi 0 10 (.mv (.t 0)),oi 1 11 (.call false 67 [(.t 10)]),oi 2 12 (.cvi .i64 (.t 11)),⟨3,some 13,.fa 7 (.t 3),none,[1]⟩,⟨4,some 14,.ld1 (.t 13),none,[1]⟩,oi 5 15 (.bin .neq (.t 12) (.t
 14))] (some [0,3,5,15])) (.cond (.t 15) (.skip) (.exit 0))) (.block 1 (.seq (.seq (.ops true [oi 0 16 (.mv (.t 0)),oi 1 17 (.nilck (.t 16)),oi 2 18 (.fa 3 (.t 17)),oi 3 19 (.ld1 (.t 18)),oi 4 20 (.mv (.t 5)),oi 5 21 (.bin .sub (.t 19) (.t
 20)),oi 6 22 (.fa 3 (.t 3)),oi 7 23 (.ld1 (.t 22)),oi 8 24 (.bin .eql (.t 21) (.t 23))] (some [0,3,5,24])) (.cond (.t 24) (.ops false [oi 0 25 (.mv (.t 0)),oi 1 26 (.nilck (.t 25)),oi 2 27 (.fa 3 (.t 26)),oi 3 28 (.ld1 (.t 27)),oi 4 29
 (.call false 24 [(.t 28)])] (some [0,3,5])) (.skip))) (.ops false [oi 0 30 (.mv (.t 0)),oi 1 31 (.nilck (.t 30)),oi 2 32 (.fa 3 (.t 31)),oi 3 33 (.ld1 (.t 32)),oi 4 34 (.bin .add (.t 33) (.c (.int .i64 1))),oi 5 35 (.nilck (.t 30)),oi 6 36
 (.fa 3 (.t 35)),ou 7 (.st 1 (.t 36) (.t 34))] (some [0,3,5]))))))) (.seq (.ops false [oi 0 37 (.mv (.t 0)),oi 1 38 (.nilck (.t 37)),oi 2 39 (.fa 3 (.t 38)),oi 3 40 (.ld1 (.t 39)),oi 4 41 (.bin .add (.t 40) (.c (.int .i64 1))),oi 5 42
 (.nilck (.t 37)),oi 6 43 (.fa 3 (.t 42)),ou 7 (.st 1 (.t 43) (.t 41))] (some [0,5])) (.seq (.ops true [oi 0 44 (.mv (.t 0)),oi 1 45 (.nilck (.t 44)),oi 2 46 (.fa 2 (.t 45)),oi 3 47 (.ld1 (.t 46)),oi 4 48 (.mv (.t 5)),oi 5 49 (.mv (.t 0)),oi
 6 50 (.nilck (.t 49)),oi 7 51 (.fa 3 (.t 50)),oi 8 52 (.ld1 (.t 51)),oi 9 53 (.bin .sub (.t 52) (.c (.int .i64 1))),oi 10 54 (.slc 1 (.t 47) (some (.t 48)) (some (.t 53)) none),oi 11 4 (.mv (.t 54))] (some [4])) (.ret))))),[.t 4]⟩
theorem k66:compF Tryz.prog Tryz.f66 c66=some c66:=by kernel_rfl
/-- (*scriptorium/formatio.reader).peek -/
def c67:AFun:=⟨1,code67,[.t 2]⟩
theorem k67:compF Tryz.prog Tryz.f67 c67=some c67:=by kernel_rfl
/-- slices.IndexFunc[[]int,int] -/
def c68:AFun:=⟨2,code68,[.t 4]⟩
theorem k68:compF Tryz.prog Tryz.f68 c68=some c68:=by kernel_rfl
/-- (*scriptorium/formatio.reader).value$1 -/
def c69:AFun:=⟨3,code69,[.t 4]⟩
theorem k69:compF Tryz.prog Tryz.f69 c69=some c69:=by kernel_rfl
/-- slices.Contains[[]int,int] -/
def c70:AFun:=⟨2,code70,[.t 4]⟩
theorem k70:compF Tryz.prog Tryz.f70 c70=some c70:=by kernel_rfl
/-- scriptorium/value.Encode -/
def c71:AFun:=⟨1,code71,[.t 2,.cA 3 2]⟩
theorem k71:compF Tryz.prog Tryz.f71 c71=some c71:=by kernel_rfl
/-- slices.Clone[[]byte,byte] -/
def c72:AFun:=⟨1,code72,[.t 2]⟩
theorem k72:compF Tryz.prog Tryz.f72 c72=some c72:=by kernel_rfl
/-- slices.Clone[[]string,string] -/
def c73:AFun:=⟨1,code73,[.t 2]⟩
theorem k73:compF Tryz.prog Tryz.f73 c73=some c73:=by kernel_rfl
/-- scriptorium/sound.readChunks -/
def c74:AFun:=⟨1,code74,[.t 2,.t 3]⟩
theorem k74:compF Tryz.prog Tryz.f74 c74=some c74:=by kernel_rfl
/-- slices.IndexFunc[[]scriptorium/sound.chunk,scriptorium/sound.chunk] -/
def c75:AFun:=⟨2,code75,[.t 4]⟩
theorem k75:compF Tryz.prog Tryz.f75 c75=some c75:=by kernel_rfl
/-- scriptorium/sound.read$1 -/
def c76:AFun:=⟨1,code76,[.t 2]⟩
theorem k76:compF Tryz.prog Tryz.f76 c76=some c76:=by kernel_rfl
/-- (scriptorium/sound.format).unitSize -/
def c77:AFun:=⟨1,code77,[.t 2]⟩
theorem k77:compF Tryz.prog Tryz.f77 c77=some c77:=by kernel_rfl
/-- (scriptorium/sound.format).decode -/
def c78:AFun:=⟨2,code78,[.t 4]⟩
theorem k78:compF Tryz.prog Tryz.f78 c78=some c78:=by kernel_rfl
/-- scriptorium/wire.Number -/
def c79:AFun:=⟨1,code79,[.t 2]⟩
theorem k79:compF Tryz.prog Tryz.f79 c79=some c79:=by kernel_rfl
/-- scriptorium/wire.Slice[scriptorium/sound.note] -/
def c80:AFun:=⟨2,code80,[.t 4]⟩
theorem k80:compF Tryz.prog Tryz.f80 c80=some c80:=by kernel_rfl
/-- scriptorium/sound.residue$1 -/
def c81:AFun:=⟨1,code81,[.t 2]⟩
theorem k81:compF Tryz.prog Tryz.f81 c81=some c81:=by kernel_rfl
/-- slices.Concat[[]byte,byte] -/
def c82:AFun:=⟨1,code82,[.t 2]⟩
theorem k82:compF Tryz.prog Tryz.f82 c82=some c82:=by kernel_rfl
/-- scriptorium/wire.Chunk -/
def c83:AFun:=⟨1,code83,[.t 2]⟩
theorem k83:compF Tryz.prog Tryz.f83 c83=some c83:=by kernel_rfl
/-- (*scriptorium/formatio.writer).fits -/
def c84:AFun:=⟨3,code84,[.t 6]⟩
theorem k84:compF Tryz.prog Tryz.f84 c84=some c84:=by kernel_rfl
/-- (*scriptorium/formatio.writer).number -/
def c85:AFun:=⟨3,code85,[]⟩
theorem k85:compF Tryz.prog Tryz.f85 c85=some c85:=by kernel_rfl
/-- (*scriptorium/formatio.writer).all -/
def c86:AFun:=⟨3,code86,[]⟩
theorem k86:compF Tryz.prog Tryz.f86 c86=some c86:=by kernel_rfl
/-- strings.ContainsFunc -/
def c87:AFun:=⟨2,.seq (.ops false [oi 0 4 (.mv (.c (.bool false)))] (some [0,1])) (.seq (.ops false [oi 0 5 (.mv (.t 0)),oi 1 6 (.mv (.t 1)),oi 2 7 (.call false 125 [(.t 5),(.t 6)]),oi 3 8 (.bin .geq (.t 7) (.c (.int .i64 0))),oi 4 4
 (.mv (.t 8))] (some [4])) (.ret)),[.t 4]⟩
theorem k87:compF Tryz.prog Tryz.f87 c87=some c87:=by kernel_rfl
/-- scriptorium/value.Name$1 -/
def c88:AFun:=⟨1,.seq (.ops false [oi 0 2 (.mv (.c (.bool false)))] (some [0])) (.seq (.ops false [oi 0 3 (.mv (.t 0)),oi 1 4 (.bin .lss (.t 3) (.c (.int .i32 97))),oi 2 5 (.mv (.t 4)),⟨3,some 6,.mv (.t 0),(some (some
 5,false)),[]⟩,⟨4,some 7,.bin .gtr (.t 6) (.c (.int .i32 122)),(some (some 5,false)),[]⟩,oi 5 8 (.pick (.t 5) (.c (.bool true)) (.t 7)),oi 6 9 (.mv (.t 8)),⟨7,some 10,.mv (.t 0),(some (some 9,true)),[]⟩,⟨8,some 11,.bin .lss (.t 10) (.c (.int
 .i32 48)),(some (some 9,true)),[]⟩,⟨9,some 12,.mv (.t 11),(some (some 9,true)),[]⟩,⟨10,some 13,.mv (.t 0),(some (some 12,false)),[]⟩,⟨11,some 14,.bin .gtr (.t 13) (.c (.int .i32 57)),(some (some 12,false)),[]⟩,⟨12,some 15,.pick (.t 12) (.c
 (.bool true)) (.t 14),(some (some 9,true)),[]⟩,oi 13 16 (.pick (.t 9) (.t 15) (.c (.bool false))),oi 14 17 (.mv (.t 16)),⟨15,some 18,.mv (.t 0),(some (some 17,true)),[]⟩,⟨16,some 19,.call false 89 [(.c (.str [45,95,46])),(.t 18)],(some
 (some 17,true)),[]⟩,⟨17,some 20,.un .not (.t 19),(some (some 17,true)),[]⟩,oi 18 21 (.pick (.t 17) (.t 20) (.c (.bool false))),oi 19 2 (.mv (.t 21))] (some [2])) (.ret)),[.t 2]⟩
theorem k88:compF Tryz.prog Tryz.f88 c88=some c88:=by kernel_rfl
/-- strings.ContainsRune -/
def c89:AFun:=⟨2,.seq (.ops false [oi 0 4 (.mv (.c (.bool false)))] (some [0,1])) (.seq (.ops false [oi 0 5 (.mv (.t 0)),oi 1 6 (.mv (.t 1)),oi 2 7 (.call false 126 [(.t 5),(.t 6)]),oi 3 8 (.bin .geq (.t 7) (.c (.int .i64 0))),oi 4 4
 (.mv (.t 8))] (some [4])) (.ret)),[.t 4]⟩
theorem k89:compF Tryz.prog Tryz.f89 c89=some c89:=by kernel_rfl
/-- scriptorium/value.Walk$1 -/
def c90:AFun:=⟨2,code90,[]⟩
theorem k90:compF Tryz.prog Tryz.f90 c90=some c90:=by kernel_rfl
/-- scriptorium/value.walk -/
def c91:AFun:=⟨3,code91,[.t 6]⟩
theorem k91:compF Tryz.prog Tryz.f91 c91=some c91:=by kernel_rfl
/-- bytes.CutPrefix -/
def c92:AFun:=⟨2,code92,[.t 4,.t 5]⟩
theorem k92:compF Tryz.prog Tryz.f92 c92=some c92:=by kernel_rfl
/-- internal/stringslite.Index -/
def c100:AFun:=⟨2,.seq (.ops false [oi 0 4 (.mv (.c (.int .i64 0)))] (some [0,1])) (.seq (.ops false [oi 0 14 (.mv (.t 1)),oi 1 15 (.len true (.t 14)),oi 2 5 (.mv (.t 15))] (some [0,1,5])) (.seq (.block 0 (.seq (.ops false [oi 0 17
 (.mv (.t 5)),oi 1 18 (.bin .eql (.t 17) (.c (.int .i64 0))),oi 2 19 (.mv (.t 18)),⟨3,some 20,.mv (.t 1),(some (some 19,false)),[]⟩,⟨4,some 21,.mv (.t 0),(some (some 19,false)),[]⟩,⟨5,some 22,.bin .eql (.t 20) (.t 21),(some (some
 19,false)),[]⟩,oi 6 23 (.pick (.t 19) (.c (.bool true)) (.t 22)),oi 7 16 (.mv (.t 23))] (some [0,1,5,16])) (.cond (.t 16) (.seq (.ops false [oi 0 4 (.mv (.c (.int .i64 0)))] (some [4])) (.ret)) (.seq (.ops false [oi 0 25 (.mv (.t 5)),oi 1
 26 (.bin .eql (.t 25) (.c (.int .i64 1))),oi 2 24 (.mv (.t 26))] (some [0,1,5,24])) (.cond (.t 24) (.seq (.ops false [oi 0 27 (.mv (.t 0)),oi 1 28 (.mv (.t 1)),oi 2 29 (.ixS (.t 28) (.c (.int .i64 0))),oi 3 30 (.call false 136 [(.t 27),(.t
 29)]),oi 4 4 (.mv (.t 30))] (some [4])) (.ret)) (.seq (.ops false [oi 0 32 (.mv (.t 5)),oi 1 33 (.mv (.t 0)),oi 2 34 (.len true (.t 33)),oi 3 35 (.bin .geq (.t 32) (.t 34)),oi 4 31 (.mv (.t 35))] (some [0,1,5,31])) (.cond (.t 31) (.seq
 (.ops false [oi 0 4 (.mv (.c (.int .i64 (-1))))] (some [4])) (.ret)) (.seq (.ops false [oi 0 37 (.mv (.t 5)),oi 1 38 (.ld1 (.g 1)),oi 2 39 (.bin .leq (.t 37) (.t 38)),oi 3 40 (.mv (.t 39)),⟨4,some 41,.mv (.t 0),(some (some
 40,true)),[]⟩,⟨5,some 42,.len true (.t 41),(some (some 40,true)),[]⟩,⟨6,some 43,.bin .leq (.t 42) (.c (.int .i64 64)),(some (some 40,true)),[]⟩,oi 7 44 (.pick (.t 40) (.t 43) (.c (.bool false))),oi 8 36 (.mv (.t 44))] (some [0,1,5,36]))
 (.cond (.t 36) (.seq (.ops false [oi 0 45 (.mv (.t 0)),oi 1 46 (.mv (.t 1)),oi 2 47 (.call false 137 [(.t 45),(.t 46)]),oi 3 4 (.mv (.t 47))] (some [4])) (.ret)) (.skip)))))))))) (.seq (.ops false [oi 0 48 (.mv (.t 1)),oi 1 49 (.ixS (.t 48)
 (.c (.int .i64 0))),oi 2 6 (.mv (.t 49))] (some [0,1,5,6])) (.seq (.ops false [oi 0 50 (.mv (.t 1)),oi 1 51 (.ixS (.t 50) (.c (.int .i64 1))),oi 2 7 (.mv (.t 51))] (some [0,1,5,6,7])) (.seq (.ops false [oi 0 8 (.mv (.c (.int .i64 0)))]
 (some [0,1,5,6,7,8])) (.seq (.ops false [oi 0 52 (.mv (.t 0)),oi 1 53 (.len true (.t 52)),oi 2 54 (.mv (.t 5)),oi 3 55 (.bin .sub (.t 53) (.t 54)),oi 4 56 (.bin .add (.t 55) (.c (.int .i64 1))),oi 5 9 (.mv (.t 56))] (some [0,1,5,6,7,8,9]))
 (.seq (.ops false [oi 0 10 (.mv (.c (.int .i64 0)))] (some [0,1,5,6,7,8,9,10])) (.seq (.block 1 (.loop (.seq (.seq (.ops false [oi 0 57 (.mv (.t 8)),oi 1 58 (.mv (.t 9)),oi 2 59 (.bin .lss (.t 57) (.t 58))] (some [0,1,5,6,7,8,9,10,59]))
 (.cond (.t 59) (.skip) (.exit 1))) (.block 2 (.seq (.seq (.ops false [oi 0 60 (.mv (.t 0)),oi 1 61 (.mv (.t 8)),oi 2 62 (.ixS (.t 60) (.t 61)),oi 3 63 (.mv (.t 6)),oi 4 64 (.bin .neq (.t 62) (.t 63))] (some [0,1,5,6,7,8,9,10,64])) (.cond
 (.t 64) (.seq (.ops false [oi 0 65 (.mv (.t 0)),oi 1 66 (.mv (.t 8)),oi 2 67 (.bin .add (.t 66) (.c (.int .i64 1))),oi 3 68 (.mv (.t 9)),oi 4 69 (.slcS (.t 65) (some (.t 67)) (some (.t 68))),oi 5 70 (.mv (.t 6)),oi 6 71 (.call false 136
 [(.t 69),(.t 70)]),oi 7 11 (.mv (.t 71))] (some [0,1,5,6,7,8,9,10,11])) (.seq (.seq (.ops false [oi 0 72 (.mv (.t 11)),oi 1 73 (.bin .lss (.t 72) (.c (.int .i64 0)))] (some [0,1,5,6,7,8,9,10,11,73])) (.cond (.t 73) (.seq (.ops false [oi 0 4
 (.mv (.c (.int .i64 (-1))))] (some [4])) (.ret)) (.skip))) (.ops false [oi 0 74 (.mv (.t 8)),oi 1 75 (.mv (.t 11)),oi 2 76 (.bin .add (.t 75) (.c (.int .i64 1))),oi 3 77 (.bin .add (.t 74) (.t 76)),oi 4 8 (.mv (.t 77))] (some
 [0,1,5,6,7,8,9,10])))) (.skip))) (.seq (.seq (.ops false [oi 0 78 (.mv (.t 0)),oi 1 79 (.mv (.t 8)),oi 2 80 (.bin .add (.t 79) (.c (.int .i64 1))),oi 3 81 (.ixS (.t 78) (.t 80)),oi 4 82 (.mv (.t 7)),oi 5 83 (.bin .eql (.t 81) (.t 82)),oi 6
 84 (.mv (.t 83)),⟨7,some 85,.mv (.t 0),(some (some 84,true)),[]⟩,⟨8,some 86,.mv (.t 8),(some (some 84,true)),[]⟩,⟨9,some 87,.mv (.t 8),(some (some 84,true)),[]⟩,⟨10,some 88,.mv (.t 5),(some (some 84,true)),[]⟩,⟨11,some 89,.bin .add (.t 87)
 (.t 88),(some (some 84,true)),[]⟩,⟨12,some 90,.slcS (.t 85) (some (.t 86)) (some (.t 89)),(some (some 84,true)),[]⟩,⟨13,some 91,.mv (.t 1),(some (some 84,true)),[]⟩,⟨14,some 92,.bin .eql (.t 90) (.t 91),(some (some 84,true)),[]⟩,oi 15 93
 (.pick (.t 84) (.t 92) (.c (.bool false)))] (some [0,1,5,6,7,8,9,10,93])) (.cond (.t 93) (.seq (.ops false [oi 0 94 (.mv (.t 8)),oi 1 4 (.mv (.t 94))] (some [4])) (.ret)) (.skip))) (.seq (.ops false [oi 0 95 (.mv (.t 8)),oi 1 96 (.bin .add
 (.t 95) (.c (.int .i64 1))),oi 2 8 (.mv (.t 96))] (some [0,1,5,6,7,8,9,10])) (.seq (.ops false [oi 0 97 (.mv (.t 10)),oi 1 98 (.bin .add (.t 97) (.c (.int .i64 1))),oi 2 10 (.mv (.t 98))] (some [0,1,5,6,7,8,9,10])) (.seq (.ops false [oi 0
 99 (.mv (.t 5)),oi 1 100 (.ld1 (.g 1)),oi 2 101 (.bin .leq (.t 99) (.t 100)),oi 3 102 (.mv (.t 101)),⟨4,some 103,.mv (.t 10),(some (some 102,true)),[]⟩,⟨5,some 104,.mv (.t 8),(some (some 102,true)),[]⟩,⟨6,some 105,.call false 138 [(.t
 104)],(some (some 102,true)),[]⟩,⟨7,some 106,.bin .gtr (.t 103) (.t 105),(some (some 102,true)),[]⟩,oi 8 107 (.pick (.t 102) (.t 106) (.c (.bool false)))] (some [0,1,5,6,7,8,9,10,107])) (.cond (.t 107) (.seq (.ops false [oi 0 108 (.mv (.t
 0)),oi 1 109 (.mv (.t 8)),oi 2 110 (.slcS (.t 108) (some (.t 109)) none),oi 3 111 (.mv (.t 1)),oi 4 112 (.call false 137 [(.t 110),(.t 111)]),oi 5 12 (.mv (.t 112))] (some [8,12])) (.seq (.seq (.ops false [oi 0 113 (.mv (.t 12)),oi 1 114
 (.bin .geq (.t 113) (.c (.int .i64 0)))] (some [8,12,114])) (.cond (.t 114) (.seq (.ops false [oi 0 115 (.mv (.t 12)),oi 1 116 (.mv (.t 8)),oi 2 117 (.bin .add (.t 115) (.t 116)),oi 3 4 (.mv (.t 117))] (some [4])) (.ret)) (.skip))) (.seq
 (.ops false [oi 0 4 (.mv (.c (.int .i64 (-1))))] (some [4])) (.ret)))) (.seq (.ops false [oi 0 118 (.mv (.t 5)),oi 1 119 (.ld1 (.g 1)),oi 2 120 (.bin .gtr (.t 118) (.t 119)),oi 3 121 (.mv (.t 120)),⟨4,some 122,.mv (.t 10),(some (some
 121,true)),[]⟩,⟨5,some 123,.mv (.t 8),(some (some 121,true)),[]⟩,⟨6,some 124,.bin .shr (.t 123) (.c (.int .u64 4)),(some (some 121,true)),[]⟩,⟨7,some 125,.bin .add (.c (.int .i64 4)) (.t 124),(some (some 121,true)),[]⟩,⟨8,some 126,.bin .geq
 (.t 122) (.t 125),(some (some 121,true)),[]⟩,oi 9 127 (.pick (.t 121) (.t 126) (.c (.bool false))),oi 10 128 (.mv (.t 127)),⟨11,some 129,.mv (.t 8),(some (some 128,true)),[]⟩,⟨12,some 130,.mv (.t 9),(some (some 128,true)),[]⟩,⟨13,some
 131,.bin .lss (.t 129) (.t 130),(some (some 128,true)),[]⟩,oi 14 132 (.pick (.t 128) (.t 131) (.c (.bool false)))] (some [0,1,5,6,7,8,9,10,132])) (.cond (.t 132) (.seq (.ops false [oi 0 133 (.mv (.t 0)),oi 1 134 (.mv (.t 8)),oi 2 135 (.slcS
 (.t 133) (some (.t 134)) none),oi 3 136 (.mv (.t 1)),oi 4 137 (.call false 139 [(.t 135),(.t 136)]),oi 5 13 (.mv (.t 137))] (some [8,13])) (.seq (.seq (.ops false [oi 0 138 (.mv (.t 13)),oi 1 139 (.bin .lss (.t 138) (.c (.int .i64 0)))]
 (some [8,13,139])) (.cond (.t 139) (.seq (.ops false [oi 0 4 (.mv (.c (.int .i64 (-1))))] (some [4])) (.ret)) (.skip))) (.seq (.ops false [oi 0 140 (.mv (.t 8)),oi 1 141 (.mv (.t 13)),oi 2 142 (.bin .add (.t 140) (.t 141)),oi 3 4 (.mv (.t
 142))] (some [4])) (.ret)))) (.skip))))))))))))) (.seq (.ops false [oi 0 4 (.mv (.c (.int .i64 (-1))))] (some [4])) (.ret)))))))))),[.t 4]⟩
theorem k100:compF Tryz.prog Tryz.f100 c100=some c100:=by kernel_rfl
/-- strings.genSplit -/
def c101:AFun:=⟨4,.seq (.ops false [oi 0 8 (.mv (.c .nils))] (some [0,1,2,3])) (.seq (.seq (.ops false [oi 0 12 (.mv (.t 3)),oi 1 13 (.bin .eql (.t 12) (.c (.int .i64 0)))] (some [0,1,2,3,13])) (.cond (.t 13) (.seq (.ops false [oi 0 8
 (.mv (.c .nils))] (some [8])) (.ret)) (.skip))) (.seq (.seq (.ops false [oi 0 14 (.mv (.t 1)),oi 1 15 (.bin .eql (.t 14) (.c (.str [])))] (some [0,1,2,3,15])) (.cond (.t 15) (.seq (.ops false [oi 0 16 (.mv (.t 0)),oi 1 17 (.mv (.t 3)),oi 2
 18 (.call false 140 [(.t 16),(.t 17)]),oi 3 8 (.mv (.t 18))] (some [8])) (.ret)) (.skip))) (.seq (.seq (.ops false [oi 0 19 (.mv (.t 3)),oi 1 20 (.bin .lss (.t 19) (.c (.int .i64 0)))] (some [0,1,2,3,20])) (.cond (.t 20) (.ops false [oi 0
 21 (.mv (.t 0)),oi 1 22 (.mv (.t 1)),oi 2 23 (.call false 141 [(.t 21),(.t 22)]),oi 3 24 (.bin .add (.t 23) (.c (.int .i64 1))),oi 4 3 (.mv (.t 24))] (some [0,1,2,3])) (.skip))) (.seq (.ops false [oi 0 25 (.mv (.t 3)),oi 1 26 (.mv (.t
 0)),oi 2 27 (.len true (.t 26)),oi 3 28 (.bin .add (.t 27) (.c (.int .i64 1))),oi 4 29 (.min (.t 25) (.t 28)),oi 5 3 (.mv (.t 29))] (some [0,1,2,3])) (.seq (.ops false [oi 0 30 (.mv (.t 3)),oi 1 31 (.mkM 1 16 [.str []] (.t 30) (.t 30)),oi 2
 9 (.mv (.t 31))] (some [0,1,2,3,9])) (.seq (.ops false [oi 0 32 (.mv (.t 3)),oi 1 33 (.bin .sub (.t 32) (.c (.int .i64 1))),oi 2 3 (.mv (.t 33))] (some [0,1,2,3,9])) (.seq (.ops false [oi 0 10 (.mv (.c (.int .i64 0)))] (some
 [0,1,2,3,9,10])) (.seq (.block 0 (.loop (.seq (.seq (.ops false [oi 0 34 (.mv (.t 10)),oi 1 35 (.mv (.t 3)),oi 2 36 (.bin .lss (.t 34) (.t 35))] (some [0,1,2,3,9,10,36])) (.cond (.t 36) (.skip) (.exit 0))) (.block 1 (.seq (.ops false [oi 0
 37 (.mv (.t 0)),oi 1 38 (.mv (.t 1)),oi 2 39 (.call false 142 [(.t 37),(.t 38)]),oi 3 11 (.mv (.t 39))] (some [0,1,2,3,9,10,11])) (.seq (.seq (.ops false [oi 0 40 (.mv (.t 11)),oi 1 41 (.bin .lss (.t 40) (.c (.int .i64 0)))] (some
 [0,1,2,3,9,10,11,41])) (.cond (.t 41) (.exit 0) (.skip))) (.seq (.ops false [oi 0 42 (.mv (.t 9)),oi 1 43 (.mv (.t 10)),oi 2 44 (.mv (.t 0)),oi 3 45 (.mv (.t 11)),oi 4 46 (.mv (.t 2)),oi 5 47 (.bin .add (.t 45) (.t 46)),oi 6 48 (.slcS (.t
 44) none (some (.t 47))),oi 7 49 (.ia 1 (.t 42) (.t 43)),ou 8 (.st 1 (.t 49) (.t 48))] (some [0,1,2,3,9,10,11])) (.seq (.ops false [oi 0 50 (.mv (.t 0)),oi 1 51 (.mv (.t 11)),oi 2 52 (.mv (.t 1)),oi 3 53 (.len true (.t 52)),oi 4 54 (.bin
 .add (.t 51) (.t 53)),oi 5 55 (.slcS (.t 50) (some (.t 54)) none),oi 6 0 (.mv (.t 55))] (some [0,1,2,3,9,10])) (.ops false [oi 0 56 (.mv (.t 10)),oi 1 57 (.bin .add (.t 56) (.c (.int .i64 1))),oi 2 10 (.mv (.t 57))] (some
 [0,1,2,3,9,10])))))))))) (.seq (.ops false [oi 0 58 (.mv (.t 9)),oi 1 59 (.mv (.t 10)),oi 2 60 (.mv (.t 0)),oi 3 61 (.ia 1 (.t 58) (.t 59)),ou 4 (.st 1 (.t 61) (.t 60))] (some [9,10])) (.seq (.ops false [oi 0 62 (.mv (.t 9)),oi 1 63 (.mv
 (.t 10)),oi 2 64 (.bin .add (.t 63) (.c (.int .i64 1))),oi 3 65 (.slc 1 (.t 62) none (some (.t 64)) none),oi 4 8 (.mv (.t 65))] (some [8])) (.ret))))))))))),[.t 8]⟩
theorem k101:compF Tryz.prog Tryz.f101 c101=some c101:=by kernel_rfl
/-- strings.IndexByte -/
def c104:AFun:=⟨2,.seq (.ops false [oi 0 4 (.mv (.c (.int .i64 0)))] (some [0,1])) (.seq (.ops false [oi 0 5 (.mv (.t 0)),oi 1 6 (.mv (.t 1)),oi 2 7 (.call false 136 [(.t 5),(.t 6)]),oi 3 4 (.mv (.t 7))] (some [4])) (.ret)),[.t 4]⟩
theorem k104:compF Tryz.prog Tryz.f104 c104=some c104:=by kernel_rfl
/-- scriptorium/format.is -/
def c105:AFun:=⟨2,.seq (.ops false [oi 0 2 (.box (.t 0)),oi 1 4 (.mv (.c (.bool false)))] (some [1,2])) (.seq (.ops false [oi 0 5 (.mv (.t 1)),oi 1 6 (.fa 1 (.t 2)),oi 2 7 (.ld1 (.t 6)),oi 3 8 (.call false 70 [(.t 5),(.t 7)]),oi 4 4
 (.mv (.t 8))] (some [4])) (.ret)),[.t 4]⟩
theorem k105:compF Tryz.prog Tryz.f105 c105=some c105:=by kernel_rfl
end Go.Proofs.YtdflipbphcmpoaaGreatDoor.Cd
