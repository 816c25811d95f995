/- A part of the proof of TopSoundsDescribed (texts C1): an executor of the program's code, proved sound, and its runs. No condition. -/
import Derived.Test.YtdflipbphcmpoaaGreatDoorP09
import Derived.Test.YtdflipbphcmpoaaGreatDoorProg
import Derived.KernelRfl
set_option linter.unusedSimpArgs false
set_option linter.unusedVariables false
set_option maxRecDepth 100000
namespace Go.Proofs.YtdflipbphcmpoaaGreatDoor.Cd
open Go Go.Sx Go.Proofs
/-- strconv.Atoi -/
def c106:AFun:=⟨1,.seq (.ops false [oi 0 2 (.mv (.c (.int .i64 0))),oi 1 3 (.mv (.c .nili))] (some [0])) (.seq (.ops false [oi 0 7 (.mv (.t 0)),oi 1 8 (.call false 144 [(.t 7)]),oi 2 6 (.mv (.t 8)),oi 3 9 (.ext 0 (.t 6)),oi 4 10 (.ext
 1 (.t 6)),oi 5 4 (.mv (.t 9)),oi 6 5 (.mv (.t 10))] (some [0,4,5])) (.seq (.seq (.ops false [oi 0 11 (.mv (.t 5)),oi 1 12 (.isnil true 2 (.t 11))] (some [0,4,5,12])) (.cond (.t 12) (.seq (.ops false [oi 0 13 (.mv (.t 4)),oi 1 14 (.mv (.t
 0)),oi 2 15 (.mv (.t 5)),oi 3 16 (.call false 145 [(.c (.str [65,116,111,105])),(.t 14),(.c (.int .i64 0)),(.c (.int .i64 0)),(.t 15)]),oi 4 2 (.mv (.t 13)),oi 5 3 (.mv (.t 16))] (some [2,3])) (.ret)) (.skip))) (.seq (.ops false [oi 0 17
 (.mv (.t 4)),oi 1 2 (.mv (.t 17)),oi 2 3 (.mv (.c .nili))] (some [2,3])) (.ret)))),[.t 2,.t 3]⟩
theorem k106:compF Tryz.prog Tryz.f106 c106=some c106:=by kernel_rfl
/-- strconv.Itoa -/
def c107:AFun:=⟨1,.seq (.ops false [oi 0 2 (.mv (.c (.str [])))] (some [0])) (.seq (.ops false [oi 0 3 (.mv (.t 0)),oi 1 4 (.call false 146 [(.t 3)]),oi 2 2 (.mv (.t 4))] (some [2])) (.ret)),[.t 2]⟩
theorem k107:compF Tryz.prog Tryz.f107 c107=some c107:=by kernel_rfl
/-- slices.IndexFunc[[]scriptorium/api.Rule,scriptorium/api.Rule] -/
def c108:AFun:=⟨2,.seq (.ops false [oi 0 4 (.mv (.c (.int .i64 0)))] (some [0,1])) (.seq (.seq (.ops false [oi 0 6 (.mv (.t 0)),oi 1 7 (.len false (.t 6)),oi 2 8 (.mv (.c (.int .i64 0)))] (some [0,1,7,8])) (.block 0 (.loop (.seq (.ops
 false [oi 0 9 (.bin .lss (.t 8) (.t 7))] (some [0,1,7,8,9])) (.seq (.cond (.t 9) (.skip) (.exit 0)) (.seq (.block 1 (.seq (.ops false [oi 0 10 (.mv (.t 8)),oi 1 5 (.mv (.t 10))] (some [0,1,5,7,8])) (.seq (.ops false [oi 0 11 (.mv (.t 1)),oi
 1 12 (.mv (.t 0)),oi 2 13 (.mv (.t 5)),oi 3 14 (.ia 12 (.t 12) (.t 13)),oi 4 15 (.ldA 12 (.t 14)),oi 5 16 (.dyn (.t 11) [(.t 15)])] (some [0,1,5,7,8,16])) (.cond (.t 16) (.seq (.ops false [oi 0 17 (.mv (.t 5)),oi 1 4 (.mv (.t 17))] (some
 [4])) (.ret)) (.skip))))) (.ops false [oi 0 18 (.bin .add (.t 8) (.c (.int .i64 1))),oi 1 8 (.mv (.t 18))] (some [0,1,7,8])))))))) (.seq (.ops false [oi 0 4 (.mv (.c (.int .i64 (-1))))] (some [4])) (.ret))),[.t 4]⟩
theorem k108:compF Tryz.prog Tryz.f108 c108=some c108:=by kernel_rfl
/-- scriptorium/format.find$1 -/
def c109:AFun:=⟨2,.seq (.ops false [oi 0 2 (.box (.t 0)),oi 1 3 (.mv (.c (.bool false)))] (some [1,2])) (.seq (.ops false [oi 0 4 (.fa 0 (.t 2)),oi 1 5 (.ld1 (.t 4)),oi 2 6 (.ld1 (.t 1)),oi 3 7 (.bin .eql (.t 5) (.t 6)),oi 4 3 (.mv (.t
 7))] (some [3])) (.ret)),[.t 3]⟩
theorem k109:compF Tryz.prog Tryz.f109 c109=some c109:=by kernel_rfl
/-- scriptorium/format.check -/
def c110:AFun:=⟨1,.seq (.ops false [oi 0 1 (.box (.t 0)),oi 1 2 (.alloc [.int .i64 0,.int .i64 0])] (some [1,2])) (.seq (.ops false [oi 0 15 (.fa 0 (.t 1)),oi 1 16 (.ld1 (.t 15)),oi 2 17 (.len false (.t 16)),oi 3 3 (.mv (.t 17))] (some
 [1,2,3])) (.seq (.block 0 (.seq (.ops false [oi 0 19 (.mv (.t 3)),oi 1 20 (.bin .eql (.t 19) (.c (.int .i64 0))),oi 2 18 (.mv (.t 20))] (some [1,2,3,18])) (.cond (.t 18) (.seq (.ops false [oi 0 21 (.call false 15 [(.c (.int .i64 10)),(.c
 (.int .i64 (-1)))]),ou 1 (.st 2 (.t 2) (.t 21))] (some [2])) (.ret)) (.seq (.ops false [oi 0 23 (.mv (.t 3)),oi 1 24 (.bin .gtr (.t 23) (.c (.int .i64 40))),oi 2 22 (.mv (.t 24))] (some [1,2,3,22])) (.cond (.t 22) (.seq (.ops false [oi 0 25
 (.call false 15 [(.c (.int .i64 2)),(.c (.int .i64 (-1)))]),ou 1 (.st 2 (.t 2) (.t 25))] (some [2])) (.ret)) (.skip)))))) (.seq (.seq (.ops false [oi 0 26 (.fa 0 (.t 1)),oi 1 27 (.ld1 (.t 26)),oi 2 28 (.len false (.t 27)),oi 3 29 (.mv (.c
 (.int .i64 0)))] (some [1,2,3,27,28,29])) (.block 1 (.loop (.seq (.ops false [oi 0 30 (.bin .lss (.t 29) (.t 28))] (some [1,2,3,27,28,29,30])) (.seq (.cond (.t 30) (.skip) (.exit 1)) (.seq (.block 2 (.seq (.ops false [oi 0 31 (.mv (.t
 29)),oi 1 32 (.ia 12 (.t 27) (.t 29)),oi 2 33 (.ldA 12 (.t 32)),oi 3 5 (.alloc [.str [],.int .i64 0,.nils,.int .i64 0,.bool false,.int .i64 0,.int .i64 0,.int .i64 0,.int .i64 0,.int .i64 0,.nils,.nils]),oi 4 4 (.mv (.t 31)),ou 5 (.st 12
 (.t 5) (.t 33))] (some [1,2,3,4,5,27,28,29])) (.seq (.ops true [oi 0 34 (.ldA 12 (.t 5)),oi 1 35 (.fa 0 (.t 1)),oi 2 36 (.ld1 (.t 35)),oi 3 37 (.mv (.t 4)),oi 4 38 (.slc 12 (.t 36) none (some (.t 37)) none),oi 5 39 (.mv (.t 3)),oi 6 40
 (.call false 147 [(.t 34),(.t 38),(.t 39)]),oi 7 6 (.mv (.t 40))] (some [1,2,3,4,6,27,28,29])) (.seq (.ops false [oi 0 41 (.mv (.t 6)),oi 1 42 (.bin .neq (.t 41) (.c (.int .i64 0)))] (some [1,2,3,4,6,27,28,29,42])) (.cond (.t 42) (.seq
 (.ops false [oi 0 43 (.mv (.t 6)),oi 1 44 (.mv (.t 4)),oi 2 45 (.call false 15 [(.t 43),(.t 44)]),ou 3 (.st 2 (.t 2) (.t 45))] (some [2])) (.ret)) (.skip)))))) (.ops false [oi 0 46 (.bin .add (.t 29) (.c (.int .i64 1))),oi 1 29 (.mv (.t
 46))] (some [1,2,3,27,28,29])))))))) (.seq (.seq (.ops false [oi 0 47 (.fa 0 (.t 1)),oi 1 48 (.ld1 (.t 47)),oi 2 49 (.len false (.t 48)),oi 3 50 (.mv (.c (.int .i64 0)))] (some [1,2,48,49,50])) (.block 3 (.loop (.seq (.ops false [oi 0 51
 (.bin .lss (.t 50) (.t 49))] (some [1,2,48,49,50,51])) (.seq (.cond (.t 51) (.skip) (.exit 3)) (.seq (.block 4 (.seq (.ops false [oi 0 52 (.mv (.t 50)),oi 1 53 (.ia 12 (.t 48) (.t 50)),oi 2 54 (.ldA 12 (.t 53)),oi 3 8 (.alloc [.str [],.int
 .i64 0,.nils,.int .i64 0,.bool false,.int .i64 0,.int .i64 0,.int .i64 0,.int .i64 0,.int .i64 0,.nils,.nils]),oi 4 7 (.mv (.t 52)),ou 5 (.st 12 (.t 8) (.t 54))] (some [1,2,7,8,48,49,50])) (.seq (.ops false [oi 0 55 (.ldA 1 (.t 1)),oi 1 56
 (.ldA 12 (.t 8)),oi 2 57 (.call false 148 [(.t 55),(.t 56)]),oi 3 9 (.mv (.t 57))] (some [1,2,7,9,48,49,50])) (.seq (.ops false [oi 0 58 (.mv (.t 9)),oi 1 59 (.bin .neq (.t 58) (.c (.int .i64 0)))] (some [1,2,7,9,48,49,50,59])) (.cond (.t
 59) (.seq (.ops false [oi 0 60 (.mv (.t 9)),oi 1 61 (.mv (.t 7)),oi 2 62 (.call false 15 [(.t 60),(.t 61)]),ou 3 (.st 2 (.t 2) (.t 62))] (some [2])) (.ret)) (.skip)))))) (.ops false [oi 0 63 (.bin .add (.t 50) (.c (.int .i64 1))),oi 1 50
 (.mv (.t 63))] (some [1,2,48,49,50])))))))) (.seq (.seq (.ops false [oi 0 64 (.fa 0 (.t 1)),oi 1 65 (.ld1 (.t 64)),oi 2 66 (.len false (.t 65)),oi 3 67 (.mv (.c (.int .i64 0)))] (some [1,2,66,67])) (.block 5 (.loop (.seq (.ops false [oi 0
 68 (.bin .lss (.t 67) (.t 66))] (some [1,2,66,67,68])) (.seq (.cond (.t 68) (.skip) (.exit 5)) (.seq (.block 6 (.seq (.ops false [oi 0 69 (.mv (.t 67)),oi 1 10 (.mv (.t 69))] (some [1,2,10,66,67])) (.seq (.ops false [oi 0 70 (.ldA 1 (.t
 1)),oi 1 71 (.mv (.t 10)),oi 2 72 (.call false 149 [(.t 70),(.t 71)])] (some [1,2,10,66,67,72])) (.cond (.t 72) (.seq (.ops false [oi 0 73 (.mv (.t 10)),oi 1 74 (.call false 15 [(.c (.int .i64 22)),(.t 73)]),ou 2 (.st 2 (.t 2) (.t 74))]
 (some [2])) (.ret)) (.skip))))) (.ops false [oi 0 75 (.bin .add (.t 67) (.c (.int .i64 1))),oi 1 67 (.mv (.t 75))] (some [1,2,66,67])))))))) (.seq (.seq (.ops false [oi 0 76 (.ldA 1 (.t 1)),oi 1 77 (.call false 151 [(.t 76)]),oi 2 78 (.call
 false 150 [(.t 77),(.c (.bool false))]),oi 3 11 (.mv (.t 78))] (some [1,2,11])) (.seq (.ops false [oi 0 79 (.mv (.t 11)),oi 1 80 (.bin .geq (.t 79) (.c (.int .i64 0)))] (some [1,2,11,80])) (.cond (.t 80) (.seq (.ops false [oi 0 81 (.mv (.t
 11)),oi 1 82 (.call false 15 [(.c (.int .i64 24)),(.t 81)]),ou 2 (.st 2 (.t 2) (.t 82))] (some [2])) (.ret)) (.skip)))) (.seq (.ops false [oi 0 83 (.ldA 1 (.t 1)),oi 1 84 (.call false 113 [(.t 83)]),oi 2 12 (.mv (.t 84))] (some [1,2,12]))
 (.seq (.seq (.ops false [oi 0 85 (.fa 0 (.t 1)),oi 1 86 (.ld1 (.t 85)),oi 2 87 (.len false (.t 86)),oi 3 88 (.mv (.c (.int .i64 0)))] (some [2,12,86,87,88])) (.block 7 (.loop (.seq (.ops false [oi 0 89 (.bin .lss (.t 88) (.t 87))] (some
 [2,12,86,87,88,89])) (.seq (.cond (.t 89) (.skip) (.exit 7)) (.seq (.block 8 (.seq (.ops false [oi 0 90 (.mv (.t 88)),oi 1 91 (.ia 12 (.t 86) (.t 88)),oi 2 92 (.ldA 12 (.t 91)),oi 3 14 (.alloc [.str [],.int .i64 0,.nils,.int .i64 0,.bool
 false,.int .i64 0,.int .i64 0,.int .i64 0,.int .i64 0,.int .i64 0,.nils,.nils]),oi 4 13 (.mv (.t 90)),ou 5 (.st 12 (.t 14) (.t 92))] (some [2,12,13,14,86,87,88])) (.seq (.ops false [oi 0 93 (.ldA 12 (.t 14)),oi 1 94 (.mv (.t 12)),oi 2 95
 (.call false 152 [(.t 93),(.t 94)])] (some [2,12,13,86,87,88,95])) (.cond (.t 95) (.seq (.ops false [oi 0 96 (.mv (.t 13)),oi 1 97 (.call false 15 [(.c (.int .i64 23)),(.t 96)]),ou 2 (.st 2 (.t 2) (.t 97))] (some [2])) (.ret)) (.skip)))))
 (.ops false [oi 0 98 (.bin .add (.t 88) (.c (.int .i64 1))),oi 1 88 (.mv (.t 98))] (some [2,12,86,87,88])))))))) (.seq (.ops false [oi 0 99 (.build [.int .i64 0,.int .i64 0] []),ou 1 (.st 2 (.t 2) (.t 99))] (some [2])) (.ret)))))))))),[.cA
 2 2]⟩
theorem k110:compF Tryz.prog Tryz.f110 c110=some c110:=by kernel_rfl
/-- scriptorium/format.line -/
def c111:AFun:=⟨2,.seq (.ops false [oi 0 2 (.box (.t 0)),oi 1 3 (.box (.t 1)),oi 2 4 (.mv (.c (.str [])))] (some [2,3])) (.seq (.ops true [oi 9 5 (.alloc [.nils]),⟨0,some 15,.fa 0 (.t 3),none,[9]⟩,⟨1,some 16,.ld1 (.t
 15),none,[9]⟩,⟨2,some 17,.call false 45 [(.c (.str
 [108,105,116,101,114,97,108,32,110,117,109,98,101,114,32,100,101,99,105,109,97,108,32,98,121,116,101,115,32,117,110,116,105,108,32,99,111,117,110,116,101,100,32,115,101,113,117,101,110,99,101,32,99,104,111,105,99,101,32,114,101,112,101,97,116,32,98,108,111,98]))],none,[1,0,9]⟩,⟨3,some
 18,.fa 1 (.t 3),none,[2,9]⟩,⟨4,some 19,.ld1 (.t 18),none,[2,9]⟩,⟨5,some 20,.bin .sub (.t 19) (.c (.int .i64 1)),none,[2,9]⟩,⟨6,some 21,.ia 1 (.t 17) (.t 20),none,[9]⟩,⟨7,some 22,.ld1 (.t 21),none,[9]⟩,⟨8,some 23,.mkS 2 [.str [],.str []]
 [(0,1,(.t 16)),(1,1,(.t 22))],none,[9]⟩,ou 10 (.st 1 (.t 5) (.t 23))] (some [2,3,5])) (.seq (.ops false [oi 0 24 (.mkF 153 [] [(.t 5)]),oi 1 6 (.mv (.t 24))] (some [2,3,5,6])) (.seq (.ops false [oi 0 25 (.fa 1 (.t 3)),oi 1 26 (.ld1 (.t
 25)),oi 2 27 (.bin .eql (.t 26) (.c (.int .i64 2))),oi 3 7 (.mv (.t 27))] (some [2,3,5,6,7])) (.seq (.ops false [oi 0 8 (.mv (.c (.str [])))] (some [2,3,5,6,7,8])) (.seq (.seq (.ops false [oi 0 28 (.fa 2 (.t 3)),oi 1 29 (.ld1 (.t 28)),oi 2
 30 (.len false (.t 29)),oi 3 31 (.mv (.c (.int .i64 0)))] (some [2,3,5,6,7,8,29,30,31])) (.block 0 (.loop (.seq (.ops false [oi 0 32 (.bin .lss (.t 31) (.t 30))] (some [2,3,5,6,7,8,29,30,31,32])) (.seq (.cond (.t 32) (.skip) (.exit 0))
 (.seq (.block 1 (.seq (.ops false [oi 0 33 (.ia 1 (.t 29) (.t 31)),oi 1 34 (.ld1 (.t 33)),oi 2 10 (.mv (.t 34))] (some [2,3,5,6,7,8,10,29,30,31])) (.ops true [oi 0 35 (.mv (.t 8)),oi 1 36 (.mv (.t 10)),oi 2 37 (.bin .shr (.t 36) (.c (.int
 .u64 4))),oi 3 38 (.mv (.t 10)),oi 4 39 (.bin .shr (.t 38) (.c (.int .u64 4))),oi 5 40 (.bin .add (.t 39) (.c (.int .u8 1))),oi 6 41 (.slcS (.c (.str [48,49,50,51,52,53,54,55,56,57,97,98,99,100,101,102])) (some (.t 37)) (some (.t 40))),oi 7
 42 (.mv (.t 10)),oi 8 43 (.bin .and (.t 42) (.c (.int .u8 15))),oi 9 44 (.mv (.t 10)),oi 10 45 (.bin .and (.t 44) (.c (.int .u8 15))),oi 11 46 (.bin .add (.t 45) (.c (.int .u8 1))),oi 12 47 (.slcS (.c (.str
 [48,49,50,51,52,53,54,55,56,57,97,98,99,100,101,102])) (some (.t 43)) (some (.t 46))),oi 13 48 (.bin .add (.t 41) (.t 47)),oi 14 49 (.bin .add (.t 35) (.t 48)),oi 15 8 (.mv (.t 49))] (some [2,3,5,6,7,8,29,30,31])))) (.ops false [oi 0 50
 (.bin .add (.t 31) (.c (.int .i64 1))),oi 1 31 (.mv (.t 50))] (some [2,3,5,6,7,8,29,30,31])))))))) (.seq (.ops false [oi 0 11 (.mv (.c (.str [108,105,116,116,108,101])))] (some [2,3,5,6,7,8,11])) (.seq (.seq (.ops false [oi 0 51 (.fa 4 (.t
 3)),oi 1 52 (.ld1 (.t 51))] (some [2,3,5,6,7,8,11,52])) (.cond (.t 52) (.ops false [oi 0 11 (.mv (.c (.str [98,105,103])))] (some [2,3,5,6,7,8,11])) (.skip))) (.seq (.ops false [oi 0 53 (.mv (.t 6)),oi 1 54 (.fa 1 (.t 3)),oi 2 55 (.ld1 (.t
 54)),oi 3 56 (.bin .eql (.t 55) (.c (.int .i64 1))),oi 4 57 (.mv (.t 8)),oi 5 58 (.dyn (.t 53) [(.t 56),(.t 57)])] (some [2,3,5,6,7,11])) (.seq (.ops true [oi 0 59 (.mv (.t 6)),oi 1 60 (.ldA 12 (.t 3)),⟨2,some 61,.call false 47 [(.t
 60)],none,[0]⟩,⟨3,some 62,.fa 7 (.t 3),none,[2]⟩,⟨4,some 63,.ld1 (.t 62),none,[2]⟩,⟨5,some 64,.call false 107 [(.t 63)],none,[0]⟩,oi 6 65 (.dyn (.t 59) [(.t 61),(.t 64)])] (some [2,3,5,6,7,11])) (.seq (.ops true [oi 0 66 (.mv (.t 6)),oi 1
 67 (.ldA 12 (.t 3)),⟨2,some 68,.call false 49 [(.t 67)],none,[0]⟩,⟨3,some 69,.fa 3 (.t 3),none,[2]⟩,⟨4,some 70,.ld1 (.t 69),none,[2]⟩,⟨5,some 71,.call false 107 [(.t 70)],none,[0]⟩,oi 6 72 (.dyn (.t 66) [(.t 68),(.t 71)])] (some
 [2,3,5,6,7,11])) (.seq (.ops false [oi 0 73 (.mv (.t 6)),oi 1 74 (.mv (.t 7)),oi 2 75 (.mv (.t 11)),oi 3 76 (.dyn (.t 73) [(.t 74),(.t 75)])] (some [2,3,5,6,7])) (.seq (.ops false [oi 0 77 (.mv (.t 6)),oi 1 78 (.mv (.t 7)),oi 2 79 (.fa 5
 (.t 3)),oi 3 80 (.ld1 (.t 79)),oi 4 81 (.call false 107 [(.t 80)]),oi 5 82 (.dyn (.t 77) [(.t 78),(.t 81)])] (some [2,3,5,6])) (.seq (.ops true [oi 0 83 (.mv (.t 6)),oi 1 84 (.ldA 12 (.t 3)),⟨2,some 85,.call false 51 [(.t
 84)],none,[0]⟩,⟨3,some 86,.fa 6 (.t 3),none,[2]⟩,⟨4,some 87,.ld1 (.t 86),none,[2]⟩,⟨5,some 88,.call false 107 [(.t 87)],none,[0]⟩,oi 6 89 (.dyn (.t 83) [(.t 85),(.t 88)])] (some [2,3,5,6])) (.seq (.ops true [oi 0 90 (.mv (.t 6)),oi 1 91
 (.ldA 12 (.t 3)),⟨2,some 92,.call false 52 [(.t 91)],none,[0]⟩,⟨3,some 93,.fa 0 (.t 2),none,[2]⟩,⟨4,some 94,.ld1 (.t 93),none,[2]⟩,⟨5,some 95,.fa 8 (.t 3),none,[2]⟩,⟨6,some 96,.ld1 (.t 95),none,[2]⟩,⟨7,some 97,.ia 12 (.t 94) (.t
 96),none,[2]⟩,⟨8,some 98,.fa 0 (.t 97),none,[2]⟩,⟨9,some 99,.ld1 (.t 98),none,[2]⟩,oi 10 100 (.dyn (.t 90) [(.t 92),(.t 99)])] (some [2,3,5,6])) (.seq (.ops true [oi 0 101 (.mv (.t 6)),oi 1 102 (.ldA 12 (.t 3)),⟨2,some 103,.call false 54
 [(.t 102)],none,[0]⟩,⟨3,some 104,.fa 0 (.t 2),none,[2]⟩,⟨4,some 105,.ld1 (.t 104),none,[2]⟩,⟨5,some 106,.fa 9 (.t 3),none,[2]⟩,⟨6,some 107,.ld1 (.t 106),none,[2]⟩,⟨7,some 108,.ia 12 (.t 105) (.t 107),none,[2]⟩,⟨8,some 109,.fa 0 (.t
 108),none,[2]⟩,⟨9,some 110,.ld1 (.t 109),none,[2]⟩,oi 10 111 (.dyn (.t 101) [(.t 103),(.t 110)])] (some [2,3,5,6])) (.seq (.seq (.ops false [oi 0 112 (.fa 11 (.t 3)),oi 1 113 (.ld1 (.t 112)),oi 2 114 (.len false (.t 113)),oi 3 115 (.mv (.c
 (.int .i64 0)))] (some [2,3,5,6,113,114,115])) (.block 2 (.loop (.seq (.ops false [oi 0 116 (.bin .lss (.t 115) (.t 114))] (some [2,3,5,6,113,114,115,116])) (.seq (.cond (.t 116) (.skip) (.exit 2)) (.seq (.block 3 (.seq (.ops false [oi 0
 117 (.mv (.t 115)),oi 1 118 (.ia 1 (.t 113) (.t 115)),oi 2 119 (.ld1 (.t 118)),oi 3 12 (.mv (.t 117)),oi 4 13 (.mv (.t 119))] (some [2,3,5,6,12,13,113,114,115])) (.seq (.ops false [oi 0 14 (.mv (.c (.str [])))] (some
 [2,3,5,6,12,13,14,113,114,115])) (.seq (.seq (.ops false [oi 0 120 (.fa 1 (.t 3)),oi 1 121 (.ld1 (.t 120)),oi 2 122 (.bin .eql (.t 121) (.c (.int .i64 7)))] (some [2,3,5,6,12,13,14,113,114,115,122])) (.cond (.t 122) (.seq (.seq (.ops false
 [oi 0 123 (.fa 10 (.t 3)),oi 1 124 (.ld1 (.t 123)),oi 2 125 (.mv (.t 12)),oi 3 126 (.ia 1 (.t 124) (.t 125)),oi 4 127 (.ld1 (.t 126)),oi 5 14 (.mv (.t 127))] (some [2,3,5,6,13,14,113,114,115])) (.seq (.ops false [oi 0 128 (.mv (.t 14)),oi 1
 129 (.bin .eql (.t 128) (.c (.str [])))] (some [2,3,5,6,13,14,113,114,115,129])) (.cond (.t 129) (.ops false [oi 0 14 (.mv (.c (.str [45])))] (some [2,3,5,6,13,14,113,114,115])) (.skip)))) (.ops false [oi 0 130 (.mv (.t 14)),oi 1 131 (.bin
 .add (.t 130) (.c (.str [58]))),oi 2 14 (.mv (.t 131))] (some [2,3,5,6,13,14,113,114,115]))) (.skip))) (.ops false [oi 0 132 (.mv (.t 6)),oi 1 133 (.mv (.t 14)),oi 2 134 (.fa 0 (.t 2)),oi 3 135 (.ld1 (.t 134)),oi 4 136 (.mv (.t 13)),oi 5
 137 (.ia 12 (.t 135) (.t 136)),oi 6 138 (.fa 0 (.t 137)),oi 7 139 (.ld1 (.t 138)),oi 8 140 (.bin .add (.t 133) (.t 139)),oi 9 141 (.dyn (.t 132) [(.c (.bool true)),(.t 140)])] (some [2,3,5,6,113,114,115])))))) (.ops false [oi 0 142 (.bin
 .add (.t 115) (.c (.int .i64 1))),oi 1 115 (.mv (.t 142))] (some [2,3,5,6,113,114,115])))))))) (.seq (.ops false [oi 0 143 (.ld1 (.t 5)),oi 1 144 (.call false 154 [(.t 143),(.c (.str [32]))]),oi 2 145 (.bin .add (.t 144) (.c (.str
 [10]))),oi 3 4 (.mv (.t 145))] (some [4])) (.ret)))))))))))))))))),[.t 4]⟩
theorem k111:compF Tryz.prog Tryz.f111 c111=some c111:=by kernel_rfl
/-- scriptorium/format.checkNumber -/
def c112:AFun:=⟨2,.seq (.ops false [oi 0 2 (.box (.t 0)),oi 1 4 (.alloc [.int .i64 0,.int .i64 0])] (some [1,2,4])) (.seq (.seq (.ops false [oi 0 6 (.ldA 1 (.t 2)),oi 1 7 (.call false 19 [(.t 6)]),oi 2 5 (.alloc [.int .i64 0,.int .i64
 0]),ou 3 (.st 2 (.t 5) (.t 7))] (some [1,2,4,5])) (.seq (.ops false [oi 0 8 (.ldA 2 (.t 5)),oi 1 9 (.build [.int .i64 0,.int .i64 0] []),oi 2 10 (.eqA true 2 (.t 8) (.t 9))] (some [1,2,4,5,10])) (.cond (.t 10) (.seq (.ops false [oi 0 11
 (.ldA 2 (.t 5)),ou 1 (.st 2 (.t 4) (.t 11))] (some [4])) (.ret)) (.skip)))) (.seq (.seq (.ops false [oi 0 12 (.mv (.t 1)),oi 1 13 (.fa 0 (.t 2)),oi 2 14 (.ld1 (.t 13)),oi 3 15 (.len false (.t 14)),oi 4 16 (.bin .sub (.t 15) (.c (.int .i64
 1))),oi 5 17 (.call false 155 [(.t 12),(.c (.int .i64 0)),(.t 16)]),oi 6 18 (.un .not (.t 17))] (some [4,18])) (.cond (.t 18) (.seq (.ops false [oi 0 19 (.call false 15 [(.c (.int .i64 4)),(.c (.int .i64 (-2)))]),ou 1 (.st 2 (.t 4) (.t
 19))] (some [4])) (.ret)) (.skip))) (.seq (.ops false [oi 0 20 (.build [.int .i64 0,.int .i64 0] []),ou 1 (.st 2 (.t 4) (.t 20))] (some [4])) (.ret)))),[.cA 4 2]⟩
theorem k112:compF Tryz.prog Tryz.f112 c112=some c112:=by kernel_rfl
/-- scriptorium/format.firsts -/
def c113:AFun:=⟨1,.seq (.ops false [oi 0 1 (.box (.t 0)),oi 1 2 (.mv (.c .nils))] (some [1,63])) (.seq (.ops false [oi 0 3 (.mv (.c .nils))] (some [1,3,63])) (.seq (.seq (.ops false [oi 0 12 (.fa 0 (.t 1)),oi 1 13 (.ld1 (.t 12)),oi 2
 14 (.len false (.t 13)),oi 3 15 (.mv (.c (.int .i64 0)))] (some [1,3,13,14,15,63])) (.block 0 (.loop (.seq (.ops false [oi 0 16 (.bin .lss (.t 15) (.t 14))] (some [1,3,13,14,15,16,63])) (.seq (.cond (.t 16) (.skip) (.exit 0)) (.seq (.block
 1 (.seq (.ops false [oi 0 17 (.ia 12 (.t 13) (.t 15)),oi 1 18 (.ldA 12 (.t 17)),oi 2 5 (.alloc [.str [],.int .i64 0,.nils,.int .i64 0,.bool false,.int .i64 0,.int .i64 0,.int .i64 0,.int .i64 0,.int .i64 0,.nils,.nils]),ou 3 (.st 12 (.t 5)
 (.t 18))] (some [1,3,5,13,14,15,63])) (.ops false [oi 0 19 (.mv (.t 3)),oi 1 20 (.ldA 12 (.t 5)),oi 2 21 (.call false 156 [(.t 20)]),oi 3 22 (.mkS 1 (List.replicate 256 (.bool false)) [(0,256,(.t 21))]),oi 4 23 (.app true 256 256 (.t 19)
 (.t 22)),oi 5 3 (.mv (.t 23))] (some [1,3,13,14,15,63])))) (.ops false [oi 0 24 (.bin .add (.t 15) (.c (.int .i64 1))),oi 1 15 (.mv (.t 24))] (some [1,3,13,14,15,63])))))))) (.seq (.seq (.ops false [oi 0 25 (.fa 0 (.t 1)),oi 1 26 (.ld1 (.t
 25)),oi 2 27 (.len false (.t 26)),oi 3 28 (.mv (.c (.int .i64 0)))] (some [1,3,27,28,63])) (.block 2 (.loop (.seq (.ops false [oi 0 29 (.bin .lss (.t 28) (.t 27))] (some [1,3,27,28,29,63])) (.seq (.cond (.t 29) (.skip) (.exit 2)) (.seq
 (.block 3 (.seq (.ops false [oi 0 30 (.fa 0 (.t 1)),oi 1 31 (.ld1 (.t 30)),oi 2 32 (.len false (.t 31)),oi 3 33 (.mv (.c (.int .i64 0)))] (some [1,3,27,28,31,32,33,63])) (.block 4 (.loop (.seq (.ops false [oi 0 34 (.bin .lss (.t 33) (.t
 32))] (some [1,3,27,28,31,32,33,34,63])) (.seq (.cond (.t 34) (.skip) (.exit 4)) (.seq (.block 5 (.seq (.ops false [oi 0 35 (.mv (.t 33)),oi 1 36 (.ia 12 (.t 31) (.t 33)),oi 2 37 (.ldA 12 (.t 36)),oi 3 7 (.alloc [.str [],.int .i64
 0,.nils,.int .i64 0,.bool false,.int .i64 0,.int .i64 0,.int .i64 0,.int .i64 0,.int .i64 0,.nils,.nils]),oi 4 6 (.mv (.t 35)),ou 5 (.st 12 (.t 7) (.t 37))] (some [1,3,6,7,27,28,31,32,33,63])) (.seq (.ops false [oi 0 38 (.ldA 12 (.t 7)),oi
 1 39 (.call false 157 [(.t 38)]),oi 2 40 (.len false (.t 39)),oi 3 41 (.mv (.c (.int .i64 0)))] (some [1,3,6,27,28,31,32,33,39,40,41,63])) (.block 6 (.loop (.seq (.ops false [oi 0 42 (.bin .lss (.t 41) (.t 40))] (some
 [1,3,6,27,28,31,32,33,39,40,41,42,63])) (.seq (.cond (.t 42) (.skip) (.exit 6)) (.seq (.block 7 (.seq (.ops false [oi 0 43 (.ia 1 (.t 39) (.t 41)),oi 1 44 (.ld1 (.t 43)),oi 2 9 (.mv (.t 44))] (some [1,3,6,9,27,28,31,32,33,39,40,41,63]))
 (.seq (.ops false [oi 0 45 (.mv (.t 3)),oi 1 46 (.mv (.t 9)),oi 2 47 (.ia 256 (.t 45) (.t 46)),oi 3 48 (.ldA 256 (.t 47)),oi 4 49 (.mv (.c (.int .i64 0)))] (some [1,3,6,27,28,31,32,33,39,40,41,48,49,63])) (.acc 1 (.block 8 (.loop (.seq
 (.ops false [oi 0 50 (.bin .lss (.t 49) (.c (.int .i64 256)))] (some [1,3,6,27,28,31,32,33,39,40,41,48,49,50,63])) (.seq (.cond (.t 50) (.skip) (.exit 8)) (.seq (.block 9 (.seq (.ops false [oi 0 51 (.mv (.t 49)),oi 1 52 (.ixA 256 (.t 48)
 (.t 49)),oi 2 10 (.mv (.t 51)),oi 3 11 (.mv (.t 52))] (some [1,3,6,10,11,27,28,31,32,33,39,40,41,48,49,63])) (.ops true [oi 0 53 (.mv (.t 3)),oi 1 54 (.mv (.t 6)),oi 2 55 (.mv (.t 10)),oi 3 56 (.mv (.t 3)),oi 4 57 (.mv (.t 6)),oi 5 58 (.mv
 (.t 10)),oi 6 59 (.ia 256 (.t 56) (.t 57)),oi 7 60 (.iaA 256 1 (.t 59) (.t 58)),oi 8 61 (.ld1 (.t 60)),oi 9 62 (.mv (.t 61)),⟨10,some 63,.mv (.t 11),(some (some 62,false)),[]⟩,oi 11 64 (.pick (.t 62) (.c (.bool true)) (.t 63)),oi 12 65 (.ia
 256 (.t 53) (.t 54)),oi 13 66 (.iaA 256 1 (.t 65) (.t 55)),ou 14 (.st 1 (.t 66) (.t 64))] (some [1,3,6,27,28,31,32,33,39,40,41,48,49,63])))) (.ops false [oi 0 67 (.bin .add (.t 49) (.c (.int .i64 1))),oi 1 49 (.mv (.t 67))] (some
 [1,3,6,27,28,31,32,33,39,40,41,48,49,63]))))))))))) (.ops false [oi 0 68 (.bin .add (.t 41) (.c (.int .i64 1))),oi 1 41 (.mv (.t 68))] (some [1,3,6,27,28,31,32,33,39,40,41,63])))))))))) (.ops false [oi 0 69 (.bin .add (.t 33) (.c (.int .i64
 1))),oi 1 33 (.mv (.t 69))] (some [1,3,27,28,31,32,33,63]))))))))) (.ops false [oi 0 70 (.bin .add (.t 28) (.c (.int .i64 1))),oi 1 28 (.mv (.t 70))] (some [1,3,27,28,63])))))))) (.seq (.ops false [oi 0 71 (.mv (.t 3)),oi 1 2 (.mv (.t 71))]
 (some [2])) (.ret))))),[.t 2]⟩
theorem k113:compF Tryz.prog Tryz.f113 c113=some c113:=by kernel_rfl
/-- (*scriptorium/formatio.reader).decimal -/
def c114:AFun:=⟨2,.seq (.ops false [oi 0 3 (.box (.t 1)),oi 1 4 (.mv (.c (.int .i64 0)))] (some [0,3])) (.seq (.ops true [oi 0 9 (.mv (.t 0)),oi 1 10 (.nilck (.t 9)),oi 2 11 (.fa 3 (.t 10)),oi 3 12 (.ld1 (.t 11)),oi 4 5 (.mv (.c (.int
 .i64 0))),oi 5 6 (.mv (.t 12))] (some [0,3,5,6])) (.block 0 (.loop (.block 1 (.seq (.ops false [oi 0 13 (.mv (.t 0)),oi 1 14 (.call false 67 [(.t 13)]),oi 2 7 (.mv (.t 14))] (some [0,3,5,6,7])) (.seq (.ops false [oi 0 15 (.mv (.t 7)),oi 1
 16 (.bin .geq (.t 15) (.c (.int .u8 48))),oi 2 17 (.mv (.t 16)),⟨3,some 18,.mv (.t 7),(some (some 17,true)),[]⟩,⟨4,some 19,.bin .leq (.t 18) (.c (.int .u8 57)),(some (some 17,true)),[]⟩,oi 5 20 (.pick (.t 17) (.t 19) (.c (.bool false))),oi
 6 8 (.mv (.t 20))] (some [0,3,5,6,7,8])) (.seq (.block 2 (.seq (.ops false [oi 0 22 (.mv (.t 7)),oi 1 23 (.cvi .i64 (.t 22)),oi 2 24 (.fa 7 (.t 3)),oi 3 25 (.ld1 (.t 24)),oi 4 26 (.bin .eql (.t 23) (.t 25)),oi 5 27 (.mv (.t 26)),⟨6,some
 28,.mv (.t 0),(some (some 27,true)),[]⟩,⟨7,some 29,.nilck (.t 28),(some (some 27,true)),[]⟩,⟨8,some 30,.fa 3 (.t 29),(some (some 27,true)),[]⟩,⟨9,some 31,.ld1 (.t 30),(some (some 27,true)),[]⟩,⟨10,some 32,.mv (.t 6),(some (some
 27,true)),[]⟩,⟨11,some 33,.bin .gtr (.t 31) (.t 32),(some (some 27,true)),[]⟩,oi 12 34 (.pick (.t 27) (.t 33) (.c (.bool false))),oi 13 21 (.mv (.t 34))] (some [0,3,5,6,7,8,21])) (.cond (.t 21) (.seq (.ops false [oi 0 35 (.mv (.t 0)),oi 1
 36 (.nilck (.t 35)),oi 2 37 (.fa 3 (.t 36)),oi 3 38 (.ld1 (.t 37)),oi 4 39 (.bin .add (.t 38) (.c (.int .i64 1))),oi 5 40 (.nilck (.t 35)),oi 6 41 (.fa 3 (.t 40)),ou 7 (.st 1 (.t 41) (.t 39))] (some [5])) (.seq (.ops false [oi 0 42 (.mv (.t
 5)),oi 1 4 (.mv (.t 42))] (some [4])) (.ret))) (.seq (.seq (.ops false [oi 0 44 (.mv (.t 8)),oi 1 45 (.un .not (.t 44)),oi 2 43 (.mv (.t 45))] (some [0,3,5,6,7,43])) (.cond (.t 43) (.skip) (.seq (.ops false [oi 0 46 (.mv (.t 0)),oi 1 47
 (.nilck (.t 46)),oi 2 48 (.fa 3 (.t 47)),oi 3 49 (.ld1 (.t 48)),oi 4 50 (.mv (.t 6)),oi 5 51 (.bin .gtr (.t 49) (.t 50)),oi 6 52 (.mv (.t 51)),⟨7,some 53,.mv (.t 5),(some (some 52,true)),[]⟩,⟨8,some 54,.bin .eql (.t 53) (.c (.int .i64
 0)),(some (some 52,true)),[]⟩,oi 9 55 (.pick (.t 52) (.t 54) (.c (.bool false))),oi 10 43 (.mv (.t 55))] (some [0,3,5,6,7,43])) (.cond (.t 43) (.skip) (.ops false [oi 0 56 (.mv (.t 5)),oi 1 57 (.bin .mul (.c (.int .i64 10)) (.t 56)),oi 2 58
 (.mv (.t 7)),oi 3 59 (.bin .sub (.t 58) (.c (.int .u8 48))),oi 4 60 (.cvi .i64 (.t 59)),oi 5 61 (.bin .add (.t 57) (.t 60)),oi 6 62 (.fa 6 (.t 3)),oi 7 63 (.ld1 (.t 62)),oi 8 64 (.bin .gtr (.t 61) (.t 63)),oi 9 43 (.mv (.t 64))] (some
 [0,3,5,6,7,43])))))) (.cond (.t 43) (.ops false [oi 0 65 (.mv (.t 0)),oi 1 66 (.nilck (.t 65)),oi 2 67 (.fa 3 (.t 66)),oi 3 68 (.ld1 (.t 67)),oi 4 69 (.call false 24 [(.t 68)])] (some [0,3,5,6,7])) (.skip)))))) (.seq (.ops false [oi 0 70
 (.mv (.t 5)),oi 1 71 (.bin .mul (.c (.int .i64 10)) (.t 70)),oi 2 72 (.mv (.t 7)),oi 3 73 (.bin .sub (.t 72) (.c (.int .u8 48))),oi 4 74 (.cvi .i64 (.t 73)),oi 5 75 (.bin .add (.t 71) (.t 74)),oi 6 5 (.mv (.t 75))] (some [0,3,5,6])) (.ops
 false [oi 0 76 (.mv (.t 0)),oi 1 77 (.nilck (.t 76)),oi 2 78 (.fa 3 (.t 77)),oi 3 79 (.ld1 (.t 78)),oi 4 80 (.bin .add (.t 79) (.c (.int .i64 1))),oi 5 81 (.nilck (.t 76)),oi 6 82 (.fa 3 (.t 81)),ou 7 (.st 1 (.t 82) (.t 80))] (some
 [0,3,5,6])))))))))),[.t 4]⟩
theorem k114:compF Tryz.prog Tryz.f114 c114=some c114:=by kernel_rfl
/-- slices.Index[[]int,int] -/
def c115:AFun:=⟨2,code115,[.t 4]⟩
theorem k115:compF Tryz.prog Tryz.f115 c115=some c115:=by kernel_rfl
/-- scriptorium/value.check -/
def c116:AFun:=⟨3,code116,[.t 6,.cA 7 2]⟩
theorem k116:compF Tryz.prog Tryz.f116 c116=some c116:=by kernel_rfl
/-- scriptorium/value.encode -/
def c117:AFun:=⟨1,code117,[.t 2]⟩
theorem k117:compF Tryz.prog Tryz.f117 c117=some c117:=by kernel_rfl
/-- slices.Grow[[]byte,byte] -/
def c118:AFun:=⟨2,code118,[.t 4]⟩
theorem k118:compF Tryz.prog Tryz.f118 c118=some c118:=by kernel_rfl
/-- (*scriptorium/formatio.writer).fits$1 -/
def c119:AFun:=⟨3,code119,[.t 4]⟩
theorem k119:compF Tryz.prog Tryz.f119 c119=some c119:=by kernel_rfl
/-- scriptorium/formatio.countable -/
def c120:AFun:=⟨2,code120,[.t 4]⟩
theorem k120:compF Tryz.prog Tryz.f120 c120=some c120:=by kernel_rfl
/-- slices.Contains[[]byte,byte] -/
def c121:AFun:=⟨2,.seq (.ops false [oi 0 4 (.mv (.c (.bool false)))] (some [0,1])) (.seq (.ops false [oi 0 5 (.mv (.t 0)),oi 1 6 (.mv (.t 1)),oi 2 7 (.call false 159 [(.t 5),(.t 6)]),oi 3 8 (.bin .geq (.t 7) (.c (.int .i64 0))),oi 4 4
 (.mv (.t 8))] (some [4])) (.ret)),[.t 4]⟩
theorem k121:compF Tryz.prog Tryz.f121 c121=some c121:=by kernel_rfl
/-- slices.DeleteFunc[[]string,string] -/
def c122:AFun:=⟨2,code122,[.t 4]⟩
theorem k122:compF Tryz.prog Tryz.f122 c122=some c122:=by kernel_rfl
/-- (*scriptorium/formatio.writer).fits$2 -/
def c123:AFun:=⟨1,code123,[.t 2]⟩
theorem k123:compF Tryz.prog Tryz.f123 c123=some c123:=by kernel_rfl
/-- slices.Equal[[]string,string] -/
def c124:AFun:=⟨2,code124,[.t 4]⟩
theorem k124:compF Tryz.prog Tryz.f124 c124=some c124:=by kernel_rfl
/-- strings.IndexFunc -/
def c125:AFun:=⟨2,.seq (.ops false [oi 0 4 (.mv (.c (.int .i64 0)))] (some [0,1])) (.seq (.ops false [oi 0 5 (.mv (.t 0)),oi 1 6 (.mv (.t 1)),oi 2 7 (.call false 161 [(.t 5),(.t 6),(.c (.bool true))]),oi 3 4 (.mv (.t 7))] (some [4]))
 (.ret)),[.t 4]⟩
theorem k125:compF Tryz.prog Tryz.f125 c125=some c125:=by kernel_rfl
/-- strings.IndexRune -/
def c126:AFun:=⟨2,.seq (.ops false [oi 0 4 (.mv (.c (.int .i64 0)))] (some
 [0,1,2,3,4,5,6,7,8,9,10,11,12,13,14,15,16,17,18,19,20,21,22,23,24,25,26,27,28,29,30,31,32,33,34,35,36,37,38,39,40,41,42,43,44,45,46,47,48,49,50,51,52,53,54,55,56,57,58,59,60,61,62,63,64,65,66,67,68,69,70,71,72,73,74,75,76,77,78,79,80,81,82,83,84,85,86,87,88,89,90,91,92,93,94,95,96,97,98,99,100,101,102,103,104,105,106,107,108,109,110,111,112,113,114,115,116,117,118,119,120,121,122,123,124,125,126,127,128,129,130,131,132,133,134,135,136,137,138,139,140,141,142,143,144,145,146,147,148,149,150,151,152,153,154,155,156,157,158,159,167,168,169,170,174,175,176,177,178,179,180,181,182]))
 (.block 0 (.seq (.ops false [oi 0 161 (.mv (.t 1)),oi 1 162 (.bin .leq (.c (.int .i32 0)) (.t 161)),oi 2 163 (.mv (.t 162)),⟨3,some 164,.mv (.t 1),(some (some 163,true)),[]⟩,⟨4,some 165,.bin .lss (.t 164) (.c (.int .i32 128)),(some (some
 163,true)),[]⟩,oi 5 166 (.pick (.t 163) (.t 165) (.c (.bool false))),oi 6 160 (.mv (.t 166))] (some
 [0,1,2,3,4,5,6,7,8,9,10,11,12,13,14,15,16,17,18,19,20,21,22,23,24,25,26,27,28,29,30,31,32,33,34,35,36,37,38,39,40,41,42,43,44,45,46,47,48,49,50,51,52,53,54,55,56,57,58,59,60,61,62,63,64,65,66,67,68,69,70,71,72,73,74,75,76,77,78,79,80,81,82,83,84,85,86,87,88,89,90,91,92,93,94,95,96,97,98,99,100,101,102,103,104,105,106,107,108,109,110,111,112,113,114,115,116,117,118,119,120,121,122,123,124,125,126,127,128,129,130,131,132,133,134,135,136,137,138,139,140,141,142,143,144,145,146,147,148,149,150,151,152,153,154,155,156,157,158,159,160,161,162,163,164,165,166,167,168,169,170,174,175,176,177,178,179,180,181,182]))
 (.cond (.t 160) (.seq (.ops false [oi 0 167 (.mv (.t 0)),oi 1 168 (.mv (.t 1)),oi 2 169 (.cvi .u8 (.t 168)),oi 3 170 (.call false 104 [(.t 167),(.t 169)]),oi 4 4 (.mv (.t 170))] (some [4])) (.ret)) (.seq (.ops false [oi 0 172 (.mv (.t
 1)),oi 1 173 (.bin .eql (.t 172) (.c (.int .i32 65533))),oi 2 171 (.mv (.t 173))] (some
 [0,1,2,3,4,5,6,7,8,9,10,11,12,13,14,15,16,17,18,19,20,21,22,23,24,25,26,27,28,29,30,31,32,33,34,35,36,37,38,39,40,41,42,43,44,45,46,47,48,49,50,51,52,53,54,55,56,57,58,59,60,61,62,63,64,65,66,67,68,69,70,71,72,73,74,75,76,77,78,79,80,81,82,83,84,85,86,87,88,89,90,91,92,93,94,95,96,97,98,99,100,101,102,103,104,105,106,107,108,109,110,111,112,113,114,115,116,117,118,119,120,121,122,123,124,125,126,127,128,129,130,131,132,133,134,135,136,137,138,139,140,141,142,143,144,145,146,147,148,149,150,151,152,153,154,155,156,157,158,159,160,161,162,163,164,165,166,167,168,169,170,171,172,173,174,175,176,177,178,179,180,181,182]))
 (.cond (.t 171) (.seq (.seq (.ops false [oi 0 174 (.mv (.t 0)),oi 1 175 (.rng (.t 174))] (some [175])) (.block 9 (.loop (.seq (.ops false [oi 0 176 (.nxt (.t 175)),oi 1 177 (.ext 0 (.t 176))] (some [175,176,177])) (.seq (.cond (.t 177)
 (.skip) (.exit 9)) (.block 10 (.seq (.ops false [oi 0 178 (.ext 1 (.t 176)),oi 1 179 (.ext 2 (.t 176)),oi 2 5 (.mv (.t 178)),oi 3 6 (.mv (.t 179))] (some [5,6,175])) (.seq (.ops false [oi 0 180 (.mv (.t 6)),oi 1 181 (.bin .eql (.t 180) (.c
 (.int .i32 65533)))] (some [5,175,181])) (.cond (.t 181) (.seq (.ops false [oi 0 182 (.mv (.t 5)),oi 1 4 (.mv (.t 182))] (some [4])) (.ret)) (.skip)))))))))) (.seq (.ops false [oi 0 4 (.mv (.c (.int .i64 (-1))))] (some [4])) (.ret))) (.seq
 (.ops false [oi 0 184 (.mv (.t 1)),oi 1 185 (.call false 162 [(.t 184)]),oi 2 186 (.un .not (.t 185)),oi 3 183 (.mv (.t 186))] (some
 [0,1,2,3,4,5,6,7,8,9,10,11,12,13,14,15,16,17,18,19,20,21,22,23,24,25,26,27,28,29,30,31,32,33,34,35,36,37,38,39,40,41,42,43,44,45,46,47,48,49,50,51,52,53,54,55,56,57,58,59,60,61,62,63,64,65,66,67,68,69,70,71,72,73,74,75,76,77,78,79,80,81,82,83,84,85,86,87,88,89,90,91,92,93,94,95,96,97,98,99,100,101,102,103,104,105,106,107,108,109,110,111,112,113,114,115,116,117,118,119,120,121,122,123,124,125,126,127,128,129,130,131,132,133,134,135,136,137,138,139,140,141,142,143,144,145,146,147,148,149,150,151,152,153,154,155,156,157,158,159,160,161,162,163,164,165,166,167,168,169,170,171,172,173,174,175,176,177,178,179,180,181,182,183,184,185,186]))
 (.cond (.t 183) (.seq (.ops false [oi 0 4 (.mv (.c (.int .i64 (-1))))] (some [4])) (.ret)) (.stop)))))))),[.t 4]⟩
theorem k126:compF Tryz.prog Tryz.f126 c126=some c126:=by kernel_rfl
/-- slices.Clone[[]int,int] -/
def c127:AFun:=⟨1,code127,[.t 2]⟩
theorem k127:compF Tryz.prog Tryz.f127 c127=some c127:=by kernel_rfl
/-- bytes.HasPrefix -/
def c128:AFun:=⟨2,code128,[.t 4]⟩
theorem k128:compF Tryz.prog Tryz.f128 c128=some c128:=by kernel_rfl
/-- internal/stringslite.IndexByte -/
def c136:AFun:=⟨2,.seq (.ops false [oi 0 4 (.mv (.c (.int .i64 0)))] (some [0,1])) (.seq (.ops false [oi 0 5 (.mv (.t 0)),oi 1 6 (.mv (.t 1)),oi 2 7 (.call false 171 [(.t 5),(.t 6)]),oi 3 4 (.mv (.t 7))] (some [4])) (.ret)),[.t 4]⟩
theorem k136:compF Tryz.prog Tryz.f136 c136=some c136:=by kernel_rfl
/-- internal/bytealg.Cutover -/
def c138:AFun:=⟨1,.seq (.ops false [oi 0 2 (.mv (.c (.int .i64 0)))] (some [0])) (.seq (.ops false [oi 0 3 (.mv (.t 0)),oi 1 4 (.bin .add (.t 3) (.c (.int .i64 16))),oi 2 5 (.bin .quo (.t 4) (.c (.int .i64 8))),oi 3 2 (.mv (.t 5))]
 (some [2])) (.ret)),[.t 2]⟩
theorem k138:compF Tryz.prog Tryz.f138 c138=some c138:=by kernel_rfl
/-- strings.explode -/
def c140:AFun:=⟨2,.seq (.ops false [oi 0 4 (.mv (.c .nils))] (some [0,1])) (.seq (.ops false [oi 0 10 (.mv (.t 0)),oi 1 11 (.call false 173 [(.t 10)]),oi 2 5 (.mv (.t 11))] (some [0,1,5])) (.seq (.seq (.ops false [oi 0 12 (.mv (.t
 1)),oi 1 13 (.bin .lss (.t 12) (.c (.int .i64 0))),oi 2 14 (.mv (.t 13)),⟨3,some 15,.mv (.t 1),(some (some 14,false)),[]⟩,⟨4,some 16,.mv (.t 5),(some (some 14,false)),[]⟩,⟨5,some 17,.bin .gtr (.t 15) (.t 16),(some (some 14,false)),[]⟩,oi 6
 18 (.pick (.t 14) (.c (.bool true)) (.t 17))] (some [0,1,5,18])) (.cond (.t 18) (.ops false [oi 0 19 (.mv (.t 5)),oi 1 1 (.mv (.t 19))] (some [0,1])) (.skip))) (.seq (.ops false [oi 0 20 (.mv (.t 1)),oi 1 21 (.mkM 1 16 [.str []] (.t 20) (.t
 20)),oi 2 6 (.mv (.t 21))] (some [0,1,6])) (.seq (.seq (.ops false [oi 0 7 (.mv (.c (.int .i64 0)))] (some [0,1,6,7])) (.block 0 (.loop (.seq (.seq (.ops false [oi 0 22 (.mv (.t 7)),oi 1 23 (.mv (.t 1)),oi 2 24 (.bin .sub (.t 23) (.c (.int
 .i64 1))),oi 3 25 (.bin .lss (.t 22) (.t 24))] (some [0,1,6,7,25])) (.cond (.t 25) (.skip) (.exit 0))) (.seq (.block 1 (.seq (.ops false [oi 0 29 (.mv (.t 0)),oi 1 30 (.call false 174 [(.t 29)]),oi 2 28 (.mv (.t 30)),oi 3 31 (.ext 0 (.t
 28)),oi 4 32 (.ext 1 (.t 28)),oi 5 8 (.mv (.t 31)),oi 6 9 (.mv (.t 32))] (some [0,1,6,7,9])) (.seq (.ops false [oi 0 33 (.mv (.t 6)),oi 1 34 (.mv (.t 7)),oi 2 35 (.mv (.t 0)),oi 3 36 (.mv (.t 9)),oi 4 37 (.slcS (.t 35) none (some (.t
 36))),oi 5 38 (.ia 1 (.t 33) (.t 34)),ou 6 (.st 1 (.t 38) (.t 37))] (some [0,1,6,7,9])) (.ops false [oi 0 39 (.mv (.t 0)),oi 1 40 (.mv (.t 9)),oi 2 41 (.slcS (.t 39) (some (.t 40)) none),oi 3 0 (.mv (.t 41))] (some [0,1,6,7]))))) (.ops
 false [oi 0 26 (.mv (.t 7)),oi 1 27 (.bin .add (.t 26) (.c (.int .i64 1))),oi 2 7 (.mv (.t 27))] (some [0,1,6,7]))))))) (.seq (.seq (.ops false [oi 0 42 (.mv (.t 1)),oi 1 43 (.bin .gtr (.t 42) (.c (.int .i64 0)))] (some [0,1,6,43])) (.cond
 (.t 43) (.ops false [oi 0 44 (.mv (.t 6)),oi 1 45 (.mv (.t 1)),oi 2 46 (.bin .sub (.t 45) (.c (.int .i64 1))),oi 3 47 (.mv (.t 0)),oi 4 48 (.ia 1 (.t 44) (.t 46)),ou 5 (.st 1 (.t 48) (.t 47))] (some [6])) (.skip))) (.seq (.ops false [oi 0
 49 (.mv (.t 6)),oi 1 4 (.mv (.t 49))] (some [4])) (.ret))))))),[.t 4]⟩
theorem k140:compF Tryz.prog Tryz.f140 c140=some c140:=by kernel_rfl
/-- strings.Count -/
def c141:AFun:=⟨2,.seq (.ops false [oi 0 4 (.mv (.c (.int .i64 0)))] (some [0,1])) (.seq (.seq (.ops false [oi 0 7 (.mv (.t 1)),oi 1 8 (.len true (.t 7)),oi 2 9 (.bin .eql (.t 8) (.c (.int .i64 0)))] (some [0,1,9])) (.cond (.t 9) (.seq
 (.ops false [oi 0 10 (.mv (.t 0)),oi 1 11 (.call false 173 [(.t 10)]),oi 2 12 (.bin .add (.t 11) (.c (.int .i64 1))),oi 3 4 (.mv (.t 12))] (some [4])) (.ret)) (.skip))) (.seq (.seq (.ops false [oi 0 13 (.mv (.t 1)),oi 1 14 (.len true (.t
 13)),oi 2 15 (.bin .eql (.t 14) (.c (.int .i64 1)))] (some [0,1,15])) (.cond (.t 15) (.seq (.ops false [oi 0 16 (.mv (.t 0)),oi 1 17 (.mv (.t 1)),oi 2 18 (.ixS (.t 17) (.c (.int .i64 0))),oi 3 19 (.call false 175 [(.t 16),(.t 18)]),oi 4 4
 (.mv (.t 19))] (some [4])) (.ret)) (.skip))) (.seq (.ops false [oi 0 5 (.mv (.c (.int .i64 0)))] (some [0,1,5])) (.block 0 (.loop (.block 1 (.seq (.ops false [oi 0 20 (.mv (.t 0)),oi 1 21 (.mv (.t 1)),oi 2 22 (.call false 142 [(.t 20),(.t
 21)]),oi 3 6 (.mv (.t 22))] (some [0,1,5,6])) (.seq (.seq (.ops false [oi 0 23 (.mv (.t 6)),oi 1 24 (.bin .eql (.t 23) (.c (.int .i64 (-1))))] (some [0,1,5,6,24])) (.cond (.t 24) (.seq (.ops false [oi 0 25 (.mv (.t 5)),oi 1 4 (.mv (.t 25))]
 (some [4])) (.ret)) (.skip))) (.seq (.ops false [oi 0 26 (.mv (.t 5)),oi 1 27 (.bin .add (.t 26) (.c (.int .i64 1))),oi 2 5 (.mv (.t 27))] (some [0,1,5,6])) (.ops false [oi 0 28 (.mv (.t 0)),oi 1 29 (.mv (.t 6)),oi 2 30 (.mv (.t 1)),oi 3 31
 (.len true (.t 30)),oi 4 32 (.bin .add (.t 29) (.t 31)),oi 5 33 (.slcS (.t 28) (some (.t 32)) none),oi 6 0 (.mv (.t 33))] (some [0,1,5]))))))))))),[.t 4]⟩
theorem k141:compF Tryz.prog Tryz.f141 c141=some c141:=by kernel_rfl
/-- strings.Index -/
def c142:AFun:=⟨2,.seq (.ops false [oi 0 4 (.mv (.c (.int .i64 0)))] (some [0,1])) (.seq (.ops false [oi 0 5 (.mv (.t 0)),oi 1 6 (.mv (.t 1)),oi 2 7 (.call false 100 [(.t 5),(.t 6)]),oi 3 4 (.mv (.t 7))] (some [4])) (.ret)),[.t 4]⟩
theorem k142:compF Tryz.prog Tryz.f142 c142=some c142:=by kernel_rfl
/-- internal/strconv.Atoi -/
def c144:AFun:=⟨1,.seq (.ops false [oi 0 2 (.mv (.c (.int .i64 0))),oi 1 3 (.mv (.c .nili))] (some [0])) (.seq (.ops false [oi 0 11 (.mv (.t 0)),oi 1 12 (.len true (.t 11)),oi 2 4 (.mv (.t 12))] (some [0,4])) (.seq (.seq (.ops false
 [oi 0 13 (.mv (.c (.bool false))),⟨1,some 14,.mv (.t 4),(some (some 13,true)),[]⟩,⟨2,some 15,.bin .lss (.c (.int .i64 0)) (.t 14),(some (some 13,true)),[]⟩,⟨3,some 16,.mv (.t 15),(some (some 13,true)),[]⟩,⟨4,some 17,.mv (.t 4),(some (some
 16,true)),[]⟩,⟨5,some 18,.bin .lss (.t 17) (.c (.int .i64 10)),(some (some 16,true)),[]⟩,⟨6,some 19,.pick (.t 16) (.t 18) (.c (.bool false)),(some (some 13,true)),[]⟩,oi 7 20 (.pick (.t 13) (.t 19) (.c (.bool false))),oi 8 21 (.mv (.t
 20)),⟨9,some 22,.mv (.c (.bool true)),(some (some 21,false)),[]⟩,⟨10,some 23,.mv (.t 4),(some (some 22,true)),[]⟩,⟨11,some 24,.bin .lss (.c (.int .i64 0)) (.t 23),(some (some 22,true)),[]⟩,⟨12,some 25,.mv (.t 24),(some (some
 22,true)),[]⟩,⟨13,some 26,.mv (.t 4),(some (some 25,true)),[]⟩,⟨14,some 27,.bin .lss (.t 26) (.c (.int .i64 19)),(some (some 25,true)),[]⟩,⟨15,some 28,.pick (.t 25) (.t 27) (.c (.bool false)),(some (some 22,true)),[]⟩,⟨16,some 29,.pick (.t
 22) (.t 28) (.c (.bool false)),(some (some 21,false)),[]⟩,oi 17 30 (.pick (.t 21) (.c (.bool true)) (.t 29))] (some [0,30])) (.cond (.t 30) (.seq (.ops false [oi 0 31 (.mv (.t 0)),oi 1 5 (.mv (.t 31))] (some [0,5])) (.seq (.seq (.ops false
 [oi 0 32 (.mv (.t 0)),oi 1 33 (.ixS (.t 32) (.c (.int .i64 0))),oi 2 34 (.bin .eql (.t 33) (.c (.int .u8 45))),oi 3 35 (.mv (.t 34)),⟨4,some 36,.mv (.t 0),(some (some 35,false)),[]⟩,⟨5,some 37,.ixS (.t 36) (.c (.int .i64 0)),(some (some
 35,false)),[]⟩,⟨6,some 38,.bin .eql (.t 37) (.c (.int .u8 43)),(some (some 35,false)),[]⟩,oi 7 39 (.pick (.t 35) (.c (.bool true)) (.t 38))] (some [0,5,39])) (.cond (.t 39) (.seq (.ops false [oi 0 40 (.mv (.t 0)),oi 1 41 (.slcS (.t 40)
 (some (.c (.int .i64 1))) none),oi 2 0 (.mv (.t 41))] (some [0,5])) (.seq (.ops false [oi 0 42 (.mv (.t 0)),oi 1 43 (.len true (.t 42)),oi 2 44 (.bin .lss (.t 43) (.c (.int .i64 1)))] (some [0,5,44])) (.cond (.t 44) (.seq (.ops false [oi 0
 45 (.mkI 233 (.c (.int .i64 2))),oi 1 2 (.mv (.c (.int .i64 0))),oi 2 3 (.mv (.t 45))] (some [2,3])) (.ret)) (.skip)))) (.skip))) (.seq (.ops false [oi 0 6 (.mv (.c (.int .i64 0)))] (some [0,5,6])) (.seq (.seq (.ops false [oi 0 46 (.mv (.t
 0)),oi 1 47 (.s2b (.t 46)),oi 2 48 (.len false (.t 47)),oi 3 49 (.mv (.c (.int .i64 0)))] (some [5,6,47,48,49])) (.block 0 (.loop (.seq (.ops false [oi 0 50 (.bin .lss (.t 49) (.t 48))] (some [5,6,47,48,49,50])) (.seq (.cond (.t 50) (.skip)
 (.exit 0)) (.seq (.block 1 (.seq (.ops false [oi 0 51 (.ia 1 (.t 47) (.t 49)),oi 1 52 (.ld1 (.t 51)),oi 2 8 (.mv (.t 52))] (some [5,6,8,47,48,49])) (.seq (.ops false [oi 0 53 (.mv (.t 8)),oi 1 54 (.bin .sub (.t 53) (.c (.int .u8 48))),oi 2
 8 (.mv (.t 54))] (some [5,6,8,47,48,49])) (.seq (.seq (.ops false [oi 0 55 (.mv (.t 8)),oi 1 56 (.bin .gtr (.t 55) (.c (.int .u8 9)))] (some [5,6,8,47,48,49,56])) (.cond (.t 56) (.seq (.ops false [oi 0 57 (.mkI 233 (.c (.int .i64 2))),oi 1
 2 (.mv (.c (.int .i64 0))),oi 2 3 (.mv (.t 57))] (some [2,3])) (.ret)) (.skip))) (.ops false [oi 0 58 (.mv (.t 6)),oi 1 59 (.bin .mul (.t 58) (.c (.int .i64 10))),oi 2 60 (.mv (.t 8)),oi 3 61 (.cvi .i64 (.t 60)),oi 4 62 (.bin .add (.t 59)
 (.t 61)),oi 5 6 (.mv (.t 62))] (some [5,6,47,48,49])))))) (.ops false [oi 0 63 (.bin .add (.t 49) (.c (.int .i64 1))),oi 1 49 (.mv (.t 63))] (some [5,6,47,48,49])))))))) (.seq (.seq (.ops false [oi 0 64 (.mv (.t 5)),oi 1 65 (.ixS (.t 64)
 (.c (.int .i64 0))),oi 2 66 (.bin .eql (.t 65) (.c (.int .u8 45)))] (some [6,66])) (.cond (.t 66) (.ops false [oi 0 67 (.mv (.t 6)),oi 1 68 (.un .neg (.t 67)),oi 2 6 (.mv (.t 68))] (some [6])) (.skip))) (.seq (.ops false [oi 0 69 (.mv (.t
 6)),oi 1 2 (.mv (.t 69)),oi 2 3 (.mv (.c .nili))] (some [2,3])) (.ret))))))) (.skip))) (.seq (.ops false [oi 0 71 (.mv (.t 0)),oi 1 72 (.call false 178 [(.t 71),(.c (.int .i64 10)),(.c (.int .i64 0))]),oi 2 70 (.mv (.t 72)),oi 3 73 (.ext 0
 (.t 70)),oi 4 74 (.ext 1 (.t 70)),oi 5 9 (.mv (.t 73)),oi 6 10 (.mv (.t 74))] (some [9,10])) (.seq (.ops false [oi 0 75 (.mv (.t 9)),oi 1 76 (.mv (.t 10)),oi 2 2 (.mv (.t 75)),oi 3 3 (.mv (.t 76))] (some [2,3])) (.ret))))),[.t 2,.t 3]⟩
theorem k144:compF Tryz.prog Tryz.f144 c144=some c144:=by kernel_rfl
/-- strconv.toError -/
def c145:AFun:=⟨5,.seq (.ops false [oi 0 10 (.mv (.c .nili))] (some [0,1,2,3,4])) (.seq (.seq (.ops false [oi 0 11 (.mv (.t 4))] (some [0,1,2,3,4,11])) (.block 0 (.seq (.ops false [oi 0 13 (.mkI 233 (.c (.int .i64 2))),oi 1 14 .stop,oi
 2 12 (.mv (.t 14))] (some [0,1,2,3,4,11,12])) (.cond (.t 12) (.seq (.ops false [oi 0 15 (.mv (.t 0)),oi 1 16 (.mv (.t 1)),oi 2 17 (.call false 179 [(.t 15),(.t 16)]),oi 3 18 (.mkI 236 (.t 17)),oi 4 10 (.mv (.t 18))] (some [10])) (.ret))
 (.seq (.ops false [oi 0 20 (.mkI 233 (.c (.int .i64 1))),oi 1 21 .stop,oi 2 19 (.mv (.t 21))] (some [0,1,2,3,4,11,19])) (.cond (.t 19) (.seq (.ops false [oi 0 22 (.mv (.t 0)),oi 1 23 (.mv (.t 1)),oi 2 24 (.call false 180 [(.t 22),(.t
 23)]),oi 3 25 (.mkI 236 (.t 24)),oi 4 10 (.mv (.t 25))] (some [10])) (.ret)) (.seq (.ops false [oi 0 27 (.mkI 233 (.c (.int .i64 3))),oi 1 28 .stop,oi 2 26 (.mv (.t 28))] (some [0,1,2,3,4,11,26])) (.cond (.t 26) (.seq (.ops false [oi 0 29
 (.mv (.t 0)),oi 1 30 (.mv (.t 1)),oi 2 31 (.mv (.t 2)),oi 3 32 (.call false 181 [(.t 29),(.t 30),(.t 31)]),oi 4 33 (.mkI 236 (.t 32)),oi 5 10 (.mv (.t 33))] (some [10])) (.ret)) (.seq (.ops false [oi 0 35 (.mkI 233 (.c (.int .i64 4))),oi 1
 36 .stop,oi 2 34 (.mv (.t 36))] (some [0,1,3,4,34])) (.cond (.t 34) (.seq (.ops false [oi 0 37 (.mv (.t 0)),oi 1 38 (.mv (.t 1)),oi 2 39 (.mv (.t 3)),oi 3 40 (.call false 182 [(.t 37),(.t 38),(.t 39)]),oi 4 41 (.mkI 236 (.t 40)),oi 5 10
 (.mv (.t 41))] (some [10])) (.ret)) (.skip))))))))))) (.seq (.ops false [oi 0 42 (.mv (.t 4)),oi 1 10 (.mv (.t 42))] (some [10])) (.ret))),[.t 10]⟩
theorem k145:compF Tryz.prog Tryz.f145 c145=some c145:=by kernel_rfl
/-- internal/strconv.Itoa -/
def c146:AFun:=⟨1,.seq (.ops false [oi 0 2 (.mv (.c (.str [])))] (some [0])) (.seq (.ops false [oi 0 3 (.mv (.t 0)),oi 1 4 (.call false 183 [(.t 3),(.c (.int .i64 10))]),oi 2 2 (.mv (.t 4))] (some [2])) (.ret)),[.t 2]⟩
theorem k146:compF Tryz.prog Tryz.f146 c146=some c146:=by kernel_rfl
/-- scriptorium/format.checkRule -/
def c147:AFun:=⟨3,.seq (.ops false [oi 0 3 (.box (.t 0)),oi 1 6 (.mv (.c (.int .i64 0)))] (some [1,2,3])) (.seq (.block 0 (.seq (.ops false [oi 0 8 (.fa 0 (.t 3)),oi 1 9 (.ld1 (.t 8)),oi 2 10 (.call false 34 [(.t 9)]),oi 3 11 (.un .not
 (.t 10)),oi 4 7 (.mv (.t 11))] (some [1,2,3,7])) (.cond (.t 7) (.seq (.ops false [oi 0 6 (.mv (.c (.int .i64 7)))] (some [6])) (.ret)) (.seq (.ops false [oi 0 13 (.mv (.t 1)),oi 1 14 (.fa 0 (.t 3)),oi 2 15 (.ld1 (.t 14)),oi 3 16 (.call
 false 57 [(.t 13),(.t 15)]),oi 4 17 (.bin .geq (.t 16) (.c (.int .i64 0))),oi 5 12 (.mv (.t 17))] (some [2,3,12])) (.cond (.t 12) (.seq (.ops false [oi 0 6 (.mv (.c (.int .i64 8)))] (some [6])) (.ret)) (.seq (.ops false [oi 0 19 (.fa 1 (.t
 3)),oi 1 20 (.ld1 (.t 19)),oi 2 21 (.call false 155 [(.t 20),(.c (.int .i64 1)),(.c (.int .i64 10))]),oi 3 22 (.un .not (.t 21)),oi 4 18 (.mv (.t 22))] (some [2,3,18])) (.cond (.t 18) (.seq (.ops false [oi 0 6 (.mv (.c (.int .i64 5)))]
 (some [6])) (.ret)) (.seq (.ops false [oi 0 24 (.ldA 12 (.t 3)),oi 1 25 (.call false 184 [(.t 24)]),oi 2 26 (.un .not (.t 25)),oi 3 23 (.mv (.t 26))] (some [2,3,23])) (.cond (.t 23) (.seq (.ops false [oi 0 6 (.mv (.c (.int .i64 6)))] (some
 [6])) (.ret)) (.seq (.ops false [oi 0 28 (.fa 1 (.t 3)),oi 1 29 (.ld1 (.t 28)),oi 2 30 (.bin .eql (.t 29) (.c (.int .i64 1))),oi 3 31 (.mv (.t 30)),⟨4,some 32,.fa 2 (.t 3),(some (some 31,true)),[]⟩,⟨5,some 33,.ld1 (.t 32),(some (some
 31,true)),[]⟩,⟨6,some 34,.len false (.t 33),(some (some 31,true)),[]⟩,⟨7,some 35,.bin .eql (.t 34) (.c (.int .i64 0)),(some (some 31,true)),[]⟩,oi 8 36 (.pick (.t 31) (.t 35) (.c (.bool false))),oi 9 27 (.mv (.t 36))] (some [2,3,27]))
 (.cond (.t 27) (.seq (.ops false [oi 0 6 (.mv (.c (.int .i64 10)))] (some [6])) (.ret)) (.seq (.ops false [oi 0 38 (.fa 2 (.t 3)),oi 1 39 (.ld1 (.t 38)),oi 2 40 (.len false (.t 39)),oi 3 41 (.bin .gtr (.t 40) (.c (.int .i64 16))),oi 4 37
 (.mv (.t 41))] (some [2,3,37])) (.cond (.t 37) (.seq (.ops false [oi 0 6 (.mv (.c (.int .i64 3)))] (some [6])) (.ret)) (.seq (.ops false [oi 0 43 (.fa 1 (.t 3)),oi 1 44 (.ld1 (.t 43)),oi 2 45 (.bin .eql (.t 44) (.c (.int .i64 7))),oi 3 46
 (.mv (.t 45)),⟨4,some 47,.fa 10 (.t 3),(some (some 46,true)),[]⟩,⟨5,some 48,.ld1 (.t 47),(some (some 46,true)),[]⟩,⟨6,some 49,.len false (.t 48),(some (some 46,true)),[]⟩,⟨7,some 50,.fa 11 (.t 3),(some (some 46,true)),[]⟩,⟨8,some 51,.ld1
 (.t 50),(some (some 46,true)),[]⟩,⟨9,some 52,.len false (.t 51),(some (some 46,true)),[]⟩,⟨10,some 53,.bin .neq (.t 49) (.t 52),(some (some 46,true)),[]⟩,oi 11 54 (.pick (.t 46) (.t 53) (.c (.bool false))),oi 12 42 (.mv (.t 54))] (some
 [2,3,42])) (.cond (.t 42) (.seq (.ops false [oi 0 6 (.mv (.c (.int .i64 9)))] (some [6])) (.ret)) (.seq (.seq (.ops false [oi 0 56 (.fa 1 (.t 3)),oi 1 57 (.ld1 (.t 56)),oi 2 58 (.bin .eql (.t 57) (.c (.int .i64 7))),oi 3 59 (.mv (.t
 58)),⟨4,some 60,.fa 11 (.t 3),(some (some 59,true)),[]⟩,⟨5,some 61,.ld1 (.t 60),(some (some 59,true)),[]⟩,⟨6,some 62,.len false (.t 61),(some (some 59,true)),[]⟩,⟨7,some 63,.bin .eql (.t 62) (.c (.int .i64 0)),(some (some 59,true)),[]⟩,oi 8
 64 (.pick (.t 59) (.t 63) (.c (.bool false))),oi 9 55 (.mv (.t 64))] (some [2,3,55])) (.cond (.t 55) (.skip) (.ops false [oi 0 65 (.fa 1 (.t 3)),oi 1 66 (.ld1 (.t 65)),oi 2 67 (.bin .eql (.t 66) (.c (.int .i64 8))),oi 3 68 (.mv (.t
 67)),⟨4,some 69,.fa 11 (.t 3),(some (some 68,true)),[]⟩,⟨5,some 70,.ld1 (.t 69),(some (some 68,true)),[]⟩,⟨6,some 71,.len false (.t 70),(some (some 68,true)),[]⟩,⟨7,some 72,.bin .lss (.t 71) (.c (.int .i64 2)),(some (some 68,true)),[]⟩,oi 8
 73 (.pick (.t 68) (.t 72) (.c (.bool false))),oi 9 55 (.mv (.t 73))] (some [2,3,55])))) (.cond (.t 55) (.seq (.ops false [oi 0 6 (.mv (.c (.int .i64 10)))] (some [6])) (.ret)) (.seq (.ops false [oi 0 75 (.fa 11 (.t 3)),oi 1 76 (.ld1 (.t
 75)),oi 2 77 (.len false (.t 76)),oi 3 78 (.bin .gtr (.t 77) (.c (.int .i64 12))),oi 4 74 (.mv (.t 78))] (some [2,3,74])) (.cond (.t 74) (.seq (.ops false [oi 0 6 (.mv (.c (.int .i64 2)))] (some [6])) (.ret)) (.seq (.ops false [oi 0 80
 (.ldA 12 (.t 3)),oi 1 81 (.mv (.t 2)),oi 2 82 (.call false 185 [(.t 80),(.t 81)]),oi 3 83 (.un .not (.t 82)),oi 4 79 (.mv (.t 83))] (some [79])) (.cond (.t 79) (.seq (.ops false [oi 0 6 (.mv (.c (.int .i64 4)))] (some [6])) (.ret))
 (.skip)))))))))))))))))))))) (.seq (.ops false [oi 0 6 (.mv (.c (.int .i64 0)))] (some [6])) (.ret))),[.t 6]⟩
theorem k147:compF Tryz.prog Tryz.f147 c147=some c147:=by kernel_rfl
/-- scriptorium/format.checkUse -/
def c148:AFun:=⟨2,.seq (.ops false [oi 0 2 (.box (.t 0)),oi 1 3 (.box (.t 1)),oi 2 4 (.mv (.c (.int .i64 0)))] (some [2,3])) (.seq (.seq (.ops false [oi 0 7 (.ldA 12 (.t 3)),oi 1 8 (.call false 52 [(.t 7)]),oi 2 9 (.mv (.t 8)),⟨3,some
 10,.fa 0 (.t 2),(some (some 9,true)),[]⟩,⟨4,some 11,.ld1 (.t 10),(some (some 9,true)),[]⟩,⟨5,some 12,.fa 8 (.t 3),(some (some 9,true)),[]⟩,⟨6,some 13,.ld1 (.t 12),(some (some 9,true)),[]⟩,⟨7,some 14,.ia 12 (.t 11) (.t 13),(some (some
 9,true)),[]⟩,⟨8,some 15,.ldA 12 (.t 14),(some (some 9,true)),[]⟩,⟨9,some 16,.call false 51 [(.t 15)],(some (some 9,true)),[]⟩,⟨10,some 17,.un .not (.t 16),(some (some 9,true)),[]⟩,oi 11 18 (.pick (.t 9) (.t 17) (.c (.bool false)))] (some
 [2,3,18])) (.cond (.t 18) (.seq (.ops false [oi 0 4 (.mv (.c (.int .i64 13)))] (some [4])) (.ret)) (.skip))) (.seq (.seq (.ops false [oi 0 19 (.fa 1 (.t 3)),oi 1 20 (.ld1 (.t 19)),oi 2 21 (.bin .neq (.t 20) (.c (.int .i64 7)))] (some
 [2,3,21])) (.cond (.t 21) (.seq (.ops false [oi 0 4 (.mv (.c (.int .i64 0)))] (some [4])) (.ret)) (.skip))) (.seq (.seq (.ops false [oi 0 22 (.fa 10 (.t 3)),oi 1 23 (.ld1 (.t 22)),oi 2 24 (.len false (.t 23)),oi 3 25 (.mv (.c (.int .i64
 0)))] (some [2,3,23,24,25])) (.block 0 (.loop (.seq (.ops false [oi 0 26 (.bin .lss (.t 25) (.t 24))] (some [2,3,23,24,25,26])) (.seq (.cond (.t 26) (.skip) (.exit 0)) (.seq (.block 1 (.seq (.ops false [oi 0 27 (.mv (.t 25)),oi 1 28 (.ia 1
 (.t 23) (.t 25)),oi 2 29 (.ld1 (.t 28)),oi 3 5 (.mv (.t 27)),oi 4 6 (.mv (.t 29))] (some [2,3,5,6,23,24,25])) (.block 2 (.seq (.ops true [oi 0 31 (.mv (.t 6)),oi 1 32 (.bin .eql (.t 31) (.c (.str []))),oi 2 33 (.mv (.t 32)),⟨3,some 34,.fa 0
 (.t 2),(some (some 33,true)),[]⟩,⟨4,some 35,.ld1 (.t 34),(some (some 33,true)),[]⟩,⟨5,some 36,.fa 11 (.t 3),(some (some 33,true)),[]⟩,⟨6,some 37,.ld1 (.t 36),(some (some 33,true)),[]⟩,⟨7,some 38,.mv (.t 5),(some (some 33,true)),[]⟩,⟨8,some
 39,.ia 1 (.t 37) (.t 38),(some (some 33,true)),[]⟩,⟨9,some 40,.ld1 (.t 39),(some (some 33,true)),[]⟩,⟨10,some 41,.ia 12 (.t 35) (.t 40),(some (some 33,true)),[]⟩,⟨11,some 42,.fa 1 (.t 41),(some (some 33,true)),[]⟩,⟨12,some 43,.ld1 (.t
 42),(some (some 33,true)),[]⟩,⟨13,some 44,.bin .neq (.t 43) (.c (.int .i64 1)),(some (some 33,true)),[]⟩,oi 14 45 (.pick (.t 33) (.t 44) (.c (.bool false))),oi 15 30 (.mv (.t 45))] (some [2,3,5,6,23,24,25,30])) (.cond (.t 30) (.seq (.ops
 false [oi 0 4 (.mv (.c (.int .i64 13)))] (some [4])) (.ret)) (.seq (.ops false [oi 0 47 (.mv (.t 6)),oi 1 48 (.bin .neq (.t 47) (.c (.str []))),oi 2 49 (.mv (.t 48)),⟨3,some 50,.mv (.t 6),(some (some 49,true)),[]⟩,⟨4,some 51,.call false 34
 [(.t 50)],(some (some 49,true)),[]⟩,⟨5,some 52,.un .not (.t 51),(some (some 49,true)),[]⟩,oi 6 53 (.pick (.t 49) (.t 52) (.c (.bool false))),oi 7 46 (.mv (.t 53))] (some [2,3,5,6,23,24,25,46])) (.cond (.t 46) (.seq (.ops false [oi 0 4 (.mv
 (.c (.int .i64 7)))] (some [4])) (.ret)) (.seq (.ops false [oi 0 55 (.mv (.t 6)),oi 1 56 (.bin .neq (.t 55) (.c (.str []))),oi 2 57 (.mv (.t 56)),⟨3,some 58,.fa 10 (.t 3),(some (some 57,true)),[]⟩,⟨4,some 59,.ld1 (.t 58),(some (some
 57,true)),[]⟩,⟨5,some 60,.mv (.t 5),(some (some 57,true)),[]⟩,⟨6,some 61,.slc 1 (.t 59) none (some (.t 60)) none,(some (some 57,true)),[]⟩,⟨7,some 62,.mv (.t 6),(some (some 57,true)),[]⟩,⟨8,some 63,.call false 186 [(.t 61),(.t 62)],(some
 (some 57,true)),[]⟩,oi 9 64 (.pick (.t 57) (.t 63) (.c (.bool false))),oi 10 54 (.mv (.t 64))] (some [2,3,23,24,25,54])) (.cond (.t 54) (.seq (.ops false [oi 0 4 (.mv (.c (.int .i64 8)))] (some [4])) (.ret)) (.skip)))))))))) (.ops false [oi
 0 65 (.bin .add (.t 25) (.c (.int .i64 1))),oi 1 25 (.mv (.t 65))] (some [2,3,23,24,25])))))))) (.seq (.ops false [oi 0 4 (.mv (.c (.int .i64 0)))] (some [4])) (.ret))))),[.t 4]⟩
theorem k148:compF Tryz.prog Tryz.f148 c148=some c148:=by kernel_rfl
/-- scriptorium/format.cyclic -/
def c149:AFun:=⟨2,.seq (.ops false [oi 0 2 (.box (.t 0)),oi 1 4 (.mv (.c (.bool false)))] (some [1,2])) (.seq (.ops false [oi 0 8 (.fa 0 (.t 2)),oi 1 9 (.ld1 (.t 8)),oi 2 10 (.len false (.t 9)),oi 3 11 (.mkM 1 1 [.bool false] (.t 10)
 (.t 10)),oi 4 5 (.mv (.t 11))] (some [1,2,5])) (.seq (.ops false [oi 0 12 (.fa 0 (.t 2)),oi 1 13 (.ld1 (.t 12)),oi 2 14 (.mv (.t 1)),oi 3 15 (.ia 12 (.t 13) (.t 14)),oi 4 16 (.ldA 12 (.t 15)),oi 5 17 (.call false 157 [(.t 16)]),oi 6 18
 (.call true 127 [(.t 17)]),oi 7 6 (.mv (.t 18))] (some [1,2,5,6])) (.seq (.block 0 (.loop (.seq (.seq (.ops false [oi 0 19 (.mv (.t 6)),oi 1 20 (.len false (.t 19)),oi 2 21 (.bin .gtr (.t 20) (.c (.int .i64 0)))] (some [1,2,5,6,21])) (.cond
 (.t 21) (.skip) (.exit 0))) (.block 1 (.seq (.ops false [oi 0 22 (.mv (.t 6)),oi 1 23 (.ia 1 (.t 22) (.c (.int .i64 0))),oi 2 24 (.ld1 (.t 23)),oi 3 7 (.mv (.t 24))] (some [1,2,5,6,7])) (.seq (.ops false [oi 0 25 (.mv (.t 6)),oi 1 26 (.slc
 1 (.t 25) (some (.c (.int .i64 1))) none none),oi 2 6 (.mv (.t 26))] (some [1,2,5,6,7])) (.seq (.seq (.ops false [oi 0 27 (.mv (.t 7)),oi 1 28 (.mv (.t 1)),oi 2 29 (.bin .eql (.t 27) (.t 28))] (some [1,2,5,6,7,29])) (.cond (.t 29) (.seq
 (.ops false [oi 0 4 (.mv (.c (.bool true)))] (some [4])) (.ret)) (.skip))) (.seq (.ops false [oi 0 30 (.mv (.t 5)),oi 1 31 (.mv (.t 7)),oi 2 32 (.ia 1 (.t 30) (.t 31)),oi 3 33 (.ld1 (.t 32)),oi 4 34 (.un .not (.t 33))] (some
 [1,2,5,6,7,34])) (.cond (.t 34) (.seq (.ops false [oi 0 35 (.mv (.t 5)),oi 1 36 (.mv (.t 7)),oi 2 37 (.ia 1 (.t 35) (.t 36)),ou 3 (.st 1 (.t 37) (.c (.bool true)))] (some [1,2,5,6,7])) (.ops false [oi 0 38 (.mv (.t 6)),oi 1 39 (.fa 0 (.t
 2)),oi 2 40 (.ld1 (.t 39)),oi 3 41 (.mv (.t 7)),oi 4 42 (.ia 12 (.t 40) (.t 41)),oi 5 43 (.ldA 12 (.t 42)),oi 6 44 (.call false 157 [(.t 43)]),oi 7 45 (.app false 1 8 (.t 38) (.t 44)),oi 8 6 (.mv (.t 45))] (some [1,2,5,6])))
 (.skip)))))))))) (.seq (.ops false [oi 0 4 (.mv (.c (.bool false)))] (some [4])) (.ret))))),[.t 4]⟩
theorem k149:compF Tryz.prog Tryz.f149 c149=some c149:=by kernel_rfl
/-- slices.Index[[]bool,bool] -/
def c150:AFun:=⟨2,.seq (.ops false [oi 0 4 (.mv (.c (.int .i64 0)))] (some [0,1])) (.seq (.seq (.ops false [oi 0 6 (.mv (.t 0)),oi 1 7 (.len false (.t 6)),oi 2 8 (.mv (.c (.int .i64 0)))] (some [0,1,7,8])) (.block 0 (.loop (.seq (.ops
 false [oi 0 9 (.bin .lss (.t 8) (.t 7))] (some [0,1,7,8,9])) (.seq (.cond (.t 9) (.skip) (.exit 0)) (.seq (.block 1 (.seq (.ops false [oi 0 10 (.mv (.t 8)),oi 1 5 (.mv (.t 10))] (some [0,1,5,7,8])) (.seq (.ops false [oi 0 11 (.mv (.t 1)),oi
 1 12 (.mv (.t 0)),oi 2 13 (.mv (.t 5)),oi 3 14 (.ia 1 (.t 12) (.t 13)),oi 4 15 (.ld1 (.t 14)),oi 5 16 (.binB false (.t 11) (.t 15))] (some [0,1,5,7,8,16])) (.cond (.t 16) (.seq (.ops false [oi 0 17 (.mv (.t 5)),oi 1 4 (.mv (.t 17))] (some
 [4])) (.ret)) (.skip))))) (.ops false [oi 0 18 (.bin .add (.t 8) (.c (.int .i64 1))),oi 1 8 (.mv (.t 18))] (some [0,1,7,8])))))))) (.seq (.ops false [oi 0 4 (.mv (.c (.int .i64 (-1))))] (some [4])) (.ret))),[.t 4]⟩
theorem k150:compF Tryz.prog Tryz.f150 c150=some c150:=by kernel_rfl
/-- scriptorium/format.finite -/
def c151:AFun:=⟨1,.seq (.ops false [oi 0 1 (.box (.t 0)),oi 1 2 (.mv (.c .nils))] (some [1])) (.seq (.ops false [oi 0 8 (.fa 0 (.t 1)),oi 1 9 (.ld1 (.t 8)),oi 2 10 (.len false (.t 9)),oi 3 11 (.mkM 1 1 [.bool false] (.t 10) (.t 10)),oi
 4 3 (.alloc [.nils]),ou 5 (.st 1 (.t 3) (.t 11))] (some [1,3])) (.seq (.ops false [oi 0 12 (.mkF 187 [] [(.t 3)]),oi 1 4 (.alloc [.nilf]),ou 2 (.st 1 (.t 4) (.t 12))] (some [1,3,4])) (.seq (.ops false [oi 0 13 (.mkF 188 [] [(.t 4),(.t
 1)]),oi 1 5 (.mv (.t 13))] (some [1,3,5])) (.seq (.seq (.ops false [oi 0 14 (.fa 0 (.t 1)),oi 1 15 (.ld1 (.t 14)),oi 2 16 (.len false (.t 15)),oi 3 17 (.mv (.c (.int .i64 0)))] (some [1,3,5,16,17])) (.block 0 (.loop (.seq (.ops false [oi 0
 18 (.bin .lss (.t 17) (.t 16))] (some [1,3,5,16,17,18])) (.seq (.cond (.t 18) (.skip) (.exit 0)) (.seq (.block 1 (.seq (.ops false [oi 0 19 (.fa 0 (.t 1)),oi 1 20 (.ld1 (.t 19)),oi 2 21 (.len false (.t 20)),oi 3 22 (.mv (.c (.int .i64 0)))]
 (some [1,3,5,16,17,20,21,22])) (.block 2 (.loop (.seq (.ops false [oi 0 23 (.bin .lss (.t 22) (.t 21))] (some [1,3,5,16,17,20,21,22,23])) (.seq (.cond (.t 23) (.skip) (.exit 2)) (.seq (.block 3 (.seq (.ops false [oi 0 24 (.mv (.t 22)),oi 1
 25 (.ia 12 (.t 20) (.t 22)),oi 2 26 (.ldA 12 (.t 25)),oi 3 7 (.alloc [.str [],.int .i64 0,.nils,.int .i64 0,.bool false,.int .i64 0,.int .i64 0,.int .i64 0,.int .i64 0,.int .i64 0,.nils,.nils]),oi 4 6 (.mv (.t 24)),ou 5 (.st 12 (.t 7) (.t
 26))] (some [1,3,5,6,7,16,17,20,21,22])) (.ops true [oi 0 27 (.ld1 (.t 3)),oi 1 28 (.mv (.t 6)),oi 2 29 (.ld1 (.t 3)),oi 3 30 (.mv (.t 6)),oi 4 31 (.ia 1 (.t 29) (.t 30)),oi 5 32 (.ld1 (.t 31)),oi 6 33 (.mv (.t 32)),⟨7,some 34,.mv (.t
 5),(some (some 33,false)),[]⟩,⟨8,some 35,.ldA 12 (.t 7),(some (some 33,false)),[]⟩,⟨9,some 36,.dyn (.t 34) [(.t 35)],(some (some 33,false)),[1,0]⟩,oi 10 37 (.pick (.t 33) (.c (.bool true)) (.t 36)),oi 11 38 (.ia 1 (.t 27) (.t 28)),ou 12
 (.st 1 (.t 38) (.t 37))] (some [1,3,5,16,17,20,21,22])))) (.ops false [oi 0 39 (.bin .add (.t 22) (.c (.int .i64 1))),oi 1 22 (.mv (.t 39))] (some [1,3,5,16,17,20,21,22]))))))))) (.ops false [oi 0 40 (.bin .add (.t 17) (.c (.int .i64
 1))),oi 1 17 (.mv (.t 40))] (some [1,3,5,16,17])))))))) (.seq (.ops false [oi 0 41 (.ld1 (.t 3)),oi 1 2 (.mv (.t 41))] (some [2])) (.ret)))))),[.t 2]⟩
theorem k151:compF Tryz.prog Tryz.f151 c151=some c151:=by kernel_rfl
/-- scriptorium/format.conflict -/
def c152:AFun:=⟨2,.seq (.ops false [oi 0 2 (.box (.t 0)),oi 1 4 (.mv (.c (.bool false)))] (some [1,2])) (.seq (.seq (.ops false [oi 0 10 (.fa 1 (.t 2)),oi 1 11 (.ld1 (.t 10))] (some [1,2,11])) (.block 0 (.seq (.ops false [oi 0 13 (.bin
 .eql (.t 11) (.c (.int .i64 9))),oi 1 12 (.mv (.t 13))] (some [1,2,11,12])) (.cond (.t 12) (.seq (.ops true [oi 0 14 (.mv (.t 1)),oi 1 15 (.fa 9 (.t 2)),oi 2 16 (.ld1 (.t 15)),oi 3 17 (.fa 7 (.t 2)),oi 4 18 (.ld1 (.t 17)),oi 5 19 (.ia 256
 (.t 14) (.t 16)),oi 6 20 (.iaA 256 1 (.t 19) (.t 18)),oi 7 21 (.ld1 (.t 20)),oi 8 4 (.mv (.t 21))] (some [4])) (.ret)) (.seq (.ops false [oi 0 23 (.bin .eql (.t 11) (.c (.int .i64 8))),oi 1 22 (.mv (.t 23))] (some [1,2,22])) (.cond (.t 22)
 (.seq (.ops false [oi 0 5 (.alloc (List.replicate 256 (.bool false)))] (some [1,2,5])) (.seq (.ops false [oi 0 24 (.fa 11 (.t 2)),oi 1 25 (.ld1 (.t 24)),oi 2 26 (.len false (.t 25)),oi 3 27 (.mv (.c (.int .i64 0)))] (some [1,5,25,26,27]))
 (.block 1 (.loop (.seq (.ops false [oi 0 28 (.bin .lss (.t 27) (.t 26))] (some [1,5,25,26,27,28])) (.seq (.cond (.t 28) (.skip) (.exit 1)) (.seq (.block 2 (.seq (.ops false [oi 0 29 (.ia 1 (.t 25) (.t 27)),oi 1 30 (.ld1 (.t 29)),oi 2 7 (.mv
 (.t 30))] (some [1,5,7,25,26,27])) (.seq (.ops false [oi 0 31 (.mv (.t 1)),oi 1 32 (.mv (.t 7)),oi 2 33 (.ia 256 (.t 31) (.t 32)),oi 3 34 (.ldA 256 (.t 33)),oi 4 35 (.mv (.c (.int .i64 0)))] (some [1,5,25,26,27,34,35])) (.block 3 (.loop
 (.seq (.ops false [oi 0 36 (.bin .lss (.t 35) (.c (.int .i64 256)))] (some [1,5,25,26,27,34,35,36])) (.seq (.cond (.t 36) (.skip) (.exit 3)) (.seq (.block 4 (.seq (.ops false [oi 0 37 (.mv (.t 35)),oi 1 38 (.ixA 256 (.t 34) (.t 35)),oi 2 8
 (.mv (.t 37)),oi 3 9 (.mv (.t 38))] (some [1,5,8,9,25,26,27,34,35])) (.seq (.seq (.ops false [oi 0 39 (.mv (.t 9)),oi 1 40 (.mv (.t 39)),⟨2,some 41,.mv (.t 8),(some (some 40,true)),[]⟩,⟨3,some 42,.iaA 256 1 (.t 5) (.t 41),(some (some
 40,true)),[]⟩,⟨4,some 43,.ld1 (.t 42),(some (some 40,true)),[]⟩,oi 5 44 (.pick (.t 40) (.t 43) (.c (.bool false)))] (some [1,5,8,9,25,26,27,34,35,44])) (.cond (.t 44) (.seq (.ops false [oi 0 4 (.mv (.c (.bool true)))] (some [4])) (.ret))
 (.skip))) (.ops false [oi 0 45 (.mv (.t 8)),oi 1 46 (.mv (.t 8)),oi 2 47 (.iaA 256 1 (.t 5) (.t 46)),oi 3 48 (.ld1 (.t 47)),oi 4 49 (.mv (.t 48)),⟨5,some 50,.mv (.t 9),(some (some 49,false)),[]⟩,oi 6 51 (.pick (.t 49) (.c (.bool true)) (.t
 50)),oi 7 52 (.iaA 256 1 (.t 5) (.t 45)),ou 8 (.st 1 (.t 52) (.t 51))] (some [1,5,25,26,27,34,35]))))) (.ops false [oi 0 53 (.bin .add (.t 35) (.c (.int .i64 1))),oi 1 35 (.mv (.t 53))] (some [1,5,25,26,27,34,35])))))))))) (.ops false [oi 0
 54 (.bin .add (.t 27) (.c (.int .i64 1))),oi 1 27 (.mv (.t 54))] (some [1,5,25,26,27]))))))))) (.skip))))))) (.seq (.ops false [oi 0 4 (.mv (.c (.bool false)))] (some [4])) (.ret))),[.t 4]⟩
theorem k152:compF Tryz.prog Tryz.f152 c152=some c152:=by kernel_rfl
/-- scriptorium/format.line$1 -/
def c153:AFun:=⟨3,.seq (.ops false [oi 0 5 (.mv (.t 0))] (some [1,2,5])) (.cond (.t 5) (.ops false [oi 0 6 (.ld1 (.t 2)),oi 1 7 (.mv (.t 1)),oi 2 8 (.mkS 1 [.str []] [(0,1,(.t 7))]),oi 3 9 (.app false 1 16 (.t 6) (.t 8)),ou 4 (.st 1
 (.t 2) (.t 9))] (some [])) (.skip)),[]⟩
theorem k153:compF Tryz.prog Tryz.f153 c153=some c153:=by kernel_rfl
/-- strings.Join -/
def c154:AFun:=⟨2,.seq (.ops false [oi 0 4 (.mv (.c (.str [])))] (some [0,1])) (.seq (.seq (.ops false [oi 0 11 (.mv (.t 0)),oi 1 12 (.len false (.t 11))] (some [0,1,12])) (.block 0 (.seq (.ops false [oi 0 14 (.bin .eql (.t 12) (.c
 (.int .i64 0))),oi 1 13 (.mv (.t 14))] (some [0,1,12,13])) (.cond (.t 13) (.seq (.ops false [oi 0 4 (.mv (.c (.str [])))] (some [4])) (.ret)) (.seq (.ops false [oi 0 16 (.bin .eql (.t 12) (.c (.int .i64 1))),oi 1 15 (.mv (.t 16))] (some
 [0,1,15])) (.cond (.t 15) (.seq (.ops false [oi 0 17 (.mv (.t 0)),oi 1 18 (.ia 1 (.t 17) (.c (.int .i64 0))),oi 2 19 (.ld1 (.t 18)),oi 3 4 (.mv (.t 19))] (some [4])) (.ret)) (.skip))))))) (.seq (.ops false [oi 0 5 (.mv (.c (.int .i64 0)))]
 (some [0,1,5])) (.seq (.seq (.ops false [oi 0 20 (.mv (.t 1)),oi 1 21 (.len true (.t 20)),oi 2 22 (.bin .gtr (.t 21) (.c (.int .i64 0)))] (some [0,1,5,22])) (.cond (.t 22) (.seq (.seq (.ops false [oi 0 23 (.mv (.t 1)),oi 1 24 (.len true (.t
 23)),oi 2 25 (.mv (.t 0)),oi 3 26 (.len false (.t 25)),oi 4 27 (.bin .sub (.t 26) (.c (.int .i64 1))),oi 5 28 (.bin .quo (.c (.int .i64 9223372036854775807)) (.t 27)),oi 6 29 (.bin .geq (.t 24) (.t 28))] (some [0,1,5,29])) (.cond (.t 29)
 (.ops false [oi 0 30 (.mkI 9 (.c (.str [115,116,114,105,110,103,115,58,32,74,111,105,110,32,111,117,116,112,117,116,32,108,101,110,103,116,104,32,111,118,101,114,102,108,111,119]))),ou 1 .stop] (some [0,1,5])) (.skip))) (.ops false [oi 0 31
 (.mv (.t 5)),oi 1 32 (.mv (.t 1)),oi 2 33 (.len true (.t 32)),oi 3 34 (.mv (.t 0)),oi 4 35 (.len false (.t 34)),oi 5 36 (.bin .sub (.t 35) (.c (.int .i64 1))),oi 6 37 (.bin .mul (.t 33) (.t 36)),oi 7 38 (.bin .add (.t 31) (.t 37)),oi 8 5
 (.mv (.t 38))] (some [0,1,5]))) (.skip))) (.seq (.seq (.ops false [oi 0 39 (.mv (.t 0)),oi 1 40 (.len false (.t 39)),oi 2 41 (.mv (.c (.int .i64 0)))] (some [0,1,5,39,40,41])) (.block 1 (.loop (.seq (.ops false [oi 0 42 (.bin .lss (.t 41)
 (.t 40))] (some [0,1,5,39,40,41,42])) (.seq (.cond (.t 42) (.skip) (.exit 1)) (.seq (.block 2 (.seq (.ops false [oi 0 43 (.ia 1 (.t 39) (.t 41)),oi 1 44 (.ld1 (.t 43)),oi 2 7 (.mv (.t 44))] (some [0,1,5,7,39,40,41])) (.seq (.seq (.ops false
 [oi 0 45 (.mv (.t 7)),oi 1 46 (.len true (.t 45)),oi 2 47 (.mv (.t 5)),oi 3 48 (.bin .sub (.c (.int .i64 9223372036854775807)) (.t 47)),oi 4 49 (.bin .gtr (.t 46) (.t 48))] (some [0,1,5,7,39,40,41,49])) (.cond (.t 49) (.ops false [oi 0 50
 (.mkI 9 (.c (.str [115,116,114,105,110,103,115,58,32,74,111,105,110,32,111,117,116,112,117,116,32,108,101,110,103,116,104,32,111,118,101,114,102,108,111,119]))),ou 1 .stop] (some [0,1,5,7,39,40,41])) (.skip))) (.ops false [oi 0 51 (.mv (.t
 5)),oi 1 52 (.mv (.t 7)),oi 2 53 (.len true (.t 52)),oi 3 54 (.bin .add (.t 51) (.t 53)),oi 4 5 (.mv (.t 54))] (some [0,1,5,39,40,41]))))) (.ops false [oi 0 55 (.bin .add (.t 41) (.c (.int .i64 1))),oi 1 41 (.mv (.t 55))] (some
 [0,1,5,39,40,41])))))))) (.seq (.ops false [oi 0 8 (.alloc [.nilp,.nils])] (some [0,1,5,8])) (.seq (.ops false [oi 0 56 (.mv (.t 5)),oi 1 57 (.call false 192 [(.t 8),(.t 56)])] (some [0,1,8])) (.seq (.ops false [oi 0 58 (.mv (.t 0)),oi 1 59
 (.ia 1 (.t 58) (.c (.int .i64 0))),oi 2 60 (.ld1 (.t 59)),oi 3 61 (.call false 193 [(.t 8),(.t 60)])] (some [0,1,8])) (.seq (.seq (.ops false [oi 0 62 (.mv (.t 0)),oi 1 63 (.slc 1 (.t 62) (some (.c (.int .i64 1))) none none),oi 2 64 (.len
 false (.t 63)),oi 3 65 (.mv (.c (.int .i64 0)))] (some [1,8,63,64,65])) (.block 3 (.loop (.seq (.ops false [oi 0 66 (.bin .lss (.t 65) (.t 64))] (some [1,8,63,64,65,66])) (.seq (.cond (.t 66) (.skip) (.exit 3)) (.seq (.block 4 (.seq (.ops
 false [oi 0 67 (.ia 1 (.t 63) (.t 65)),oi 1 68 (.ld1 (.t 67)),oi 2 10 (.mv (.t 68))] (some [1,8,10,63,64,65])) (.seq (.ops false [oi 0 69 (.mv (.t 1)),oi 1 70 (.call false 193 [(.t 8),(.t 69)])] (some [1,8,10,63,64,65])) (.ops false [oi 0
 71 (.mv (.t 10)),oi 1 72 (.call false 193 [(.t 8),(.t 71)])] (some [1,8,63,64,65]))))) (.ops false [oi 0 73 (.bin .add (.t 65) (.c (.int .i64 1))),oi 1 65 (.mv (.t 73))] (some [1,8,63,64,65])))))))) (.seq (.ops false [oi 0 74 (.call false
 194 [(.t 8)]),oi 1 4 (.mv (.t 74))] (some [4])) (.ret)))))))))),[.t 4]⟩
theorem k154:compF Tryz.prog Tryz.f154 c154=some c154:=by kernel_rfl
/-- scriptorium/format.in -/
def c155:AFun:=⟨3,.seq (.ops false [oi 0 6 (.mv (.c (.bool false)))] (some [0,1,2])) (.seq (.ops false [oi 0 7 (.mv (.t 0)),oi 1 8 (.mv (.t 1)),oi 2 9 (.bin .geq (.t 7) (.t 8)),oi 3 10 (.mv (.t 9)),⟨4,some 11,.mv (.t 0),(some (some
 10,true)),[]⟩,⟨5,some 12,.mv (.t 2),(some (some 10,true)),[]⟩,⟨6,some 13,.bin .leq (.t 11) (.t 12),(some (some 10,true)),[]⟩,oi 7 14 (.pick (.t 10) (.t 13) (.c (.bool false))),oi 8 6 (.mv (.t 14))] (some [6])) (.ret)),[.t 6]⟩
theorem k155:compF Tryz.prog Tryz.f155 c155=some c155:=by kernel_rfl
/-- scriptorium/format.own -/
def c156:AFun:=⟨1,.seq (.ops false [oi 0 1 (.box (.t 0)),oi 1 2 (.alloc (List.replicate 256 (.bool false)))] (some [1,2])) (.seq (.ops false [oi 0 3 (.alloc (List.replicate 256 (.bool false)))] (some [1,2,3])) (.seq (.ops false [oi 0 6
 (.mkF 195 [] [(.t 3)]),oi 1 4 (.mv (.t 6))] (some [1,2,3,4])) (.seq (.block 0 (.seq (.ops false [oi 0 8 (.fa 1 (.t 1)),oi 1 9 (.ld1 (.t 8)),oi 2 10 (.bin .eql (.t 9) (.c (.int .i64 1))),oi 3 7 (.mv (.t 10))] (some [1,2,3,4,7])) (.cond (.t
 7) (.ops false [oi 0 11 (.fa 2 (.t 1)),oi 1 12 (.ld1 (.t 11)),oi 2 13 (.ia 1 (.t 12) (.c (.int .i64 0))),oi 3 14 (.ld1 (.t 13)),oi 4 15 (.iaA 256 1 (.t 3) (.t 14)),ou 5 (.st 1 (.t 15) (.c (.bool true)))] (some [2,3])) (.seq (.ops false [oi
 0 17 (.fa 1 (.t 1)),oi 1 18 (.ld1 (.t 17)),oi 2 19 (.bin .eql (.t 18) (.c (.int .i64 2))),oi 3 20 (.mv (.t 19)),⟨4,some 21,.fa 4 (.t 1),(some (some 20,true)),[]⟩,⟨5,some 22,.ld1 (.t 21),(some (some 20,true)),[]⟩,oi 6 23 (.pick (.t 20) (.t
 22) (.c (.bool false))),oi 7 16 (.mv (.t 23))] (some [1,2,3,4,16])) (.cond (.t 16) (.seq (.ops false [oi 0 24 (.fa 3 (.t 1)),oi 1 25 (.ld1 (.t 24)),oi 2 26 (.bin .sub (.t 25) (.c (.int .i64 1))),oi 3 27 (.bin .mul (.c (.int .i64 8)) (.t
 26)),oi 4 5 (.mv (.t 27))] (some [1,2,3,4,5])) (.ops true [oi 0 28 (.mv (.t 4)),oi 1 29 (.fa 5 (.t 1)),oi 2 30 (.ld1 (.t 29)),oi 3 31 (.mv (.t 5)),oi 4 32 (.bin .shr (.t 30) (.t 31)),oi 5 33 (.fa 6 (.t 1)),oi 6 34 (.ld1 (.t 33)),oi 7 35
 (.mv (.t 5)),oi 8 36 (.bin .shr (.t 34) (.t 35)),oi 9 37 (.dyn (.t 28) [(.t 32),(.t 36)])] (some [2,3]))) (.seq (.ops false [oi 0 39 (.fa 1 (.t 1)),oi 1 40 (.ld1 (.t 39)),oi 2 41 (.bin .eql (.t 40) (.c (.int .i64 2))),oi 3 38 (.mv (.t 41))]
 (some [1,2,3,4,38])) (.cond (.t 38) (.ops false [oi 0 42 (.mv (.t 4)),oi 1 43 (.fa 5 (.t 1)),oi 2 44 (.ld1 (.t 43)),oi 3 45 (.fa 6 (.t 1)),oi 4 46 (.ld1 (.t 45)),oi 5 47 (.fa 5 (.t 1)),oi 6 48 (.ld1 (.t 47)),oi 7 49 (.bin .add (.t 48) (.c
 (.int .i64 256))),oi 8 50 (.bin .sub (.t 49) (.c (.int .i64 1))),oi 9 51 (.min (.t 46) (.t 50)),oi 10 52 (.dyn (.t 42) [(.t 44),(.t 51)])] (some [2,3])) (.seq (.ops false [oi 0 54 (.fa 1 (.t 1)),oi 1 55 (.ld1 (.t 54)),oi 2 56 (.bin .eql (.t
 55) (.c (.int .i64 3))),oi 3 53 (.mv (.t 56))] (some [1,2,3,4,53])) (.cond (.t 53) (.ops false [oi 0 57 (.mv (.t 4)),oi 1 58 (.fa 6 (.t 1)),oi 2 59 (.ld1 (.t 58)),oi 3 60 (.min (.t 59) (.c (.int .i64 9))),oi 4 61 (.bin .add (.c (.int .i64
 48)) (.t 60)),oi 5 62 (.dyn (.t 57) [(.c (.int .i64 48)),(.t 61)])] (some [2,3])) (.seq (.seq (.ops false [oi 0 64 (.fa 1 (.t 1)),oi 1 65 (.ld1 (.t 64)),oi 2 66 (.bin .eql (.t 65) (.c (.int .i64 4))),oi 3 63 (.mv (.t 66))] (some
 [1,2,3,4,63])) (.cond (.t 63) (.skip) (.ops false [oi 0 67 (.fa 1 (.t 1)),oi 1 68 (.ld1 (.t 67)),oi 2 69 (.bin .eql (.t 68) (.c (.int .i64 5))),oi 3 70 (.mv (.t 69)),⟨4,some 71,.fa 3 (.t 1),(some (some 70,true)),[]⟩,⟨5,some 72,.ld1 (.t
 71),(some (some 70,true)),[]⟩,⟨6,some 73,.bin .gtr (.t 72) (.c (.int .i64 0)),(some (some 70,true)),[]⟩,oi 7 74 (.pick (.t 70) (.t 73) (.c (.bool false))),oi 8 63 (.mv (.t 74))] (some [1,2,3,4,63])))) (.cond (.t 63) (.ops false [oi 0 75
 (.mv (.t 4)),oi 1 76 (.dyn (.t 75) [(.c (.int .i64 0)),(.c (.int .i64 255))])] (some [2,3])) (.seq (.ops false [oi 0 78 (.ldA 12 (.t 1)),oi 1 79 (.call false 47 [(.t 78)]),oi 2 77 (.mv (.t 79))] (some [1,2,3,77])) (.cond (.t 77) (.ops false
 [oi 0 80 (.fa 7 (.t 1)),oi 1 81 (.ld1 (.t 80)),oi 2 82 (.iaA 256 1 (.t 3) (.t 81)),ou 3 (.st 1 (.t 82) (.c (.bool true)))] (some [2,3])) (.skip)))))))))))))) (.seq (.ops false [oi 0 83 (.ldA 256 (.t 3)),ou 1 (.st 256 (.t 2) (.t 83))] (some
 [2])) (.ret))))),[.cA 2 256]⟩
theorem k156:compF Tryz.prog Tryz.f156 c156=some c156:=by kernel_rfl
/-- scriptorium/format.begins -/
def c157:AFun:=⟨1,.seq (.ops false [oi 0 1 (.box (.t 0)),oi 1 2 (.mv (.c .nils))] (some [1])) (.seq (.block 0 (.seq (.ops false [oi 0 4 (.ldA 12 (.t 1)),oi 1 5 (.call false 52 [(.t 4)]),oi 2 3 (.mv (.t 5))] (some [1,3])) (.cond (.t 3)
 (.seq (.ops false [oi 0 6 (.fa 8 (.t 1)),oi 1 7 (.ld1 (.t 6)),oi 2 8 (.mkS 1 [.int .i64 0] [(0,1,(.t 7))]),oi 3 2 (.mv (.t 8))] (some [2])) (.ret)) (.seq (.ops false [oi 0 10 (.fa 1 (.t 1)),oi 1 11 (.ld1 (.t 10)),oi 2 12 (.bin .eql (.t 11)
 (.c (.int .i64 7))),oi 3 9 (.mv (.t 12))] (some [1,9])) (.cond (.t 9) (.seq (.ops false [oi 0 13 (.fa 11 (.t 1)),oi 1 14 (.ld1 (.t 13)),oi 2 15 (.slc 1 (.t 14) none (some (.c (.int .i64 1))) none),oi 3 2 (.mv (.t 15))] (some [2])) (.ret))
 (.seq (.ops false [oi 0 17 (.fa 1 (.t 1)),oi 1 18 (.ld1 (.t 17)),oi 2 19 (.bin .eql (.t 18) (.c (.int .i64 8))),oi 3 16 (.mv (.t 19))] (some [1,16])) (.cond (.t 16) (.seq (.ops false [oi 0 20 (.fa 11 (.t 1)),oi 1 21 (.ld1 (.t 20)),oi 2 2
 (.mv (.t 21))] (some [2])) (.ret)) (.seq (.ops false [oi 0 23 (.fa 1 (.t 1)),oi 1 24 (.ld1 (.t 23)),oi 2 25 (.bin .eql (.t 24) (.c (.int .i64 9))),oi 3 22 (.mv (.t 25))] (some [1,22])) (.cond (.t 22) (.seq (.ops false [oi 0 26 (.fa 9 (.t
 1)),oi 1 27 (.ld1 (.t 26)),oi 2 28 (.mkS 1 [.int .i64 0] [(0,1,(.t 27))]),oi 3 2 (.mv (.t 28))] (some [2])) (.ret)) (.skip)))))))))) (.seq (.ops false [oi 0 2 (.mv (.c .nils))] (some [2])) (.ret))),[.t 2]⟩
theorem k157:compF Tryz.prog Tryz.f157 c157=some c157:=by kernel_rfl
/-- scriptorium/value.checkNode -/
def c158:AFun:=⟨1,code158,[.t 2]⟩
theorem k158:compF Tryz.prog Tryz.f158 c158=some c158:=by kernel_rfl
/-- slices.Index[[]byte,byte] -/
def c159:AFun:=⟨2,code159,[.t 4]⟩
theorem k159:compF Tryz.prog Tryz.f159 c159=some c159:=by kernel_rfl
/-- slices.IndexFunc[[]string,string] -/
def c160:AFun:=⟨2,code160,[.t 4]⟩
theorem k160:compF Tryz.prog Tryz.f160 c160=some c160:=by kernel_rfl
/-- strings.indexFunc -/
def c161:AFun:=⟨3,.seq (.ops false [oi 0 6 (.mv (.c (.int .i64 0)))] (some [0,1,2])) (.seq (.seq (.ops false [oi 0 9 (.mv (.t 0)),oi 1 10 (.rng (.t 9))] (some [1,2,10])) (.block 0 (.loop (.seq (.ops false [oi 0 11 (.nxt (.t 10)),oi 1
 12 (.ext 0 (.t 11))] (some [1,2,10,11,12])) (.seq (.cond (.t 12) (.skip) (.exit 0)) (.block 1 (.seq (.ops false [oi 0 13 (.ext 1 (.t 11)),oi 1 14 (.ext 2 (.t 11)),oi 2 7 (.mv (.t 13)),oi 3 8 (.mv (.t 14))] (some [1,2,7,8,10])) (.seq (.ops
 false [oi 0 15 (.mv (.t 1)),oi 1 16 (.mv (.t 8)),oi 2 17 (.dyn (.t 15) [(.t 16)]),oi 3 18 (.mv (.t 2)),oi 4 19 (.binB false (.t 17) (.t 18))] (some [1,2,7,10,19])) (.cond (.t 19) (.seq (.ops false [oi 0 20 (.mv (.t 7)),oi 1 6 (.mv (.t 20))]
 (some [6])) (.ret)) (.skip)))))))))) (.seq (.ops false [oi 0 6 (.mv (.c (.int .i64 (-1))))] (some [6])) (.ret))),[.t 6]⟩
theorem k161:compF Tryz.prog Tryz.f161 c161=some c161:=by kernel_rfl
/-- unicode/utf8.ValidRune -/
def c162:AFun:=⟨1,.seq (.ops false [oi 0 2 (.mv (.c (.bool false)))] (some [0])) (.seq (.block 0 (.seq (.ops false [oi 0 4 (.mv (.t 0)),oi 1 5 (.bin .leq (.c (.int .i32 0)) (.t 4)),oi 2 6 (.mv (.t 5)),⟨3,some 7,.mv (.t 0),(some (some
 6,true)),[]⟩,⟨4,some 8,.bin .lss (.t 7) (.c (.int .i32 55296)),(some (some 6,true)),[]⟩,oi 5 9 (.pick (.t 6) (.t 8) (.c (.bool false))),oi 6 3 (.mv (.t 9))] (some [0,3])) (.cond (.t 3) (.seq (.ops false [oi 0 2 (.mv (.c (.bool true)))]
 (some [2])) (.ret)) (.seq (.ops false [oi 0 11 (.mv (.t 0)),oi 1 12 (.bin .lss (.c (.int .i32 57343)) (.t 11)),oi 2 13 (.mv (.t 12)),⟨3,some 14,.mv (.t 0),(some (some 13,true)),[]⟩,⟨4,some 15,.bin .leq (.t 14) (.c (.int .i32 1114111)),(some
 (some 13,true)),[]⟩,oi 5 16 (.pick (.t 13) (.t 15) (.c (.bool false))),oi 6 10 (.mv (.t 16))] (some [10])) (.cond (.t 10) (.seq (.ops false [oi 0 2 (.mv (.c (.bool true)))] (some [2])) (.ret)) (.skip)))))) (.seq (.ops false [oi 0 2 (.mv (.c
 (.bool false)))] (some [2])) (.ret))),[.t 2]⟩
theorem k162:compF Tryz.prog Tryz.f162 c162=some c162:=by kernel_rfl
/-- bytes.Equal -/
def c163:AFun:=⟨2,code163,[.t 4]⟩
theorem k163:compF Tryz.prog Tryz.f163 c163=some c163:=by kernel_rfl
/-- unicode/utf8.RuneCountInString -/
def c173:AFun:=⟨1,.seq (.ops false [oi 0 2 (.mv (.c (.int .i64 0)))] (some [0,2])) (.seq (.seq (.ops false [oi 0 3 (.mv (.t 0)),oi 1 4 (.rng (.t 3))] (some [2,4])) (.block 0 (.loop (.seq (.ops false [oi 0 5 (.nxt (.t 4)),oi 1 6 (.ext 0
 (.t 5))] (some [2,4,6])) (.seq (.cond (.t 6) (.skip) (.exit 0)) (.block 1 (.ops false [oi 0 7 (.mv (.t 2)),oi 1 8 (.bin .add (.t 7) (.c (.int .i64 1))),oi 2 2 (.mv (.t 8))] (some [2,4])))))))) (.seq (.ops false [oi 0 9 (.mv (.t 2)),oi 1 2
 (.mv (.t 9))] (some [2])) (.ret))),[.t 2]⟩
theorem k173:compF Tryz.prog Tryz.f173 c173=some c173:=by kernel_rfl
/-- unicode/utf8.DecodeRuneInString -/
def c174:AFun:=⟨1,.seq (.ops false [oi 0 2 (.mv (.c (.int .i32 0))),oi 1 3 (.mv (.c (.int .i64 0)))] (some [0])) (.seq (.seq (.ops false [oi 0 4 (.mv (.t 0)),oi 1 5 (.bin .neq (.t 4) (.c (.str []))),oi 2 6 (.mv (.t 5)),⟨3,some 7,.mv
 (.t 0),(some (some 6,true)),[]⟩,⟨4,some 8,.ixS (.t 7) (.c (.int .i64 0)),(some (some 6,true)),[]⟩,⟨5,some 9,.bin .lss (.t 8) (.c (.int .u8 128)),(some (some 6,true)),[]⟩,oi 6 10 (.pick (.t 6) (.t 9) (.c (.bool false)))] (some [0,10]))
 (.cond (.t 10) (.seq (.ops false [oi 0 11 (.mv (.t 0)),oi 1 12 (.ixS (.t 11) (.c (.int .i64 0))),oi 2 13 (.cvi .i32 (.t 12)),oi 3 2 (.mv (.t 13)),oi 4 3 (.mv (.c (.int .i64 1)))] (some [2,3])) (.ret)) (.ops false [oi 0 15 (.mv (.t 0)),oi 1
 16 (.call false 202 [(.t 15)]),oi 2 14 (.mv (.t 16)),oi 3 17 (.ext 0 (.t 14)),oi 4 18 (.ext 1 (.t 14)),oi 5 2 (.mv (.t 17)),oi 6 3 (.mv (.t 18))] (some [2,3])))) (.ret)),[.t 2,.t 3]⟩
theorem k174:compF Tryz.prog Tryz.f174 c174=some c174:=by kernel_rfl
/-- strconv.syntaxError -/
def c179:AFun:=⟨2,.seq (.ops false [oi 0 4 (.mv (.c .nilp))] (some [0,1])) (.seq (.ops true [oi 0 5 (.mv (.t 0)),oi 1 6 (.mv (.t 1)),⟨2,some 7,.call false 204 [(.t 6)],none,[0]⟩,⟨3,some 8,.ld1 (.g 3),none,[2]⟩,oi 4 9 (.build [.str
 [],.str [],.nili] [(0,1,(.t 5)),(1,1,(.t 7)),(2,1,(.t 8))]),oi 5 10 (.box (.t 9)),oi 6 4 (.mv (.t 10))] (some [4])) (.ret)),[.t 4]⟩
theorem k179:compF Tryz.prog Tryz.f179 c179=some c179:=by kernel_rfl
/-- strconv.rangeError -/
def c180:AFun:=⟨2,.seq (.ops false [oi 0 4 (.mv (.c .nilp))] (some [0,1])) (.seq (.ops true [oi 0 5 (.mv (.t 0)),oi 1 6 (.mv (.t 1)),⟨2,some 7,.call false 204 [(.t 6)],none,[0]⟩,⟨3,some 8,.ld1 (.g 4),none,[2]⟩,oi 4 9 (.build [.str
 [],.str [],.nili] [(0,1,(.t 5)),(1,1,(.t 7)),(2,1,(.t 8))]),oi 5 10 (.box (.t 9)),oi 6 4 (.mv (.t 10))] (some [4])) (.ret)),[.t 4]⟩
theorem k180:compF Tryz.prog Tryz.f180 c180=some c180:=by kernel_rfl
/-- strconv.baseError -/
def c181:AFun:=⟨3,.seq (.ops false [oi 0 6 (.mv (.c .nilp))] (some [0,1,2])) (.seq (.ops false [oi 0 7 (.mv (.t 0)),oi 1 8 (.mv (.t 1)),oi 2 9 (.call false 204 [(.t 8)]),oi 3 10 (.mv (.t 2)),oi 4 11 (.call false 107 [(.t 10)]),oi 5 12
 (.bin .add (.c (.str [105,110,118,97,108,105,100,32,98,97,115,101,32])) (.t 11)),oi 6 13 (.call false 205 [(.t 12)]),oi 7 14 (.build [.str [],.str [],.nili] [(0,1,(.t 7)),(1,1,(.t 9)),(2,1,(.t 13))]),oi 8 15 (.box (.t 14)),oi 9 6 (.mv (.t
 15))] (some [6])) (.ret)),[.t 6]⟩
theorem k181:compF Tryz.prog Tryz.f181 c181=some c181:=by kernel_rfl
/-- strconv.bitSizeError -/
def c182:AFun:=⟨3,.seq (.ops false [oi 0 6 (.mv (.c .nilp))] (some [0,1,2])) (.seq (.ops false [oi 0 7 (.mv (.t 0)),oi 1 8 (.mv (.t 1)),oi 2 9 (.call false 204 [(.t 8)]),oi 3 10 (.mv (.t 2)),oi 4 11 (.call false 107 [(.t 10)]),oi 5 12
 (.bin .add (.c (.str [105,110,118,97,108,105,100,32,98,105,116,32,115,105,122,101,32])) (.t 11)),oi 6 13 (.call false 205 [(.t 12)]),oi 7 14 (.build [.str [],.str [],.nili] [(0,1,(.t 7)),(1,1,(.t 9)),(2,1,(.t 13))]),oi 8 15 (.box (.t
 14)),oi 9 6 (.mv (.t 15))] (some [6])) (.ret)),[.t 6]⟩
theorem k182:compF Tryz.prog Tryz.f182 c182=some c182:=by kernel_rfl
/-- internal/strconv.FormatInt -/
def c183:AFun:=⟨2,.seq (.ops false [oi 0 4 (.mv (.c (.str [])))] (some [0,1])) (.seq (.seq (.ops false [oi 0 10 (.mv (.t 1)),oi 1 11 (.bin .eql (.t 10) (.c (.int .i64 10)))] (some [0,1,11])) (.cond (.t 11) (.seq (.seq (.ops false [oi 0
 12 (.mv (.t 0)),oi 1 13 (.bin .leq (.c (.int .i64 0)) (.t 12)),oi 2 14 (.mv (.t 13)),⟨3,some 15,.mv (.t 0),(some (some 14,true)),[]⟩,⟨4,some 16,.bin .lss (.t 15) (.c (.int .i64 100)),(some (some 14,true)),[]⟩,oi 5 17 (.pick (.t 14) (.t 16)
 (.c (.bool false)))] (some [0,17])) (.cond (.t 17) (.seq (.ops false [oi 0 18 (.mv (.t 0)),oi 1 19 (.call false 206 [(.t 18)]),oi 2 4 (.mv (.t 19))] (some [4])) (.ret)) (.skip))) (.seq (.ops false [oi 0 5 (.alloc (List.replicate 24 (.int
 .u8 0)))] (some [0,5])) (.seq (.ops false [oi 0 20 (.mv (.t 0)),oi 1 21 (.cvi .u64 (.t 20)),oi 2 6 (.mv (.t 21))] (some [0,5,6])) (.seq (.seq (.ops false [oi 0 22 (.mv (.t 0)),oi 1 23 (.bin .lss (.t 22) (.c (.int .i64 0)))] (some
 [0,5,6,23])) (.cond (.t 23) (.ops false [oi 0 24 (.mv (.t 6)),oi 1 25 (.un .neg (.t 24)),oi 2 6 (.mv (.t 25))] (some [0,5,6])) (.skip))) (.seq (.ops false [oi 0 26 (.mv (.t 6)),oi 1 27 (.call false 207 [(.t 26)]),oi 2 7 (.mv (.t 27))] (some
 [0,5,6,7])) (.seq (.ops false [oi 0 28 (.mv (.t 7)),oi 1 29 (.bin .add (.c (.int .i64 1)) (.t 28)),oi 2 30 (.slcA 24 1 (.t 5) (some (.c (.int .i64 1))) (some (.t 29))),oi 3 31 (.mv (.t 6)),oi 4 32 (.call false 208 [(.t 30),(.t 31)])] (some
 [0,5,7])) (.seq (.seq (.ops false [oi 0 33 (.mv (.t 0)),oi 1 34 (.bin .lss (.t 33) (.c (.int .i64 0)))] (some [5,7,34])) (.cond (.t 34) (.seq (.ops false [oi 0 35 (.iaA 24 1 (.t 5) (.c (.int .i64 0))),ou 1 (.st 1 (.t 35) (.c (.int .u8
 45)))] (some [5,7])) (.seq (.ops false [oi 0 36 (.mv (.t 7)),oi 1 37 (.bin .add (.c (.int .i64 1)) (.t 36)),oi 2 38 (.slcA 24 1 (.t 5) none (some (.t 37))),oi 3 39 (.b2s (.t 38)),oi 4 4 (.mv (.t 39))] (some [4])) (.ret))) (.skip))) (.seq
 (.ops false [oi 0 40 (.mv (.t 7)),oi 1 41 (.bin .add (.c (.int .i64 1)) (.t 40)),oi 2 42 (.slcA 24 1 (.t 5) (some (.c (.int .i64 1))) (some (.t 41))),oi 3 43 (.b2s (.t 42)),oi 4 4 (.mv (.t 43))] (some [4])) (.ret))))))))) (.skip))) (.seq
 (.ops false [oi 0 45 (.mv (.t 0)),oi 1 46 (.cvi .u64 (.t 45)),oi 2 47 (.mv (.t 1)),oi 3 48 (.mv (.t 0)),oi 4 49 (.bin .lss (.t 48) (.c (.int .i64 0))),oi 5 50 (.call false 209 [(.c .nils),(.t 46),(.t 47),(.t 49),(.c (.bool false))]),oi 6 44
 (.mv (.t 50)),oi 7 51 (.ext 0 (.t 44)),oi 8 52 (.ext 1 (.t 44)),oi 9 8 (.mv (.t 51)),oi 10 9 (.mv (.t 52))] (some [9])) (.seq (.ops false [oi 0 53 (.mv (.t 9)),oi 1 4 (.mv (.t 53))] (some [4])) (.ret)))),[.t 4]⟩
theorem k183:compF Tryz.prog Tryz.f183 c183=some c183:=by kernel_rfl
/-- scriptorium/format.formed -/
def c184:AFun:=⟨1,.seq (.ops false [oi 0 1 (.box (.t 0)),oi 1 2 (.mv (.c (.bool false)))] (some [1])) (.seq (.ops false [oi 0 4 (.fa 1 (.t 1)),oi 1 5 (.ld1 (.t 4)),oi 2 6 (.bin .eql (.t 5) (.c (.int .i64 2))),oi 3 3 (.mv (.t 6))] (some
 [1,3])) (.seq (.ops false [oi 0 7 (.fa 2 (.t 1)),oi 1 8 (.ld1 (.t 7)),oi 2 9 (.len false (.t 8)),oi 3 10 (.bin .eql (.t 9) (.c (.int .i64 0))),oi 4 11 (.mv (.t 10)),⟨5,some 12,.fa 1 (.t 1),(some (some 11,false)),[]⟩,⟨6,some 13,.ld1 (.t
 12),(some (some 11,false)),[]⟩,⟨7,some 14,.bin .eql (.t 13) (.c (.int .i64 1)),(some (some 11,false)),[]⟩,oi 8 15 (.pick (.t 11) (.c (.bool true)) (.t 14)),oi 9 16 (.mv (.t 15)),⟨10,some 17,.fa 7 (.t 1),(some (some 16,true)),[]⟩,⟨11,some
 18,.ld1 (.t 17),(some (some 16,true)),[]⟩,⟨12,some 19,.bin .eql (.t 18) (.c (.int .i64 0)),(some (some 16,true)),[]⟩,⟨13,some 20,.mv (.t 19),(some (some 16,true)),[]⟩,⟨14,some 21,.ldA 12 (.t 1),(some (some 20,false)),[]⟩,⟨15,some 22,.call
 false 47 [(.t 21)],(some (some 20,false)),[]⟩,⟨16,some 23,.pick (.t 20) (.c (.bool true)) (.t 22),(some (some 16,true)),[]⟩,oi 17 24 (.pick (.t 16) (.t 23) (.c (.bool false))),oi 18 25 (.mv (.t 24)),⟨19,some 26,.fa 3 (.t 1),(some (some
 25,true)),[]⟩,⟨20,some 27,.ld1 (.t 26),(some (some 25,true)),[]⟩,⟨21,some 28,.bin .eql (.t 27) (.c (.int .i64 0)),(some (some 25,true)),[]⟩,⟨22,some 29,.mv (.t 28),(some (some 25,true)),[]⟩,⟨23,some 30,.ldA 12 (.t 1),(some (some
 29,false)),[]⟩,⟨24,some 31,.call false 49 [(.t 30)],(some (some 29,false)),[]⟩,⟨25,some 32,.pick (.t 29) (.c (.bool true)) (.t 31),(some (some 25,true)),[]⟩,oi 26 33 (.pick (.t 25) (.t 32) (.c (.bool false))),oi 27 34 (.mv (.t 33)),⟨28,some
 35,.fa 4 (.t 1),(some (some 34,true)),[]⟩,⟨29,some 36,.ld1 (.t 35),(some (some 34,true)),[]⟩,⟨30,some 37,.un .not (.t 36),(some (some 34,true)),[]⟩,⟨31,some 38,.mv (.t 37),(some (some 34,true)),[]⟩,⟨32,some 39,.fa 5 (.t 1),(some (some
 38,true)),[]⟩,⟨33,some 40,.ld1 (.t 39),(some (some 38,true)),[]⟩,⟨34,some 41,.bin .eql (.t 40) (.c (.int .i64 0)),(some (some 38,true)),[]⟩,⟨35,some 42,.pick (.t 38) (.t 41) (.c (.bool false)),(some (some 34,true)),[]⟩,⟨36,some 43,.mv (.t
 42),(some (some 34,true)),[]⟩,⟨37,some 44,.mv (.t 3),(some (some 43,false)),[]⟩,⟨38,some 45,.pick (.t 43) (.c (.bool true)) (.t 44),(some (some 34,true)),[]⟩,oi 39 46 (.pick (.t 34) (.t 45) (.c (.bool false))),oi 40 47 (.mv (.t
 46)),⟨41,some 48,.fa 6 (.t 1),(some (some 47,true)),[]⟩,⟨42,some 49,.ld1 (.t 48),(some (some 47,true)),[]⟩,⟨43,some 50,.bin .eql (.t 49) (.c (.int .i64 0)),(some (some 47,true)),[]⟩,⟨44,some 51,.mv (.t 50),(some (some 47,true)),[]⟩,⟨45,some
 52,.ldA 12 (.t 1),(some (some 51,false)),[]⟩,⟨46,some 53,.call false 51 [(.t 52)],(some (some 51,false)),[]⟩,⟨47,some 54,.pick (.t 51) (.c (.bool true)) (.t 53),(some (some 47,true)),[]⟩,oi 48 55 (.pick (.t 47) (.t 54) (.c (.bool
 false))),oi 49 56 (.mv (.t 55)),⟨50,some 57,.fa 8 (.t 1),(some (some 56,true)),[]⟩,⟨51,some 58,.ld1 (.t 57),(some (some 56,true)),[]⟩,⟨52,some 59,.bin .eql (.t 58) (.c (.int .i64 0)),(some (some 56,true)),[]⟩,⟨53,some 60,.mv (.t 59),(some
 (some 56,true)),[]⟩,⟨54,some 61,.ldA 12 (.t 1),(some (some 60,false)),[]⟩,⟨55,some 62,.call false 52 [(.t 61)],(some (some 60,false)),[]⟩,⟨56,some 63,.pick (.t 60) (.c (.bool true)) (.t 62),(some (some 56,true)),[]⟩,oi 57 64 (.pick (.t 56)
 (.t 63) (.c (.bool false))),oi 58 65 (.mv (.t 64)),⟨59,some 66,.fa 9 (.t 1),(some (some 65,true)),[]⟩,⟨60,some 67,.ld1 (.t 66),(some (some 65,true)),[]⟩,⟨61,some 68,.bin .eql (.t 67) (.c (.int .i64 0)),(some (some 65,true)),[]⟩,⟨62,some
 69,.mv (.t 68),(some (some 65,true)),[]⟩,⟨63,some 70,.ldA 12 (.t 1),(some (some 69,false)),[]⟩,⟨64,some 71,.call false 54 [(.t 70)],(some (some 69,false)),[]⟩,⟨65,some 72,.pick (.t 69) (.c (.bool true)) (.t 71),(some (some 65,true)),[]⟩,oi
 66 73 (.pick (.t 65) (.t 72) (.c (.bool false))),oi 67 74 (.mv (.t 73)),⟨68,some 75,.fa 10 (.t 1),(some (some 74,true)),[]⟩,⟨69,some 76,.ld1 (.t 75),(some (some 74,true)),[]⟩,⟨70,some 77,.len false (.t 76),(some (some 74,true)),[]⟩,⟨71,some
 78,.bin .eql (.t 77) (.c (.int .i64 0)),(some (some 74,true)),[]⟩,⟨72,some 79,.mv (.t 78),(some (some 74,true)),[]⟩,⟨73,some 80,.fa 1 (.t 1),(some (some 79,false)),[]⟩,⟨74,some 81,.ld1 (.t 80),(some (some 79,false)),[]⟩,⟨75,some 82,.bin
 .eql (.t 81) (.c (.int .i64 7)),(some (some 79,false)),[]⟩,⟨76,some 83,.pick (.t 79) (.c (.bool true)) (.t 82),(some (some 74,true)),[]⟩,oi 77 84 (.pick (.t 74) (.t 83) (.c (.bool false))),oi 78 85 (.mv (.t 84)),⟨79,some 86,.fa 11 (.t
 1),(some (some 85,true)),[]⟩,⟨80,some 87,.ld1 (.t 86),(some (some 85,true)),[]⟩,⟨81,some 88,.len false (.t 87),(some (some 85,true)),[]⟩,⟨82,some 89,.bin .eql (.t 88) (.c (.int .i64 0)),(some (some 85,true)),[]⟩,⟨83,some 90,.mv (.t
 89),(some (some 85,true)),[]⟩,⟨84,some 91,.ldA 12 (.t 1),(some (some 90,false)),[]⟩,⟨85,some 92,.call false 55 [(.t 91)],(some (some 90,false)),[]⟩,⟨86,some 93,.pick (.t 90) (.c (.bool true)) (.t 92),(some (some 85,true)),[]⟩,oi 87 94
 (.pick (.t 85) (.t 93) (.c (.bool false))),oi 88 2 (.mv (.t 94))] (some [2])) (.ret))),[.t 2]⟩
theorem k184:compF Tryz.prog Tryz.f184 c184=some c184:=by kernel_rfl
/-- scriptorium/format.ranges -/
def c185:AFun:=⟨2,.seq (.ops false [oi 0 2 (.box (.t 0)),oi 1 3 (.box (.t 1)),oi 2 4 (.mv (.c (.bool false)))] (some [2,3])) (.seq (.ops false [oi 0 6 (.mkF 210 [] [(.t 3)]),oi 1 5 (.alloc [.nilf]),ou 2 (.st 1 (.t 5) (.t 6))] (some
 [2,5])) (.seq (.seq (.ops false [oi 0 7 (.fa 1 (.t 2)),oi 1 8 (.ld1 (.t 7))] (some [2,5,8])) (.block 0 (.seq (.ops false [oi 0 10 (.bin .eql (.t 8) (.c (.int .i64 2))),oi 1 9 (.mv (.t 10))] (some [2,5,8,9])) (.cond (.t 9) (.seq (.ops true
 [oi 0 11 (.fa 3 (.t 2)),oi 1 12 (.ld1 (.t 11)),oi 2 13 (.call false 155 [(.t 12),(.c (.int .i64 1)),(.c (.int .i64 4))]),oi 3 14 (.mv (.t 13)),⟨4,some 15,.fa 5 (.t 2),(some (some 14,true)),[]⟩,⟨5,some 16,.ld1 (.t 15),(some (some
 14,true)),[]⟩,⟨6,some 17,.fa 6 (.t 2),(some (some 14,true)),[]⟩,⟨7,some 18,.ld1 (.t 17),(some (some 14,true)),[]⟩,⟨8,some 19,.call false 155 [(.t 16),(.c (.int .i64 0)),(.t 18)],(some (some 14,true)),[]⟩,oi 9 20 (.pick (.t 14) (.t 19) (.c
 (.bool false))),oi 10 21 (.mv (.t 20)),⟨11,some 22,.fa 6 (.t 2),(some (some 21,true)),[]⟩,⟨12,some 23,.ld1 (.t 22),(some (some 21,true)),[]⟩,⟨13,some 24,.fa 3 (.t 2),(some (some 21,true)),[]⟩,⟨14,some 25,.ld1 (.t 24),(some (some
 21,true)),[]⟩,⟨15,some 26,.bin .mul (.c (.int .i64 8)) (.t 25),(some (some 21,true)),[]⟩,⟨16,some 27,.bin .shl (.c (.int .i64 1)) (.t 26),(some (some 21,true)),[]⟩,⟨17,some 28,.bin .lss (.t 23) (.t 27),(some (some 21,true)),[]⟩,oi 18 29
 (.pick (.t 21) (.t 28) (.c (.bool false))),oi 19 4 (.mv (.t 29))] (some [4])) (.ret)) (.seq (.ops false [oi 0 31 (.bin .eql (.t 8) (.c (.int .i64 3))),oi 1 30 (.mv (.t 31))] (some [2,5,8,30])) (.cond (.t 30) (.seq (.ops false [oi 0 32 (.fa
 6 (.t 2)),oi 1 33 (.ld1 (.t 32)),oi 2 34 (.call false 155 [(.t 33),(.c (.int .i64 0)),(.c (.int .i64 999999999))]),oi 3 35 (.mv (.t 34)),⟨4,some 36,.fa 7 (.t 2),(some (some 35,true)),[]⟩,⟨5,some 37,.ld1 (.t 36),(some (some
 35,true)),[]⟩,⟨6,some 38,.call false 155 [(.t 37),(.c (.int .i64 0)),(.c (.int .i64 255))],(some (some 35,true)),[]⟩,oi 7 39 (.pick (.t 35) (.t 38) (.c (.bool false))),oi 8 40 (.mv (.t 39)),⟨9,some 41,.fa 7 (.t 2),(some (some
 40,true)),[]⟩,⟨10,some 42,.ld1 (.t 41),(some (some 40,true)),[]⟩,⟨11,some 43,.call false 155 [(.t 42),(.c (.int .i64 48)),(.c (.int .i64 57))],(some (some 40,true)),[]⟩,⟨12,some 44,.un .not (.t 43),(some (some 40,true)),[]⟩,oi 13 45 (.pick
 (.t 40) (.t 44) (.c (.bool false))),oi 14 4 (.mv (.t 45))] (some [4])) (.ret)) (.seq (.ops false [oi 0 47 (.bin .eql (.t 8) (.c (.int .i64 4))),oi 1 46 (.mv (.t 47))] (some [2,5,8,46])) (.cond (.t 46) (.seq (.ops false [oi 0 48 (.fa 3 (.t
 2)),oi 1 49 (.ld1 (.t 48)),oi 2 50 (.call false 155 [(.t 49),(.c (.int .i64 1)),(.c (.int .i64 1000))]),oi 3 4 (.mv (.t 50))] (some [4])) (.ret)) (.seq (.ops false [oi 0 52 (.bin .eql (.t 8) (.c (.int .i64 5))),oi 1 51 (.mv (.t 52))] (some
 [2,5,8,51])) (.cond (.t 51) (.seq (.ops false [oi 0 53 (.fa 3 (.t 2)),oi 1 54 (.ld1 (.t 53)),oi 2 55 (.call false 155 [(.t 54),(.c (.int .i64 0)),(.c (.int .i64 1000))]),oi 3 56 (.mv (.t 55)),⟨4,some 57,.fa 7 (.t 2),(some (some
 56,true)),[]⟩,⟨5,some 58,.ld1 (.t 57),(some (some 56,true)),[]⟩,⟨6,some 59,.call false 155 [(.t 58),(.c (.int .i64 0)),(.c (.int .i64 255))],(some (some 56,true)),[]⟩,oi 7 60 (.pick (.t 56) (.t 59) (.c (.bool false))),oi 8 4 (.mv (.t 60))]
 (some [4])) (.ret)) (.seq (.ops false [oi 0 62 (.bin .eql (.t 8) (.c (.int .i64 9))),oi 1 61 (.mv (.t 62))] (some [2,5,8,61])) (.cond (.t 61) (.seq (.ops false [oi 0 63 (.fa 7 (.t 2)),oi 1 64 (.ld1 (.t 63)),oi 2 65 (.call false 155 [(.t
 64),(.c (.int .i64 0)),(.c (.int .i64 255))]),oi 3 66 (.mv (.t 65)),⟨4,some 67,.ld1 (.t 5),(some (some 66,true)),[]⟩,⟨5,some 68,.fa 9 (.t 2),(some (some 66,true)),[]⟩,⟨6,some 69,.ld1 (.t 68),(some (some 66,true)),[]⟩,⟨7,some 70,.dyn (.t 67)
 [(.t 69)],(some (some 66,true)),[]⟩,oi 8 71 (.pick (.t 66) (.t 70) (.c (.bool false))),oi 9 4 (.mv (.t 71))] (some [4])) (.ret)) (.seq (.ops false [oi 0 73 (.bin .eql (.t 8) (.c (.int .i64 6))),oi 1 72 (.mv (.t 73))] (some [2,5,8,72]))
 (.cond (.t 72) (.seq (.ops false [oi 0 74 (.ld1 (.t 5)),oi 1 75 (.fa 8 (.t 2)),oi 2 76 (.ld1 (.t 75)),oi 3 77 (.dyn (.t 74) [(.t 76)]),oi 4 78 (.mv (.t 77)),⟨5,some 79,.ld1 (.t 5),(some (some 78,true)),[]⟩,⟨6,some 80,.fa 9 (.t 2),(some
 (some 78,true)),[]⟩,⟨7,some 81,.ld1 (.t 80),(some (some 78,true)),[]⟩,⟨8,some 82,.dyn (.t 79) [(.t 81)],(some (some 78,true)),[]⟩,oi 9 83 (.pick (.t 78) (.t 82) (.c (.bool false))),oi 10 4 (.mv (.t 83))] (some [4])) (.ret)) (.seq (.ops
 false [oi 0 85 (.bin .eql (.t 8) (.c (.int .i64 10))),oi 1 84 (.mv (.t 85))] (some [2,5,84])) (.cond (.t 84) (.seq (.ops false [oi 0 86 (.ld1 (.t 5)),oi 1 87 (.fa 8 (.t 2)),oi 2 88 (.ld1 (.t 87)),oi 3 89 (.dyn (.t 86) [(.t 88)]),oi 4 4 (.mv
 (.t 89))] (some [4])) (.ret)) (.skip))))))))))))))))) (.seq (.ops false [oi 0 90 (.fa 11 (.t 2)),oi 1 91 (.ld1 (.t 90)),oi 2 92 (.mkF 211 [] [(.t 5)]),oi 3 93 (.call false 190 [(.t 91),(.t 92)]),oi 4 94 (.un .not (.t 93)),oi 5 4 (.mv (.t
 94))] (some [4])) (.ret)))),[.t 4]⟩
theorem k185:compF Tryz.prog Tryz.f185 c185=some c185:=by kernel_rfl
/-- slices.Contains[[]string,string] -/
def c186:AFun:=⟨2,code186,[.t 4]⟩
theorem k186:compF Tryz.prog Tryz.f186 c186=some c186:=by kernel_rfl
/-- scriptorium/format.finite$1 -/
def c187:AFun:=⟨2,.seq (.ops false [oi 0 3 (.mv (.c (.bool false)))] (some [0,1])) (.seq (.ops false [oi 0 4 (.ld1 (.t 1)),oi 1 5 (.mv (.t 0)),oi 2 6 (.ia 1 (.t 4) (.t 5)),oi 3 7 (.ld1 (.t 6)),oi 4 3 (.mv (.t 7))] (some [3])) (.ret)),
 [.t 3]⟩
theorem k187:compF Tryz.prog Tryz.f187 c187=some c187:=by kernel_rfl
/-- scriptorium/format.finite$2 -/
def c188:AFun:=⟨3,.seq (.ops false [oi 0 3 (.box (.t 0)),oi 1 4 (.mv (.c (.bool false)))] (some [1,2,3])) (.seq (.seq (.ops false [oi 0 5 (.fa 1 (.t 3)),oi 1 6 (.ld1 (.t 5))] (some [1,2,3,6])) (.block 0 (.seq (.ops false [oi 0 8 (.bin
 .eql (.t 6) (.c (.int .i64 10))),oi 1 7 (.mv (.t 8))] (some [1,2,3,6,7])) (.cond (.t 7) (.seq (.ops false [oi 0 9 (.ld1 (.t 1)),oi 1 10 (.fa 8 (.t 3)),oi 2 11 (.ld1 (.t 10)),oi 3 12 (.dyn (.t 9) [(.t 11)]),oi 4 4 (.mv (.t 12))] (some [4]))
 (.ret)) (.seq (.ops false [oi 0 14 (.bin .eql (.t 6) (.c (.int .i64 6))),oi 1 13 (.mv (.t 14))] (some [1,2,3,6,13])) (.cond (.t 13) (.seq (.ops false [oi 0 15 (.ld1 (.t 1)),oi 1 16 (.fa 8 (.t 3)),oi 2 17 (.ld1 (.t 16)),oi 3 18 (.dyn (.t 15)
 [(.t 17)]),oi 4 19 (.mv (.t 18)),⟨5,some 20,.fa 0 (.t 2),(some (some 19,true)),[]⟩,⟨6,some 21,.ld1 (.t 20),(some (some 19,true)),[]⟩,⟨7,some 22,.fa 8 (.t 3),(some (some 19,true)),[]⟩,⟨8,some 23,.ld1 (.t 22),(some (some 19,true)),[]⟩,⟨9,some
 24,.ia 12 (.t 21) (.t 23),(some (some 19,true)),[]⟩,⟨10,some 25,.ldA 12 (.t 24),(some (some 19,true)),[]⟩,⟨11,some 26,.call false 189 [(.t 25)],(some (some 19,true)),[]⟩,⟨12,some 27,.bin .eql (.t 26) (.c (.int .i64 0)),(some (some
 19,true)),[]⟩,⟨13,some 28,.mv (.t 27),(some (some 19,true)),[]⟩,⟨14,some 29,.ld1 (.t 1),(some (some 28,false)),[]⟩,⟨15,some 30,.fa 9 (.t 3),(some (some 28,false)),[]⟩,⟨16,some 31,.ld1 (.t 30),(some (some 28,false)),[]⟩,⟨17,some 32,.dyn (.t
 29) [(.t 31)],(some (some 28,false)),[]⟩,⟨18,some 33,.pick (.t 28) (.c (.bool true)) (.t 32),(some (some 19,true)),[]⟩,oi 19 34 (.pick (.t 19) (.t 33) (.c (.bool false))),oi 20 4 (.mv (.t 34))] (some [4])) (.ret)) (.seq (.ops false [oi 0 36
 (.bin .eql (.t 6) (.c (.int .i64 7))),oi 1 35 (.mv (.t 36))] (some [1,3,6,35])) (.cond (.t 35) (.seq (.ops false [oi 0 37 (.fa 11 (.t 3)),oi 1 38 (.ld1 (.t 37)),oi 2 39 (.mkF 191 [] [(.t 1)]),oi 3 40 (.call false 190 [(.t 38),(.t 39)]),oi 4
 41 (.un .not (.t 40)),oi 5 4 (.mv (.t 41))] (some [4])) (.ret)) (.seq (.ops false [oi 0 43 (.bin .eql (.t 6) (.c (.int .i64 8))),oi 1 42 (.mv (.t 43))] (some [1,3,42])) (.cond (.t 42) (.seq (.ops false [oi 0 44 (.fa 11 (.t 3)),oi 1 45 (.ld1
 (.t 44)),oi 2 46 (.ld1 (.t 1)),oi 3 47 (.call false 190 [(.t 45),(.t 46)]),oi 4 4 (.mv (.t 47))] (some [4])) (.ret)) (.skip))))))))))) (.seq (.ops false [oi 0 4 (.mv (.c (.bool true)))] (some [4])) (.ret))),[.t 4]⟩
theorem k188:compF Tryz.prog Tryz.f188 c188=some c188:=by kernel_rfl
/-- scriptorium/format.leastNumber -/
def c189:AFun:=⟨1,.seq (.ops false [oi 0 1 (.box (.t 0)),oi 1 2 (.mv (.c (.int .i64 0)))] (some [1])) (.seq (.ops false [oi 0 3 (.fa 5 (.t 1)),oi 1 4 (.ld1 (.t 3)),oi 2 2 (.mv (.t 4))] (some [2])) (.ret)),[.t 2]⟩
theorem k189:compF Tryz.prog Tryz.f189 c189=some c189:=by kernel_rfl
/-- slices.ContainsFunc[[]int,int] -/
def c190:AFun:=⟨2,.seq (.ops false [oi 0 4 (.mv (.c (.bool false)))] (some [0,1])) (.seq (.ops false [oi 0 5 (.mv (.t 0)),oi 1 6 (.mv (.t 1)),oi 2 7 (.call false 68 [(.t 5),(.t 6)]),oi 3 8 (.bin .geq (.t 7) (.c (.int .i64 0))),oi 4 4
 (.mv (.t 8))] (some [4])) (.ret)),[.t 4]⟩
theorem k190:compF Tryz.prog Tryz.f190 c190=some c190:=by kernel_rfl
/-- scriptorium/format.finite$2$1 -/
def c191:AFun:=⟨2,.seq (.ops false [oi 0 3 (.mv (.c (.bool false)))] (some [0,1])) (.seq (.ops false [oi 0 4 (.ld1 (.t 1)),oi 1 5 (.mv (.t 0)),oi 2 6 (.dyn (.t 4) [(.t 5)]),oi 3 7 (.un .not (.t 6)),oi 4 3 (.mv (.t 7))] (some [3]))
 (.ret)),[.t 3]⟩
theorem k191:compF Tryz.prog Tryz.f191 c191=some c191:=by kernel_rfl
/-- (*strings.Builder).Grow -/
def c192:AFun:=⟨2,.seq (.ops false [oi 0 4 (.mv (.t 0)),oi 1 5 (.call false 212 [(.t 4)])] (some [0,1])) (.seq (.seq (.ops false [oi 0 6 (.mv (.t 1)),oi 1 7 (.bin .lss (.t 6) (.c (.int .i64 0)))] (some [0,1,7])) (.cond (.t 7) (.ops
 false [oi 0 8 (.mkI 9 (.c (.str [115,116,114,105,110,103,115,46,66,117,105,108,100,101,114,46,71,114,111,119,58,32,110,101,103,97,116,105,118,101,32,99,111,117,110,116]))),ou 1 .stop] (some [0,1])) (.skip))) (.seq (.ops true [oi 0 9 (.mv
 (.t 0)),oi 1 10 (.nilck (.t 9)),oi 2 11 (.fa 1 (.t 10)),oi 3 12 (.ld1 (.t 11)),oi 4 13 (.cap (.t 12)),oi 5 14 (.mv (.t 0)),oi 6 15 (.nilck (.t 14)),oi 7 16 (.fa 1 (.t 15)),oi 8 17 (.ld1 (.t 16)),oi 9 18 (.len false (.t 17)),oi 10 19 (.bin
 .sub (.t 13) (.t 18)),oi 11 20 (.mv (.t 1)),oi 12 21 (.bin .lss (.t 19) (.t 20))] (some [0,1,21])) (.cond (.t 21) (.ops false [oi 0 22 (.mv (.t 0)),oi 1 23 (.mv (.t 1)),oi 2 24 (.call false 213 [(.t 22),(.t 23)])] (some [])) (.skip)))),[]⟩
theorem k192:compF Tryz.prog Tryz.f192 c192=some c192:=by kernel_rfl
/-- (*strings.Builder).WriteString -/
def c193:AFun:=⟨2,.seq (.ops false [oi 0 4 (.mv (.c (.int .i64 0))),oi 1 5 (.mv (.c .nili))] (some [0,1])) (.seq (.ops false [oi 0 6 (.mv (.t 0)),oi 1 7 (.call false 212 [(.t 6)])] (some [0,1])) (.seq (.ops false [oi 0 8 (.mv (.t
 0)),oi 1 9 (.mv (.t 0)),oi 2 10 (.nilck (.t 9)),oi 3 11 (.fa 1 (.t 10)),oi 4 12 (.ld1 (.t 11)),oi 5 13 (.mv (.t 1)),oi 6 14 (.app false 1 1 (.t 12) (.t 13)),oi 7 15 (.nilck (.t 8)),oi 8 16 (.fa 1 (.t 15)),ou 9 (.st 1 (.t 16) (.t 14))] (some
 [1])) (.seq (.ops false [oi 0 17 (.mv (.t 1)),oi 1 18 (.len true (.t 17)),oi 2 4 (.mv (.t 18)),oi 3 5 (.mv (.c .nili))] (some [4,5])) (.ret)))),[.t 4,.t 5]⟩
theorem k193:compF Tryz.prog Tryz.f193 c193=some c193:=by kernel_rfl
/-- (*strings.Builder).String -/
def c194:AFun:=⟨1,.seq (.ops false [oi 0 2 (.mv (.c (.str [])))] (some [0])) (.seq (.ops true [oi 0 3 (.mv (.t 0)),oi 1 4 (.nilck (.t 3)),oi 2 5 (.fa 1 (.t 4)),oi 3 6 (.ld1 (.t 5)),oi 4 7 .stop,oi 5 8 (.mv (.t 0)),oi 6 9 (.nilck (.t
 8)),oi 7 10 (.fa 1 (.t 9)),oi 8 11 (.ld1 (.t 10)),oi 9 12 (.len false (.t 11)),oi 10 13 .stop,oi 11 2 (.mv (.t 13))] (some [2])) (.ret)),[.t 2]⟩
theorem k194:compF Tryz.prog Tryz.f194 c194=some c194:=by kernel_rfl
/-- scriptorium/format.own$1 -/
def c195:AFun:=⟨3,.seq (.ops false [oi 0 6 (.mv (.t 0)),oi 1 5 (.mv (.t 6))] (some [1,2,5])) (.block 0 (.loop (.seq (.seq (.ops false [oi 0 7 (.mv (.t 5)),oi 1 8 (.mv (.t 1)),oi 2 9 (.bin .leq (.t 7) (.t 8))] (some [1,2,5,9])) (.cond
 (.t 9) (.skip) (.exit 0))) (.seq (.block 1 (.ops false [oi 0 12 (.mv (.t 5)),oi 1 13 (.bin .rem (.t 12) (.c (.int .i64 256))),oi 2 14 (.iaA 256 1 (.t 2) (.t 13)),ou 3 (.st 1 (.t 14) (.c (.bool true)))] (some [1,2,5]))) (.ops false [oi 0 10
 (.mv (.t 5)),oi 1 11 (.bin .add (.t 10) (.c (.int .i64 1))),oi 2 5 (.mv (.t 11))] (some [1,2,5])))))),[]⟩
theorem k195:compF Tryz.prog Tryz.f195 c195=some c195:=by kernel_rfl
/-- scriptorium/value.checkNode$1 -/
def c196:AFun:=⟨2,code196,[.t 3]⟩
theorem k196:compF Tryz.prog Tryz.f196 c196=some c196:=by kernel_rfl
/-- slices.ContainsFunc[[]string,string] -/
def c197:AFun:=⟨2,code197,[.t 4]⟩
theorem k197:compF Tryz.prog Tryz.f197 c197=some c197:=by kernel_rfl
/-- scriptorium/value.checkNode$2 -/
def c198:AFun:=⟨1,code198,[.t 2]⟩
theorem k198:compF Tryz.prog Tryz.f198 c198=some c198:=by kernel_rfl
/-- internal/stringslite.Clone -/
def c204:AFun:=⟨1,.seq (.ops false [oi 0 2 (.mv (.c (.str [])))] (some [0])) (.seq (.seq (.ops false [oi 0 4 (.mv (.t 0)),oi 1 5 (.len true (.t 4)),oi 2 6 (.bin .eql (.t 5) (.c (.int .i64 0)))] (some [0,6])) (.cond (.t 6) (.seq (.ops
 false [oi 0 2 (.mv (.c (.str [])))] (some [2])) (.ret)) (.skip))) (.seq (.ops false [oi 0 7 (.mv (.t 0)),oi 1 8 (.len true (.t 7)),oi 2 9 (.mkM 1 1 [.int .u8 0] (.t 8) (.t 8)),oi 3 3 (.mv (.t 9))] (some [0,3])) (.seq (.ops false [oi 0 10
 (.mv (.t 3)),oi 1 11 (.mv (.t 0)),oi 2 12 (.cpy 1 (.t 10) (.t 11))] (some [3])) (.seq (.ops false [oi 0 13 (.mv (.t 3)),oi 1 14 (.ia 1 (.t 13) (.c (.int .i64 0))),oi 2 15 (.mv (.t 3)),oi 3 16 (.len false (.t 15)),oi 4 17 .stop,oi 5 2 (.mv
 (.t 17))] (some [2])) (.ret))))),[.t 2]⟩
theorem k204:compF Tryz.prog Tryz.f204 c204=some c204:=by kernel_rfl
/-- errors.New -/
def c205:AFun:=⟨1,.seq (.ops false [oi 0 2 (.mv (.c .nili))] (some [0])) (.seq (.ops false [oi 0 3 (.mv (.t 0)),oi 1 4 (.build [.str []] [(0,1,(.t 3))]),oi 2 5 (.box (.t 4)),oi 3 6 (.mkI 274 (.t 5)),oi 4 2 (.mv (.t 6))] (some [2]))
 (.ret)),[.t 2]⟩
theorem k205:compF Tryz.prog Tryz.f205 c205=some c205:=by kernel_rfl
/-- internal/strconv.small -/
def c206:AFun:=⟨1,.seq (.ops false [oi 0 2 (.mv (.c (.str [])))] (some [0])) (.seq (.seq (.ops false [oi 0 3 (.mv (.t 0)),oi 1 4 (.bin .lss (.t 3) (.c (.int .i64 10)))] (some [0,4])) (.cond (.t 4) (.seq (.ops false [oi 0 5 (.mv (.t
 0)),oi 1 6 (.mv (.t 0)),oi 2 7 (.bin .add (.t 6) (.c (.int .i64 1))),oi 3 8 (.slcS (.c (.str [48,49,50,51,52,53,54,55,56,57,97,98,99,100,101,102,103,104,105,106,107,108,109,110,111,112,113,114,115,116,117,118,119,120,121,122])) (some (.t
 5)) (some (.t 7))),oi 4 2 (.mv (.t 8))] (some [2])) (.ret)) (.skip))) (.seq (.ops false [oi 0 9 (.mv (.t 0)),oi 1 10 (.bin .mul (.t 9) (.c (.int .i64 2))),oi 2 11 (.mv (.t 0)),oi 3 12 (.bin .mul (.t 11) (.c (.int .i64 2))),oi 4 13 (.bin
 .add (.t 12) (.c (.int .i64 2))),oi 5 14 (.slcS (.c (.str
 [48,48,48,49,48,50,48,51,48,52,48,53,48,54,48,55,48,56,48,57,49,48,49,49,49,50,49,51,49,52,49,53,49,54,49,55,49,56,49,57,50,48,50,49,50,50,50,51,50,52,50,53,50,54,50,55,50,56,50,57,51,48,51,49,51,50,51,51,51,52,51,53,51,54,51,55,51,56,51,57,52,48,52,49,52,50,52,51,52,52,52,53,52,54,52,55,52,56,52,57,53,48,53,49,53,50,53,51,53,52,53,53,53,54,53,55,53,56,53,57,54,48,54,49,54,50,54,51,54,52,54,53,54,54,54,55,54,56,54,57,55,48,55,49,55,50,55,51,55,52,55,53,55,54,55,55,55,56,55,57,56,48,56,49,56,50,56,51,56,52,56,53,56,54,56,55,56,56,56,57,57,48,57,49,57,50,57,51,57,52,57,53,57,54,57,55,57,56,57,57]))
 (some (.t 10)) (some (.t 13))),oi 6 2 (.mv (.t 14))] (some [2])) (.ret))),[.t 2]⟩
theorem k206:compF Tryz.prog Tryz.f206 c206=some c206:=by kernel_rfl
/-- internal/strconv.numDigits -/
def c207:AFun:=⟨1,.seq (.ops false [oi 0 2 (.mv (.c (.int .i64 0)))] (some [0])) (.seq (.ops false [oi 0 4 (.mv (.t 0)),oi 1 5 (.call false 219 [(.t 4)]),oi 2 6 (.call false 218 [(.t 5)]),oi 3 3 (.mv (.t 6))] (some [0,3])) (.seq (.ops
 false [oi 0 7 (.mv (.t 3)),oi 1 8 (.mv (.t 0)),oi 2 9 (.mv (.t 3)),oi 3 10 (.iaA 20 1 (.g 7) (.t 9)),oi 4 11 (.ld1 (.t 10)),oi 5 12 (.bin .geq (.t 8) (.t 11)),oi 6 13 (.call false 220 [(.t 12)]),oi 7 14 (.bin .add (.t 7) (.t 13)),oi 8 2
 (.mv (.t 14))] (some [2])) (.ret))),[.t 2]⟩
theorem k207:compF Tryz.prog Tryz.f207 c207=some c207:=by kernel_rfl
/-- internal/strconv.formatBase10 -/
def c208:AFun:=⟨2,.seq (.ops false [oi 0 17 (.mv (.t 0)),oi 1 18 (.len false (.t 17)),oi 2 4 (.mv (.t 18))] (some [0,1,4])) (.seq (.block 0 (.loop (.seq (.seq (.ops false [oi 0 19 (.mv (.t 4)),oi 1 20 (.bin .geq (.t 19) (.c (.int .i64
 8)))] (some [0,1,4,20])) (.cond (.t 20) (.skip) (.exit 0))) (.block 1 (.seq (.ops false [oi 0 21 (.mv (.t 1)),oi 1 22 (.bin .rem (.t 21) (.c (.int .u64 100000000))),oi 2 23 (.cvi .u32 (.t 22)),oi 3 5 (.mv (.t 23))] (some [0,1,4,5])) (.seq
 (.ops false [oi 0 24 (.mv (.t 1)),oi 1 25 (.bin .quo (.t 24) (.c (.int .u64 100000000))),oi 2 1 (.mv (.t 25))] (some [0,1,4,5])) (.seq (.ops false [oi 0 26 (.mv (.t 5)),oi 1 27 (.bin .quo (.t 26) (.c (.int .u32 10000))),oi 2 28 (.mv (.t
 5)),oi 3 29 (.bin .rem (.t 28) (.c (.int .u32 10000))),oi 4 6 (.mv (.t 27)),oi 5 7 (.mv (.t 29))] (some [0,1,4,6,7])) (.seq (.ops false [oi 0 30 (.mv (.t 7)),oi 1 31 (.bin .quo (.t 30) (.c (.int .u32 100))),oi 2 32 (.bin .mul (.t 31) (.c
 (.int .u32 2))),oi 3 33 (.mv (.t 7)),oi 4 34 (.bin .rem (.t 33) (.c (.int .u32 100))),oi 5 35 (.bin .mul (.t 34) (.c (.int .u32 2))),oi 6 8 (.mv (.t 32)),oi 7 9 (.mv (.t 35))] (some [0,1,4,6,8,9])) (.seq (.ops false [oi 0 36 (.mv (.t 6)),oi
 1 37 (.bin .quo (.t 36) (.c (.int .u32 100))),oi 2 38 (.bin .mul (.t 37) (.c (.int .u32 2))),oi 3 39 (.mv (.t 6)),oi 4 40 (.bin .rem (.t 39) (.c (.int .u32 100))),oi 5 41 (.bin .mul (.t 40) (.c (.int .u32 2))),oi 6 10 (.mv (.t 38)),oi 7 11
 (.mv (.t 41))] (some [0,1,4,8,9,10,11])) (.seq (.ops true [oi 0 42 (.mv (.t 0)),oi 1 43 (.mv (.t 4)),oi 2 44 (.bin .sub (.t 43) (.c (.int .i64 1))),oi 3 45 (.mv (.t 0)),oi 4 46 (.mv (.t 4)),oi 5 47 (.bin .sub (.t 46) (.c (.int .i64 2))),oi
 6 48 (.mv (.t 9)),oi 7 49 (.bin .add (.t 48) (.c (.int .u32 1))),oi 8 50 (.ixS (.c (.str
 [48,48,48,49,48,50,48,51,48,52,48,53,48,54,48,55,48,56,48,57,49,48,49,49,49,50,49,51,49,52,49,53,49,54,49,55,49,56,49,57,50,48,50,49,50,50,50,51,50,52,50,53,50,54,50,55,50,56,50,57,51,48,51,49,51,50,51,51,51,52,51,53,51,54,51,55,51,56,51,57,52,48,52,49,52,50,52,51,52,52,52,53,52,54,52,55,52,56,52,57,53,48,53,49,53,50,53,51,53,52,53,53,53,54,53,55,53,56,53,57,54,48,54,49,54,50,54,51,54,52,54,53,54,54,54,55,54,56,54,57,55,48,55,49,55,50,55,51,55,52,55,53,55,54,55,55,55,56,55,57,56,48,56,49,56,50,56,51,56,52,56,53,56,54,56,55,56,56,56,57,57,48,57,49,57,50,57,51,57,52,57,53,57,54,57,55,57,56,57,57]))
 (.t 49)),oi 9 51 (.mv (.t 9)),oi 10 52 (.ixS (.c (.str
 [48,48,48,49,48,50,48,51,48,52,48,53,48,54,48,55,48,56,48,57,49,48,49,49,49,50,49,51,49,52,49,53,49,54,49,55,49,56,49,57,50,48,50,49,50,50,50,51,50,52,50,53,50,54,50,55,50,56,50,57,51,48,51,49,51,50,51,51,51,52,51,53,51,54,51,55,51,56,51,57,52,48,52,49,52,50,52,51,52,52,52,53,52,54,52,55,52,56,52,57,53,48,53,49,53,50,53,51,53,52,53,53,53,54,53,55,53,56,53,57,54,48,54,49,54,50,54,51,54,52,54,53,54,54,54,55,54,56,54,57,55,48,55,49,55,50,55,51,55,52,55,53,55,54,55,55,55,56,55,57,56,48,56,49,56,50,56,51,56,52,56,53,56,54,56,55,56,56,56,57,57,48,57,49,57,50,57,51,57,52,57,53,57,54,57,55,57,56,57,57]))
 (.t 51)),oi 11 53 (.ia 1 (.t 42) (.t 44)),⟨12,none,.st 1 (.t 53) (.t 50),none,[10,9,5,4,3]⟩,oi 13 54 (.ia 1 (.t 45) (.t 47)),ou 14 (.st 1 (.t 54) (.t 52))] (some [0,1,4,8,10,11])) (.seq (.ops true [oi 0 55 (.mv (.t 0)),oi 1 56 (.mv (.t
 4)),oi 2 57 (.bin .sub (.t 56) (.c (.int .i64 3))),oi 3 58 (.mv (.t 0)),oi 4 59 (.mv (.t 4)),oi 5 60 (.bin .sub (.t 59) (.c (.int .i64 4))),oi 6 61 (.mv (.t 8)),oi 7 62 (.bin .add (.t 61) (.c (.int .u32 1))),oi 8 63 (.ixS (.c (.str
 [48,48,48,49,48,50,48,51,48,52,48,53,48,54,48,55,48,56,48,57,49,48,49,49,49,50,49,51,49,52,49,53,49,54,49,55,49,56,49,57,50,48,50,49,50,50,50,51,50,52,50,53,50,54,50,55,50,56,50,57,51,48,51,49,51,50,51,51,51,52,51,53,51,54,51,55,51,56,51,57,52,48,52,49,52,50,52,51,52,52,52,53,52,54,52,55,52,56,52,57,53,48,53,49,53,50,53,51,53,52,53,53,53,54,53,55,53,56,53,57,54,48,54,49,54,50,54,51,54,52,54,53,54,54,54,55,54,56,54,57,55,48,55,49,55,50,55,51,55,52,55,53,55,54,55,55,55,56,55,57,56,48,56,49,56,50,56,51,56,52,56,53,56,54,56,55,56,56,56,57,57,48,57,49,57,50,57,51,57,52,57,53,57,54,57,55,57,56,57,57]))
 (.t 62)),oi 9 64 (.mv (.t 8)),oi 10 65 (.ixS (.c (.str
 [48,48,48,49,48,50,48,51,48,52,48,53,48,54,48,55,48,56,48,57,49,48,49,49,49,50,49,51,49,52,49,53,49,54,49,55,49,56,49,57,50,48,50,49,50,50,50,51,50,52,50,53,50,54,50,55,50,56,50,57,51,48,51,49,51,50,51,51,51,52,51,53,51,54,51,55,51,56,51,57,52,48,52,49,52,50,52,51,52,52,52,53,52,54,52,55,52,56,52,57,53,48,53,49,53,50,53,51,53,52,53,53,53,54,53,55,53,56,53,57,54,48,54,49,54,50,54,51,54,52,54,53,54,54,54,55,54,56,54,57,55,48,55,49,55,50,55,51,55,52,55,53,55,54,55,55,55,56,55,57,56,48,56,49,56,50,56,51,56,52,56,53,56,54,56,55,56,56,56,57,57,48,57,49,57,50,57,51,57,52,57,53,57,54,57,55,57,56,57,57]))
 (.t 64)),oi 11 66 (.ia 1 (.t 55) (.t 57)),⟨12,none,.st 1 (.t 66) (.t 63),none,[10,9,5,4,3]⟩,oi 13 67 (.ia 1 (.t 58) (.t 60)),ou 14 (.st 1 (.t 67) (.t 65))] (some [0,1,4,10,11])) (.seq (.ops true [oi 0 68 (.mv (.t 0)),oi 1 69 (.mv (.t 4)),oi
 2 70 (.bin .sub (.t 69) (.c (.int .i64 5))),oi 3 71 (.mv (.t 0)),oi 4 72 (.mv (.t 4)),oi 5 73 (.bin .sub (.t 72) (.c (.int .i64 6))),oi 6 74 (.mv (.t 11)),oi 7 75 (.bin .add (.t 74) (.c (.int .u32 1))),oi 8 76 (.ixS (.c (.str
 [48,48,48,49,48,50,48,51,48,52,48,53,48,54,48,55,48,56,48,57,49,48,49,49,49,50,49,51,49,52,49,53,49,54,49,55,49,56,49,57,50,48,50,49,50,50,50,51,50,52,50,53,50,54,50,55,50,56,50,57,51,48,51,49,51,50,51,51,51,52,51,53,51,54,51,55,51,56,51,57,52,48,52,49,52,50,52,51,52,52,52,53,52,54,52,55,52,56,52,57,53,48,53,49,53,50,53,51,53,52,53,53,53,54,53,55,53,56,53,57,54,48,54,49,54,50,54,51,54,52,54,53,54,54,54,55,54,56,54,57,55,48,55,49,55,50,55,51,55,52,55,53,55,54,55,55,55,56,55,57,56,48,56,49,56,50,56,51,56,52,56,53,56,54,56,55,56,56,56,57,57,48,57,49,57,50,57,51,57,52,57,53,57,54,57,55,57,56,57,57]))
 (.t 75)),oi 9 77 (.mv (.t 11)),oi 10 78 (.ixS (.c (.str
 [48,48,48,49,48,50,48,51,48,52,48,53,48,54,48,55,48,56,48,57,49,48,49,49,49,50,49,51,49,52,49,53,49,54,49,55,49,56,49,57,50,48,50,49,50,50,50,51,50,52,50,53,50,54,50,55,50,56,50,57,51,48,51,49,51,50,51,51,51,52,51,53,51,54,51,55,51,56,51,57,52,48,52,49,52,50,52,51,52,52,52,53,52,54,52,55,52,56,52,57,53,48,53,49,53,50,53,51,53,52,53,53,53,54,53,55,53,56,53,57,54,48,54,49,54,50,54,51,54,52,54,53,54,54,54,55,54,56,54,57,55,48,55,49,55,50,55,51,55,52,55,53,55,54,55,55,55,56,55,57,56,48,56,49,56,50,56,51,56,52,56,53,56,54,56,55,56,56,56,57,57,48,57,49,57,50,57,51,57,52,57,53,57,54,57,55,57,56,57,57]))
 (.t 77)),oi 11 79 (.ia 1 (.t 68) (.t 70)),⟨12,none,.st 1 (.t 79) (.t 76),none,[10,9,5,4,3]⟩,oi 13 80 (.ia 1 (.t 71) (.t 73)),ou 14 (.st 1 (.t 80) (.t 78))] (some [0,1,4,10])) (.seq (.ops true [oi 0 81 (.mv (.t 0)),oi 1 82 (.mv (.t 4)),oi 2
 83 (.bin .sub (.t 82) (.c (.int .i64 7))),oi 3 84 (.mv (.t 0)),oi 4 85 (.mv (.t 4)),oi 5 86 (.bin .sub (.t 85) (.c (.int .i64 8))),oi 6 87 (.mv (.t 10)),oi 7 88 (.bin .add (.t 87) (.c (.int .u32 1))),oi 8 89 (.ixS (.c (.str
 [48,48,48,49,48,50,48,51,48,52,48,53,48,54,48,55,48,56,48,57,49,48,49,49,49,50,49,51,49,52,49,53,49,54,49,55,49,56,49,57,50,48,50,49,50,50,50,51,50,52,50,53,50,54,50,55,50,56,50,57,51,48,51,49,51,50,51,51,51,52,51,53,51,54,51,55,51,56,51,57,52,48,52,49,52,50,52,51,52,52,52,53,52,54,52,55,52,56,52,57,53,48,53,49,53,50,53,51,53,52,53,53,53,54,53,55,53,56,53,57,54,48,54,49,54,50,54,51,54,52,54,53,54,54,54,55,54,56,54,57,55,48,55,49,55,50,55,51,55,52,55,53,55,54,55,55,55,56,55,57,56,48,56,49,56,50,56,51,56,52,56,53,56,54,56,55,56,56,56,57,57,48,57,49,57,50,57,51,57,52,57,53,57,54,57,55,57,56,57,57]))
 (.t 88)),oi 9 90 (.mv (.t 10)),oi 10 91 (.ixS (.c (.str
 [48,48,48,49,48,50,48,51,48,52,48,53,48,54,48,55,48,56,48,57,49,48,49,49,49,50,49,51,49,52,49,53,49,54,49,55,49,56,49,57,50,48,50,49,50,50,50,51,50,52,50,53,50,54,50,55,50,56,50,57,51,48,51,49,51,50,51,51,51,52,51,53,51,54,51,55,51,56,51,57,52,48,52,49,52,50,52,51,52,52,52,53,52,54,52,55,52,56,52,57,53,48,53,49,53,50,53,51,53,52,53,53,53,54,53,55,53,56,53,57,54,48,54,49,54,50,54,51,54,52,54,53,54,54,54,55,54,56,54,57,55,48,55,49,55,50,55,51,55,52,55,53,55,54,55,55,55,56,55,57,56,48,56,49,56,50,56,51,56,52,56,53,56,54,56,55,56,56,56,57,57,48,57,49,57,50,57,51,57,52,57,53,57,54,57,55,57,56,57,57]))
 (.t 90)),oi 11 92 (.ia 1 (.t 81) (.t 83)),⟨12,none,.st 1 (.t 92) (.t 89),none,[10,9,5,4,3]⟩,oi 13 93 (.ia 1 (.t 84) (.t 86)),ou 14 (.st 1 (.t 93) (.t 91))] (some [0,1,4])) (.ops false [oi 0 94 (.mv (.t 4)),oi 1 95 (.bin .sub (.t 94) (.c
 (.int .i64 8))),oi 2 4 (.mv (.t 95))] (some [0,1,4]))))))))))))))) (.seq (.ops false [oi 0 96 (.mv (.t 1)),oi 1 97 (.cvi .u32 (.t 96)),oi 2 12 (.mv (.t 97))] (some [0,4,12])) (.seq (.seq (.ops false [oi 0 98 (.mv (.t 4)),oi 1 99 (.bin .geq
 (.t 98) (.c (.int .i64 4)))] (some [0,4,12,99])) (.cond (.t 99) (.seq (.ops false [oi 0 100 (.mv (.t 12)),oi 1 101 (.bin .rem (.t 100) (.c (.int .u32 10000))),oi 2 13 (.mv (.t 101))] (some [0,4,12,13])) (.seq (.ops false [oi 0 102 (.mv (.t
 12)),oi 1 103 (.bin .quo (.t 102) (.c (.int .u32 10000))),oi 2 12 (.mv (.t 103))] (some [0,4,12,13])) (.seq (.ops false [oi 0 104 (.mv (.t 13)),oi 1 105 (.bin .quo (.t 104) (.c (.int .u32 100))),oi 2 106 (.bin .mul (.t 105) (.c (.int .u32
 2))),oi 3 107 (.mv (.t 13)),oi 4 108 (.bin .rem (.t 107) (.c (.int .u32 100))),oi 5 109 (.bin .mul (.t 108) (.c (.int .u32 2))),oi 6 14 (.mv (.t 106)),oi 7 15 (.mv (.t 109))] (some [0,4,12,14,15])) (.seq (.ops true [oi 0 110 (.mv (.t 0)),oi
 1 111 (.mv (.t 4)),oi 2 112 (.bin .sub (.t 111) (.c (.int .i64 1))),oi 3 113 (.mv (.t 0)),oi 4 114 (.mv (.t 4)),oi 5 115 (.bin .sub (.t 114) (.c (.int .i64 2))),oi 6 116 (.mv (.t 15)),oi 7 117 (.bin .add (.t 116) (.c (.int .u32 1))),oi 8
 118 (.ixS (.c (.str
 [48,48,48,49,48,50,48,51,48,52,48,53,48,54,48,55,48,56,48,57,49,48,49,49,49,50,49,51,49,52,49,53,49,54,49,55,49,56,49,57,50,48,50,49,50,50,50,51,50,52,50,53,50,54,50,55,50,56,50,57,51,48,51,49,51,50,51,51,51,52,51,53,51,54,51,55,51,56,51,57,52,48,52,49,52,50,52,51,52,52,52,53,52,54,52,55,52,56,52,57,53,48,53,49,53,50,53,51,53,52,53,53,53,54,53,55,53,56,53,57,54,48,54,49,54,50,54,51,54,52,54,53,54,54,54,55,54,56,54,57,55,48,55,49,55,50,55,51,55,52,55,53,55,54,55,55,55,56,55,57,56,48,56,49,56,50,56,51,56,52,56,53,56,54,56,55,56,56,56,57,57,48,57,49,57,50,57,51,57,52,57,53,57,54,57,55,57,56,57,57]))
 (.t 117)),oi 9 119 (.mv (.t 15)),oi 10 120 (.ixS (.c (.str
 [48,48,48,49,48,50,48,51,48,52,48,53,48,54,48,55,48,56,48,57,49,48,49,49,49,50,49,51,49,52,49,53,49,54,49,55,49,56,49,57,50,48,50,49,50,50,50,51,50,52,50,53,50,54,50,55,50,56,50,57,51,48,51,49,51,50,51,51,51,52,51,53,51,54,51,55,51,56,51,57,52,48,52,49,52,50,52,51,52,52,52,53,52,54,52,55,52,56,52,57,53,48,53,49,53,50,53,51,53,52,53,53,53,54,53,55,53,56,53,57,54,48,54,49,54,50,54,51,54,52,54,53,54,54,54,55,54,56,54,57,55,48,55,49,55,50,55,51,55,52,55,53,55,54,55,55,55,56,55,57,56,48,56,49,56,50,56,51,56,52,56,53,56,54,56,55,56,56,56,57,57,48,57,49,57,50,57,51,57,52,57,53,57,54,57,55,57,56,57,57]))
 (.t 119)),oi 11 121 (.ia 1 (.t 110) (.t 112)),⟨12,none,.st 1 (.t 121) (.t 118),none,[10,9,5,4,3]⟩,oi 13 122 (.ia 1 (.t 113) (.t 115)),ou 14 (.st 1 (.t 122) (.t 120))] (some [0,4,12,14])) (.seq (.ops true [oi 0 123 (.mv (.t 0)),oi 1 124 (.mv
 (.t 4)),oi 2 125 (.bin .sub (.t 124) (.c (.int .i64 3))),oi 3 126 (.mv (.t 0)),oi 4 127 (.mv (.t 4)),oi 5 128 (.bin .sub (.t 127) (.c (.int .i64 4))),oi 6 129 (.mv (.t 14)),oi 7 130 (.bin .add (.t 129) (.c (.int .u32 1))),oi 8 131 (.ixS (.c
 (.str
 [48,48,48,49,48,50,48,51,48,52,48,53,48,54,48,55,48,56,48,57,49,48,49,49,49,50,49,51,49,52,49,53,49,54,49,55,49,56,49,57,50,48,50,49,50,50,50,51,50,52,50,53,50,54,50,55,50,56,50,57,51,48,51,49,51,50,51,51,51,52,51,53,51,54,51,55,51,56,51,57,52,48,52,49,52,50,52,51,52,52,52,53,52,54,52,55,52,56,52,57,53,48,53,49,53,50,53,51,53,52,53,53,53,54,53,55,53,56,53,57,54,48,54,49,54,50,54,51,54,52,54,53,54,54,54,55,54,56,54,57,55,48,55,49,55,50,55,51,55,52,55,53,55,54,55,55,55,56,55,57,56,48,56,49,56,50,56,51,56,52,56,53,56,54,56,55,56,56,56,57,57,48,57,49,57,50,57,51,57,52,57,53,57,54,57,55,57,56,57,57]))
 (.t 130)),oi 9 132 (.mv (.t 14)),oi 10 133 (.ixS (.c (.str
 [48,48,48,49,48,50,48,51,48,52,48,53,48,54,48,55,48,56,48,57,49,48,49,49,49,50,49,51,49,52,49,53,49,54,49,55,49,56,49,57,50,48,50,49,50,50,50,51,50,52,50,53,50,54,50,55,50,56,50,57,51,48,51,49,51,50,51,51,51,52,51,53,51,54,51,55,51,56,51,57,52,48,52,49,52,50,52,51,52,52,52,53,52,54,52,55,52,56,52,57,53,48,53,49,53,50,53,51,53,52,53,53,53,54,53,55,53,56,53,57,54,48,54,49,54,50,54,51,54,52,54,53,54,54,54,55,54,56,54,57,55,48,55,49,55,50,55,51,55,52,55,53,55,54,55,55,55,56,55,57,56,48,56,49,56,50,56,51,56,52,56,53,56,54,56,55,56,56,56,57,57,48,57,49,57,50,57,51,57,52,57,53,57,54,57,55,57,56,57,57]))
 (.t 132)),oi 11 134 (.ia 1 (.t 123) (.t 125)),⟨12,none,.st 1 (.t 134) (.t 131),none,[10,9,5,4,3]⟩,oi 13 135 (.ia 1 (.t 126) (.t 128)),ou 14 (.st 1 (.t 135) (.t 133))] (some [0,4,12])) (.ops false [oi 0 136 (.mv (.t 4)),oi 1 137 (.bin .sub
 (.t 136) (.c (.int .i64 4))),oi 2 4 (.mv (.t 137))] (some [0,4,12]))))))) (.skip))) (.seq (.seq (.ops false [oi 0 138 (.mv (.t 4)),oi 1 139 (.bin .geq (.t 138) (.c (.int .i64 2)))] (some [0,4,12,139])) (.cond (.t 139) (.seq (.ops false [oi
 0 140 (.mv (.t 12)),oi 1 141 (.bin .rem (.t 140) (.c (.int .u32 100))),oi 2 142 (.bin .mul (.t 141) (.c (.int .u32 2))),oi 3 16 (.mv (.t 142))] (some [0,4,12,16])) (.seq (.ops false [oi 0 143 (.mv (.t 12)),oi 1 144 (.bin .quo (.t 143) (.c
 (.int .u32 100))),oi 2 12 (.mv (.t 144))] (some [0,4,12,16])) (.seq (.ops true [oi 0 145 (.mv (.t 0)),oi 1 146 (.mv (.t 4)),oi 2 147 (.bin .sub (.t 146) (.c (.int .i64 1))),oi 3 148 (.mv (.t 0)),oi 4 149 (.mv (.t 4)),oi 5 150 (.bin .sub (.t
 149) (.c (.int .i64 2))),oi 6 151 (.mv (.t 16)),oi 7 152 (.bin .add (.t 151) (.c (.int .u32 1))),oi 8 153 (.ixS (.c (.str
 [48,48,48,49,48,50,48,51,48,52,48,53,48,54,48,55,48,56,48,57,49,48,49,49,49,50,49,51,49,52,49,53,49,54,49,55,49,56,49,57,50,48,50,49,50,50,50,51,50,52,50,53,50,54,50,55,50,56,50,57,51,48,51,49,51,50,51,51,51,52,51,53,51,54,51,55,51,56,51,57,52,48,52,49,52,50,52,51,52,52,52,53,52,54,52,55,52,56,52,57,53,48,53,49,53,50,53,51,53,52,53,53,53,54,53,55,53,56,53,57,54,48,54,49,54,50,54,51,54,52,54,53,54,54,54,55,54,56,54,57,55,48,55,49,55,50,55,51,55,52,55,53,55,54,55,55,55,56,55,57,56,48,56,49,56,50,56,51,56,52,56,53,56,54,56,55,56,56,56,57,57,48,57,49,57,50,57,51,57,52,57,53,57,54,57,55,57,56,57,57]))
 (.t 152)),oi 9 154 (.mv (.t 16)),oi 10 155 (.ixS (.c (.str
 [48,48,48,49,48,50,48,51,48,52,48,53,48,54,48,55,48,56,48,57,49,48,49,49,49,50,49,51,49,52,49,53,49,54,49,55,49,56,49,57,50,48,50,49,50,50,50,51,50,52,50,53,50,54,50,55,50,56,50,57,51,48,51,49,51,50,51,51,51,52,51,53,51,54,51,55,51,56,51,57,52,48,52,49,52,50,52,51,52,52,52,53,52,54,52,55,52,56,52,57,53,48,53,49,53,50,53,51,53,52,53,53,53,54,53,55,53,56,53,57,54,48,54,49,54,50,54,51,54,52,54,53,54,54,54,55,54,56,54,57,55,48,55,49,55,50,55,51,55,52,55,53,55,54,55,55,55,56,55,57,56,48,56,49,56,50,56,51,56,52,56,53,56,54,56,55,56,56,56,57,57,48,57,49,57,50,57,51,57,52,57,53,57,54,57,55,57,56,57,57]))
 (.t 154)),oi 11 156 (.ia 1 (.t 145) (.t 147)),⟨12,none,.st 1 (.t 156) (.t 153),none,[10,9,5,4,3]⟩,oi 13 157 (.ia 1 (.t 148) (.t 150)),ou 14 (.st 1 (.t 157) (.t 155))] (some [0,4,12])) (.ops false [oi 0 158 (.mv (.t 4)),oi 1 159 (.bin .sub
 (.t 158) (.c (.int .i64 2))),oi 2 4 (.mv (.t 159))] (some [0,4,12]))))) (.skip))) (.seq (.ops false [oi 0 160 (.mv (.t 4)),oi 1 161 (.bin .gtr (.t 160) (.c (.int .i64 0)))] (some [0,12,161])) (.cond (.t 161) (.ops false [oi 0 162 (.mv (.t
 0)),oi 1 163 (.mv (.t 12)),oi 2 164 (.bin .add (.c (.int .u32 48)) (.t 163)),oi 3 165 (.cvi .u8 (.t 164)),oi 4 166 (.ia 1 (.t 162) (.c (.int .i64 0))),ou 5 (.st 1 (.t 166) (.t 165))] (some [])) (.skip))))))),[]⟩
theorem k208:compF Tryz.prog Tryz.f208 c208=some c208:=by kernel_rfl
/-- internal/strconv.formatBits -/
def c209:AFun:=⟨5,.seq (.ops false [oi 0 10 (.mv (.c .nils)),oi 1 11 (.mv (.c (.str [])))] (some [0,1,2,3,4,10,11])) (.seq (.seq (.ops false [oi 0 19 (.mv (.t 2)),oi 1 20 (.bin .lss (.t 19) (.c (.int .i64 2))),oi 2 21 (.mv (.t
 20)),⟨3,some 22,.mv (.t 2),(some (some 21,false)),[]⟩,⟨4,some 23,.bin .eql (.t 22) (.c (.int .i64 10)),(some (some 21,false)),[]⟩,oi 5 24 (.pick (.t 21) (.c (.bool true)) (.t 23)),oi 6 25 (.mv (.t 24)),⟨7,some 26,.mv (.t 2),(some (some
 25,false)),[]⟩,⟨8,some 27,.bin .gtr (.t 26) (.c (.int .i64 36)),(some (some 25,false)),[]⟩,oi 9 28 (.pick (.t 25) (.c (.bool true)) (.t 27))] (some [0,1,2,3,4,10,11,28])) (.cond (.t 28) (.ops false [oi 0 29 (.mkI 9 (.c (.str
 [115,116,114,99,111,110,118,58,32,105,108,108,101,103,97,108,32,65,112,112,101,110,100,73,110,116,47,70,111,114,109,97,116,73,110,116,32,98,97,115,101]))),ou 1 .stop] (some [0,1,2,3,4,10,11])) (.skip))) (.seq (.ops false [oi 0 12 (.alloc
 (List.replicate 65 (.int .u8 0)))] (some [0,1,2,3,4,10,11,12])) (.seq (.ops false [oi 0 13 (.mv (.c (.int .i64 65)))] (some [0,1,2,3,4,10,11,12,13])) (.seq (.seq (.ops false [oi 0 30 (.mv (.t 3))] (some [0,1,2,3,4,10,11,12,13,30])) (.cond
 (.t 30) (.ops false [oi 0 31 (.mv (.t 1)),oi 1 32 (.un .neg (.t 31)),oi 2 1 (.mv (.t 32))] (some [0,1,2,3,4,10,11,12,13])) (.skip))) (.seq (.seq (.ops false [oi 0 33 (.mv (.t 2)),oi 1 34 (.call false 221 [(.t 33)])] (some
 [0,1,2,3,4,10,11,12,13,34])) (.cond (.t 34) (.seq (.ops false [oi 0 35 (.mv (.t 2)),oi 1 36 (.cvi .u64 (.t 35)),oi 2 37 (.call false 222 [(.t 36)]),oi 3 38 (.cvi .u64 (.t 37)),oi 4 14 (.mv (.t 38))] (some [0,1,2,3,4,10,11,12,13,14])) (.seq
 (.ops false [oi 0 39 (.mv (.t 2)),oi 1 40 (.cvi .u64 (.t 39)),oi 2 15 (.mv (.t 40))] (some [0,1,2,3,4,10,11,12,13,14,15])) (.seq (.ops false [oi 0 41 (.mv (.t 2)),oi 1 42 (.cvi .u64 (.t 41)),oi 2 43 (.bin .sub (.t 42) (.c (.int .u64 1))),oi
 3 16 (.mv (.t 43))] (some [0,1,3,4,10,11,12,13,14,15,16])) (.seq (.block 0 (.loop (.seq (.seq (.ops false [oi 0 44 (.mv (.t 1)),oi 1 45 (.mv (.t 15)),oi 2 46 (.bin .geq (.t 44) (.t 45))] (some [0,1,3,4,10,11,12,13,14,15,16,46])) (.cond (.t
 46) (.skip) (.exit 0))) (.block 1 (.seq (.ops false [oi 0 47 (.mv (.t 13)),oi 1 48 (.bin .sub (.t 47) (.c (.int .i64 1))),oi 2 13 (.mv (.t 48))] (some [0,1,3,4,10,11,12,13,14,15,16])) (.seq (.ops false [oi 0 49 (.mv (.t 13)),oi 1 50 (.mv
 (.t 1)),oi 2 51 (.mv (.t 16)),oi 3 52 (.bin .and (.t 50) (.t 51)),oi 4 53 (.ixS (.c (.str [48,49,50,51,52,53,54,55,56,57,97,98,99,100,101,102,103,104,105,106,107,108,109,110,111,112,113,114,115,116,117,118,119,120,121,122])) (.t 52)),oi 5
 54 (.iaA 65 1 (.t 12) (.t 49)),ou 6 (.st 1 (.t 54) (.t 53))] (some [0,1,3,4,10,11,12,13,14,15,16])) (.ops false [oi 0 55 (.mv (.t 1)),oi 1 56 (.mv (.t 14)),oi 2 57 (.bin .shr (.t 55) (.t 56)),oi 3 1 (.mv (.t 57))] (some
 [0,1,3,4,10,11,12,13,14,15,16])))))))) (.seq (.ops false [oi 0 58 (.mv (.t 13)),oi 1 59 (.bin .sub (.t 58) (.c (.int .i64 1))),oi 2 13 (.mv (.t 59))] (some [0,1,3,4,10,11,12,13])) (.ops false [oi 0 60 (.mv (.t 13)),oi 1 61 (.mv (.t 1)),oi 2
 62 (.ixS (.c (.str [48,49,50,51,52,53,54,55,56,57,97,98,99,100,101,102,103,104,105,106,107,108,109,110,111,112,113,114,115,116,117,118,119,120,121,122])) (.t 61)),oi 3 63 (.iaA 65 1 (.t 12) (.t 60)),ou 4 (.st 1 (.t 63) (.t 62))] (some
 [0,3,4,10,11,12,13]))))))) (.seq (.ops false [oi 0 64 (.mv (.t 2)),oi 1 65 (.cvi .u64 (.t 64)),oi 2 17 (.mv (.t 65))] (some [0,1,3,4,10,11,12,13,17])) (.seq (.block 2 (.loop (.seq (.seq (.ops false [oi 0 66 (.mv (.t 1)),oi 1 67 (.mv (.t
 17)),oi 2 68 (.bin .geq (.t 66) (.t 67))] (some [0,1,3,4,10,11,12,13,17,68])) (.cond (.t 68) (.skip) (.exit 2))) (.block 3 (.seq (.ops false [oi 0 69 (.mv (.t 13)),oi 1 70 (.bin .sub (.t 69) (.c (.int .i64 1))),oi 2 13 (.mv (.t 70))] (some
 [0,1,3,4,10,11,12,13,17])) (.seq (.ops false [oi 0 71 (.mv (.t 1)),oi 1 72 (.mv (.t 17)),oi 2 73 (.bin .quo (.t 71) (.t 72)),oi 3 18 (.mv (.t 73))] (some [0,1,3,4,10,11,12,13,17,18])) (.seq (.ops false [oi 0 74 (.mv (.t 13)),oi 1 75 (.mv
 (.t 1)),oi 2 76 (.mv (.t 18)),oi 3 77 (.mv (.t 17)),oi 4 78 (.bin .mul (.t 76) (.t 77)),oi 5 79 (.bin .sub (.t 75) (.t 78)),oi 6 80 (.ixS (.c (.str
 [48,49,50,51,52,53,54,55,56,57,97,98,99,100,101,102,103,104,105,106,107,108,109,110,111,112,113,114,115,116,117,118,119,120,121,122])) (.t 79)),oi 7 81 (.iaA 65 1 (.t 12) (.t 74)),ou 8 (.st 1 (.t 81) (.t 80))] (some
 [0,3,4,10,11,12,13,17,18])) (.ops false [oi 0 82 (.mv (.t 18)),oi 1 1 (.mv (.t 82))] (some [0,1,3,4,10,11,12,13,17]))))))))) (.seq (.ops false [oi 0 83 (.mv (.t 13)),oi 1 84 (.bin .sub (.t 83) (.c (.int .i64 1))),oi 2 13 (.mv (.t 84))]
 (some [0,1,3,4,10,11,12,13])) (.ops false [oi 0 85 (.mv (.t 13)),oi 1 86 (.mv (.t 1)),oi 2 87 (.ixS (.c (.str
 [48,49,50,51,52,53,54,55,56,57,97,98,99,100,101,102,103,104,105,106,107,108,109,110,111,112,113,114,115,116,117,118,119,120,121,122])) (.t 86)),oi 3 88 (.iaA 65 1 (.t 12) (.t 85)),ou 4 (.st 1 (.t 88) (.t 87))] (some
 [0,3,4,10,11,12,13]))))))) (.seq (.seq (.ops false [oi 0 89 (.mv (.t 3))] (some [0,4,10,11,12,13,89])) (.cond (.t 89) (.seq (.ops false [oi 0 90 (.mv (.t 13)),oi 1 91 (.bin .sub (.t 90) (.c (.int .i64 1))),oi 2 13 (.mv (.t 91))] (some
 [0,4,10,11,12,13])) (.ops false [oi 0 92 (.mv (.t 13)),oi 1 93 (.iaA 65 1 (.t 12) (.t 92)),ou 2 (.st 1 (.t 93) (.c (.int .u8 45)))] (some [0,4,10,11,12,13]))) (.skip))) (.seq (.seq (.ops false [oi 0 94 (.mv (.t 4))] (some
 [0,10,11,12,13,94])) (.cond (.t 94) (.seq (.ops false [oi 0 95 (.mv (.t 0)),oi 1 96 (.mv (.t 13)),oi 2 97 (.slcA 65 1 (.t 12) (some (.t 96)) none),oi 3 98 (.app false 1 1 (.t 95) (.t 97)),oi 4 10 (.mv (.t 98))] (some [10,11])) (.ret))
 (.skip))) (.seq (.ops false [oi 0 99 (.mv (.t 13)),oi 1 100 (.slcA 65 1 (.t 12) (some (.t 99)) none),oi 2 101 (.b2s (.t 100)),oi 3 11 (.mv (.t 101))] (some [10,11])) (.ret))))))))),[.t 10,.t 11]⟩
theorem k209:compF Tryz.prog Tryz.f209 c209=some c209:=by kernel_rfl
/-- scriptorium/format.ranges$1 -/
def c210:AFun:=⟨2,.seq (.ops false [oi 0 3 (.mv (.c (.bool false)))] (some [0,1])) (.seq (.ops false [oi 0 4 (.mv (.t 0)),oi 1 5 (.ld1 (.t 1)),oi 2 6 (.bin .sub (.t 5) (.c (.int .i64 1))),oi 3 7 (.call false 155 [(.t 4),(.c (.int .i64
 0)),(.t 6)]),oi 4 3 (.mv (.t 7))] (some [3])) (.ret)),[.t 3]⟩
theorem k210:compF Tryz.prog Tryz.f210 c210=some c210:=by kernel_rfl
/-- scriptorium/format.ranges$2 -/
def c211:AFun:=⟨2,.seq (.ops false [oi 0 3 (.mv (.c (.bool false)))] (some [0,1])) (.seq (.ops false [oi 0 4 (.ld1 (.t 1)),oi 1 5 (.mv (.t 0)),oi 2 6 (.dyn (.t 4) [(.t 5)]),oi 3 7 (.un .not (.t 6)),oi 4 3 (.mv (.t 7))] (some [3]))
 (.ret)),[.t 3]⟩
theorem k211:compF Tryz.prog Tryz.f211 c211=some c211:=by kernel_rfl
/-- (*strings.Builder).copyCheck -/
def c212:AFun:=⟨1,.seq (.ops false [oi 0 2 (.mv (.t 0)),oi 1 3 (.nilck (.t 2)),oi 2 4 (.fa 0 (.t 3)),oi 3 5 (.ld1 (.t 4)),oi 4 6 (.isnil false 1 (.t 5))] (some [0,1,2,3,4,5,6,7,8,9,10,11,12,13])) (.cond (.t 6) (.ops false [oi 0 7 (.mv
 (.t 0)),oi 1 8 (.mv (.t 0)),oi 2 9 .stop,oi 3 10 (.call false 223 [(.t 9)]),oi 4 11 .stop,oi 5 12 (.nilck (.t 7)),oi 6 13 (.fa 0 (.t 12)),ou 7 (.st 1 (.t 13) (.t 11))] (some [])) (.seq (.ops false [oi 0 14 (.mv (.t 0)),oi 1 15 (.nilck (.t
 14)),oi 2 16 (.fa 0 (.t 15)),oi 3 17 (.ld1 (.t 16)),oi 4 18 (.mv (.t 0)),oi 5 19 .stop] (some [0,1,2,3,4,5,6,7,8,9,10,11,12,13,14,15,16,17,18,19])) (.cond (.t 19) (.stop) (.skip)))),[]⟩
theorem k212:compF Tryz.prog Tryz.f212 c212=some c212:=by kernel_rfl
/-- (*strings.Builder).grow -/
def c213:AFun:=⟨2,.seq (.ops true [oi 0 5 (.mv (.t 0)),oi 1 6 (.nilck (.t 5)),oi 2 7 (.fa 1 (.t 6)),oi 3 8 (.ld1 (.t 7)),oi 4 9 (.cap (.t 8)),oi 5 10 (.bin .mul (.c (.int .i64 2)) (.t 9)),oi 6 11 (.mv (.t 1)),oi 7 12 (.bin .add (.t 10)
 (.t 11)),oi 8 13 (.call false 224 [(.t 12)]),⟨9,some 14,.mv (.t 0),none,[8]⟩,⟨10,some 15,.nilck (.t 14),none,[8]⟩,⟨11,some 16,.fa 1 (.t 15),none,[8]⟩,⟨12,some 17,.ld1 (.t 16),none,[8]⟩,⟨13,some 18,.len false (.t 17),none,[8]⟩,oi 14 19 (.slc
 1 (.t 13) none (some (.t 18)) none),oi 15 4 (.mv (.t 19))] (some [0,4])) (.seq (.ops false [oi 0 20 (.mv (.t 4)),oi 1 21 (.mv (.t 0)),oi 2 22 (.nilck (.t 21)),oi 3 23 (.fa 1 (.t 22)),oi 4 24 (.ld1 (.t 23)),oi 5 25 (.cpy 1 (.t 20) (.t 24))]
 (some [0,4])) (.ops false [oi 0 26 (.mv (.t 0)),oi 1 27 (.mv (.t 4)),oi 2 28 (.nilck (.t 26)),oi 3 29 (.fa 1 (.t 28)),ou 4 (.st 1 (.t 29) (.t 27))] (some []))),[]⟩
theorem k213:compF Tryz.prog Tryz.f213 c213=some c213:=by kernel_rfl
/-- internal/strconv.log10Pow2 -/
def c218:AFun:=⟨1,.seq (.ops false [oi 0 2 (.mv (.c (.int .i64 0)))] (some [0])) (.seq (.ops false [oi 0 3 (.mv (.t 0)),oi 1 4 (.bin .mul (.t 3) (.c (.int .i64 78913))),oi 2 5 (.bin .shr (.t 4) (.c (.int .u64 18))),oi 3 2 (.mv (.t 5))]
 (some [2])) (.ret)),[.t 2]⟩
theorem k218:compF Tryz.prog Tryz.f218 c218=some c218:=by kernel_rfl
/-- math/bits.Len64 -/
def c219:AFun:=⟨1,.seq (.ops false [oi 0 2 (.mv (.c (.int .i64 0)))] (some [0,2])) (.seq (.seq (.ops false [oi 0 3 (.mv (.t 0)),oi 1 4 (.bin .geq (.t 3) (.c (.int .u64 4294967296)))] (some [0,2,4])) (.cond (.t 4) (.seq (.ops false [oi
 0 5 (.mv (.t 0)),oi 1 6 (.bin .shr (.t 5) (.c (.int .u64 32))),oi 2 0 (.mv (.t 6))] (some [0])) (.ops false [oi 0 2 (.mv (.c (.int .i64 32)))] (some [0,2]))) (.skip))) (.seq (.seq (.ops false [oi 0 7 (.mv (.t 0)),oi 1 8 (.bin .geq (.t 7)
 (.c (.int .u64 65536)))] (some [0,2,8])) (.cond (.t 8) (.seq (.ops false [oi 0 9 (.mv (.t 0)),oi 1 10 (.bin .shr (.t 9) (.c (.int .u64 16))),oi 2 0 (.mv (.t 10))] (some [0,2])) (.ops false [oi 0 11 (.mv (.t 2)),oi 1 12 (.bin .add (.t 11)
 (.c (.int .i64 16))),oi 2 2 (.mv (.t 12))] (some [0,2]))) (.skip))) (.seq (.seq (.ops false [oi 0 13 (.mv (.t 0)),oi 1 14 (.bin .geq (.t 13) (.c (.int .u64 256)))] (some [0,2,14])) (.cond (.t 14) (.seq (.ops false [oi 0 15 (.mv (.t 0)),oi 1
 16 (.bin .shr (.t 15) (.c (.int .u64 8))),oi 2 0 (.mv (.t 16))] (some [0,2])) (.ops false [oi 0 17 (.mv (.t 2)),oi 1 18 (.bin .add (.t 17) (.c (.int .i64 8))),oi 2 2 (.mv (.t 18))] (some [0,2]))) (.skip))) (.seq (.ops false [oi 0 19 (.mv
 (.t 2)),oi 1 20 (.mv (.t 0)),oi 2 21 (.cvi .u8 (.t 20)),oi 3 22 (.ixS (.c (.str
 [0,1,2,2,3,3,3,3,4,4,4,4,4,4,4,4,5,5,5,5,5,5,5,5,5,5,5,5,5,5,5,5,6,6,6,6,6,6,6,6,6,6,6,6,6,6,6,6,6,6,6,6,6,6,6,6,6,6,6,6,6,6,6,6,7,7,7,7,7,7,7,7,7,7,7,7,7,7,7,7,7,7,7,7,7,7,7,7,7,7,7,7,7,7,7,7,7,7,7,7,7,7,7,7,7,7,7,7,7,7,7,7,7,7,7,7,7,7,7,7,7,7,7,7,7,7,7,7,8,8,8,8,8,8,8,8,8,8,8,8,8,8,8,8,8,8,8,8,8,8,8,8,8,8,8,8,8,8,8,8,8,8,8,8,8,8,8,8,8,8,8,8,8,8,8,8,8,8,8,8,8,8,8,8,8,8,8,8,8,8,8,8,8,8,8,8,8,8,8,8,8,8,8,8,8,8,8,8,8,8,8,8,8,8,8,8,8,8,8,8,8,8,8,8,8,8,8,8,8,8,8,8,8,8,8,8,8,8,8,8,8,8,8,8,8,8,8,8,8,8,8,8,8,8,8,8]))
 (.t 21)),oi 4 23 (.cvi .i64 (.t 22)),oi 5 24 (.bin .add (.t 19) (.t 23)),oi 6 2 (.mv (.t 24))] (some [2])) (.ret))))),[.t 2]⟩
theorem k219:compF Tryz.prog Tryz.f219 c219=some c219:=by kernel_rfl
/-- internal/strconv.bool2[int] -/
def c220:AFun:=⟨1,.seq (.ops false [oi 0 2 (.mv (.c (.int .i64 0)))] (some [0])) (.seq (.seq (.ops false [oi 0 3 (.mv (.t 0))] (some [3])) (.cond (.t 3) (.seq (.ops false [oi 0 2 (.mv (.c (.int .i64 1)))] (some [2])) (.ret)) (.skip)))
 (.seq (.ops false [oi 0 2 (.mv (.c (.int .i64 0)))] (some [2])) (.ret))),[.t 2]⟩
theorem k220:compF Tryz.prog Tryz.f220 c220=some c220:=by kernel_rfl
/-- internal/strconv.isPowerOfTwo -/
def c221:AFun:=⟨1,.seq (.ops false [oi 0 2 (.mv (.c (.bool false)))] (some [0])) (.seq (.ops false [oi 0 3 (.mv (.t 0)),oi 1 4 (.mv (.t 0)),oi 2 5 (.bin .sub (.t 4) (.c (.int .i64 1))),oi 3 6 (.bin .and (.t 3) (.t 5)),oi 4 7 (.bin .eql
 (.t 6) (.c (.int .i64 0))),oi 5 2 (.mv (.t 7))] (some [2])) (.ret)),[.t 2]⟩
theorem k221:compF Tryz.prog Tryz.f221 c221=some c221:=by kernel_rfl
/-- math/bits.TrailingZeros -/
def c222:AFun:=⟨1,.seq (.ops false [oi 0 2 (.mv (.c (.int .i64 0)))] (some [0])) (.seq (.cond (.c (.bool false)) (.seq (.ops false [oi 0 3 (.mv (.t 0)),oi 1 4 (.cvi .u32 (.t 3)),oi 2 5 (.call false 225 [(.t 4)]),oi 3 2 (.mv (.t 5))]
 (some [2])) (.ret)) (.skip)) (.seq (.ops false [oi 0 6 (.mv (.t 0)),oi 1 7 (.call false 226 [(.t 6)]),oi 2 2 (.mv (.t 7))] (some [2])) (.ret))),[.t 2]⟩
theorem k222:compF Tryz.prog Tryz.f222 c222=some c222:=by kernel_rfl
/-- math/bits.TrailingZeros32 -/
def c225:AFun:=⟨1,.seq (.ops false [oi 0 2 (.mv (.c (.int .i64 0)))] (some [0])) (.seq (.seq (.ops false [oi 0 3 (.mv (.t 0)),oi 1 4 (.bin .eql (.t 3) (.c (.int .u32 0)))] (some [0,4])) (.cond (.t 4) (.seq (.ops false [oi 0 2 (.mv (.c
 (.int .i64 32)))] (some [2])) (.ret)) (.skip))) (.seq (.ops false [oi 0 5 (.mv (.t 0)),oi 1 6 (.mv (.t 0)),oi 2 7 (.un .neg (.t 6)),oi 3 8 (.bin .and (.t 5) (.t 7)),oi 4 9 (.bin .mul (.t 8) (.c (.int .u32 125613361))),oi 5 10 (.bin .shr (.t
 9) (.c (.int .u64 27))),oi 6 11 (.iaA 32 1 (.g 8) (.t 10)),oi 7 12 (.ld1 (.t 11)),oi 8 13 (.cvi .i64 (.t 12)),oi 9 2 (.mv (.t 13))] (some [2])) (.ret))),[.t 2]⟩
theorem k225:compF Tryz.prog Tryz.f225 c225=some c225:=by kernel_rfl
/-- math/bits.TrailingZeros64 -/
def c226:AFun:=⟨1,.seq (.ops false [oi 0 2 (.mv (.c (.int .i64 0)))] (some [0])) (.seq (.seq (.ops false [oi 0 3 (.mv (.t 0)),oi 1 4 (.bin .eql (.t 3) (.c (.int .u64 0)))] (some [0,4])) (.cond (.t 4) (.seq (.ops false [oi 0 2 (.mv (.c
 (.int .i64 64)))] (some [2])) (.ret)) (.skip))) (.seq (.ops false [oi 0 5 (.mv (.t 0)),oi 1 6 (.mv (.t 0)),oi 2 7 (.un .neg (.t 6)),oi 3 8 (.bin .and (.t 5) (.t 7)),oi 4 9 (.bin .mul (.t 8) (.c (.int .u64 285870213051353865))),oi 5 10 (.bin
 .shr (.t 9) (.c (.int .u64 58))),oi 6 11 (.iaA 64 1 (.g 9) (.t 10)),oi 7 12 (.ld1 (.t 11)),oi 8 13 (.cvi .i64 (.t 12)),oi 9 2 (.mv (.t 13))] (some [2])) (.ret))),[.t 2]⟩
theorem k226:compF Tryz.prog Tryz.f226 c226=some c226:=by kernel_rfl
end Go.Proofs.YtdflipbphcmpoaaGreatDoor.Cd
