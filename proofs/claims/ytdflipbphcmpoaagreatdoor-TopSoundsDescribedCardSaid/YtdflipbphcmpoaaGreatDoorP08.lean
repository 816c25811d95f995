/- A part of the proof of TopSoundsDescribed (texts K): an executor of the program's code, proved sound, and its runs. No condition. -/
import Derived.Test.YtdflipbphcmpoaaGreatDoorP07
set_option linter.unusedSimpArgs false
set_option linter.unusedVariables false
set_option maxRecDepth 100000
namespace Go.Sx
def L9_0:AC:=(.seq (.ops false [oi 0 30 (.bin .lss (.t 29) (.t 28))] (some [2,4,5,7,27,28,29,30])) (.seq (.cond (.t 30) (.skip) (.exit 0)) (.seq (.block 1 (.seq (.ops false [oi 0 31 (.ia 1 (.t 27) (.t 29)),oi 1 32 (.ld1 (.t 31)),oi 2 9
 (.mv (.t 32))] (some [2,4,5,7,9,27,28,29])) (.ops false [oi 0 33 (.mv (.t 7)),oi 1 34 (.mv (.t 9)),oi 2 35 (.cvi .u8 (.t 34)),oi 3 36 (.mv (.t 9)),oi 4 37 (.bin .shr (.t 36) (.c (.int .u64 8))),oi 5 38 (.cvi .u8 (.t 37)),oi 6 39 (.mkS 2
 [.int .u8 0,.int .u8 0] [(0,1,(.t 35)),(1,1,(.t 38))]),oi 7 40 (.app false 1 1 (.t 33) (.t 39)),oi 8 7 (.mv (.t 40))] (some [2,4,5,7,27,28,29])))) (.ops false [oi 0 41 (.bin .add (.t 29) (.c (.int .i64 1))),oi 1 29 (.mv (.t 41))] (some
 [2,4,5,7,27,28,29])))))
def T9_0:AC:=.ops false [oi 0 2 (.alloc [.int .i64 0,.int .i64 0,.nils,.nils,.nils]),oi 1 3 (.mv (.c .nils)),oi 2 4 (.alloc [.int .i64 0,.int .i64 0])] (some [0,2,4])
def T9_1:AC:=.seq (.ops false [oi 0 12 (.mv (.t 0)),oi 1 13 (.len false (.t 12)),oi 2 14 (.bin .gtr (.t 13) (.c (.int .i64 1000)))] (some [0,2,4,14])) (.cond (.t 14) (.seq (.ops false [oi 0 15 (.build [.int .i64 0,.int .i64
 0,.nils,.nils,.nils] []),oi 1 16 (.call false 28 [(.c (.int .i64 3)),(.c (.int .i64 (-1)))]),ou 2 (.st 5 (.t 2) (.t 15)),oi 3 3 (.mv (.c .nils)),ou 4 (.st 2 (.t 4) (.t 16))] (some [2,3,4])) (.ret)) (.skip))
def T9_2:AC:=.ops false [oi 0 18 (.mv (.t 0)),oi 1 19 (.call false 29 [(.t 18)]),oi 2 17 (.mv (.t 19)),oi 3 20 (.ext 0 (.t 17)),oi 4 21 (.ext 1 (.t 17)),oi 5 5 (.alloc [.int .i64 0,.int .i64 0,.int .i64 0,.nils,.nils]),ou 6 (.st 5 (.t
 5) (.t 20)),oi 7 6 (.mv (.t 21))] (some [2,4,5,6])
def T9_3:AC:=.seq (.ops false [oi 0 22 (.mv (.t 6)),oi 1 23 (.un .not (.t 22))] (some [2,4,5,23])) (.cond (.t 23) (.seq (.ops false [oi 0 24 (.build [.int .i64 0,.int .i64 0,.nils,.nils,.nils] []),oi 1 25 (.call false 28 [(.c (.int .i64
 21)),(.c (.int .i64 (-1)))]),ou 2 (.st 5 (.t 2) (.t 24)),oi 3 3 (.mv (.c .nils)),ou 4 (.st 2 (.t 4) (.t 25))] (some [2,3,4])) (.ret)) (.skip))
def T9_4:AC:=.ops false [oi 0 7 (.mv (.c .nils))] (some [2,4,5,7])
def T9_5:AC:=.seq (.ops false [oi 0 26 (.fa 3 (.t 5)),oi 1 27 (.ld1 (.t 26)),oi 2 28 (.len false (.t 27)),oi 3 29 (.mv (.c (.int .i64 0)))] (some [2,4,5,7,27,28,29])) (.block 0 (.loop L9_0))
def T9_6:AC:=.ops false [oi 0 10 (.mv (.c (.fn 30 [] [])))] (some [2,4,5,7,10])
def T9_7:AC:=.ops true [oi 15 11 (.alloc [.int .i64 0,.int .i64 0,.nils,.nils,.nils]),⟨0,some 42,.mkS 3 [.str [],.str [],.str []] [(0,1,(.c (.str [114,97,116,101]))),(1,1,(.c (.str [99,104,97,110,110,101,108,115]))),(2,1,(.c (.str
 [115,97,109,112,108,101,115])))],none,[15]⟩,⟨1,some 43,.mv (.t 10),none,[15]⟩,⟨2,some 44,.fa 0 (.t 5),none,[15]⟩,⟨3,some 45,.fa 0 (.t 44),none,[15]⟩,⟨4,some 46,.ld1 (.t 45),none,[15]⟩,⟨5,some 47,.dyn (.t 43) [(.t 46)],none,[0,15]⟩,⟨6,some
 48,.mv (.t 10),none,[5,15]⟩,⟨7,some 49,.fa 0 (.t 5),none,[5,15]⟩,⟨8,some 50,.fa 1 (.t 49),none,[5,15]⟩,⟨9,some 51,.ld1 (.t 50),none,[5,15]⟩,⟨10,some 52,.dyn (.t 48) [(.t 51)],none,[0,15]⟩,⟨11,some 53,.mv (.t 7),none,[10,5,15]⟩,⟨12,some
 54,.build [.int .i64 0,.int .i64 0,.nils,.nils,.nils] [(0,1,(.c (.int .i64 2))),(2,1,(.t 53))],none,[10,5,15]⟩,⟨13,some 55,.mkS 3 [.int .i64 0,.int .i64 0,.nils,.nils,.nils,.int .i64 0,.int .i64 0,.nils,.nils,.nils,.int .i64 0,.int .i64
 0,.nils,.nils,.nils] [(0,5,(.t 47)),(5,5,(.t 52)),(10,5,(.t 54))],none,[15]⟩,⟨14,some 56,.build [.int .i64 0,.int .i64 0,.nils,.nils,.nils] [(0,1,(.c (.int .i64 4))),(3,1,(.t 42)),(4,1,(.t 55))],none,[15]⟩,ou 16 (.st 5 (.t 11) (.t 56))]
 (some [2,4,5,11])
def T9_8:AC:=.seq (.ops false [oi 0 57 (.ldA 5 (.t 11)),oi 1 58 (.call false 25 [(.t 57)]),oi 2 59 (.build [.int .i64 0,.int .i64 0] []),oi 3 60 (.eqA true 2 (.t 58) (.t 59))] (some [2,4,5,11,60])) (.cond (.t 60) (.seq (.ops false [oi 0
 61 (.build [.int .i64 0,.int .i64 0,.nils,.nils,.nils] []),oi 1 62 (.call false 28 [(.c (.int .i64 21)),(.c (.int .i64 (-1)))]),ou 2 (.st 5 (.t 2) (.t 61)),oi 3 3 (.mv (.c .nils)),ou 4 (.st 2 (.t 4) (.t 62))] (some [2,3,4])) (.ret))
 (.skip))
def T9_9:AC:=.ops true [oi 0 63 (.ldA 5 (.t 11)),oi 1 64 (.fa 0 (.t 5)),oi 2 65 (.fa 2 (.t 64)),oi 3 66 (.ld1 (.t 65)),oi 4 67 (.fa 4 (.t 5)),oi 5 68 (.ld1 (.t 67)),⟨6,some 69,.call false 31 [(.t 66),(.t 68)],none,[0]⟩,⟨7,some 70,.build
 [.int .i64 0,.int .i64 0] [],none,[6]⟩,⟨8,none,.st 5 (.t 2) (.t 63),none,[7]⟩,oi 9 3 (.mv (.t 69)),ou 10 (.st 2 (.t 4) (.t 70))] (some [2,3,4])
def T9_10:AC:=.ret
def code9:AC:=.seq T9_0 (.seq T9_1 (.seq T9_2 (.seq T9_3 (.seq T9_4 (.seq T9_5 (.seq T9_6 (.seq T9_7 (.seq T9_8 (.seq T9_9 T9_10)))))))))
def L29_0:AC:=(.seq (.ops false [oi 0 22 (.bin .lss (.t 21) (.t 20))] (some [2,4,6,7,19,20,21,22])) (.seq (.cond (.t 22) (.skip) (.exit 0)) (.seq (.block 1 (.seq (.ops false [oi 0 23 (.mv (.t 21)),oi 1 24 (.ia 2 (.t 19) (.t 21)),oi 2 25
 (.ldA 2 (.t 24)),oi 3 9 (.alloc [.int .u8 0,.nils]),oi 4 8 (.mv (.t 23)),ou 5 (.st 2 (.t 9) (.t 25))] (some [2,4,6,7,8,9,19,20,21])) (.seq (.ops false [oi 0 26 (.fa 0 (.t 9)),oi 1 27 (.ld1 (.t 26))] (some [2,4,6,7,8,9,19,20,21,27])) (.block
 2 (.seq (.ops false [oi 0 37 (.bin .eql (.t 27) (.c (.int .u8 70))),oi 1 36 (.mv (.t 37))] (some [2,4,6,7,8,9,19,20,21,27,36])) (.cond (.t 36) (.seq (.seq (.ops false [oi 0 38 (.fa 1 (.t 9)),oi 1 39 (.ld1 (.t 38)),oi 2 40 (.len false (.t
 39)),oi 3 41 (.bin .neq (.t 40) (.c (.int .i64 4)))] (some [2,4,6,7,9,19,20,21,41])) (.cond (.t 41) (.seq (.ops false [oi 0 42 (.build [.int .i64 0,.int .i64 0,.int .i64 0,.nils,.nils] []),ou 1 (.st 5 (.t 2) (.t 42)),oi 2 3 (.mv (.c (.bool
 false)))] (some [2,3])) (.ret)) (.skip))) (.seq (.ops true [oi 0 43 (.fa 1 (.t 9)),oi 1 44 (.ld1 (.t 43)),oi 2 45 (.ia 1 (.t 44) (.c (.int .i64 0))),oi 3 46 (.ld1 (.t 45)),oi 4 47 (.cvi .i64 (.t 46)),oi 5 48 (.bin .shl (.t 47) (.c (.int
 .u64 8))),oi 6 49 (.fa 1 (.t 9)),oi 7 50 (.ld1 (.t 49)),oi 8 51 (.ia 1 (.t 50) (.c (.int .i64 1))),oi 9 52 (.ld1 (.t 51)),oi 10 53 (.cvi .i64 (.t 52)),oi 11 54 (.bin .or (.t 48) (.t 53)),oi 12 55 (.fa 1 (.t 9)),oi 13 56 (.ld1 (.t 55)),oi 14
 57 (.ia 1 (.t 56) (.c (.int .i64 2))),oi 15 58 (.ld1 (.t 57)),oi 16 59 (.cvi .i64 (.t 58)),oi 17 60 (.fa 1 (.t 9)),oi 18 61 (.ld1 (.t 60)),oi 19 62 (.ia 1 (.t 61) (.c (.int .i64 3))),oi 20 63 (.ld1 (.t 62)),oi 21 64 (.cvi .i64 (.t 63)),oi
 22 65 (.build [.int .i64 0,.int .i64 0,.int .i64 0] [(0,1,(.t 54)),(1,1,(.t 59)),(2,1,(.t 64))]),oi 23 66 (.fa 0 (.t 6)),ou 24 (.st 3 (.t 66) (.t 65))] (some [2,4,6,7,9,19,20,21])) (.ops false [oi 0 67 (.mv (.t 7)),oi 1 68 (.fa 0 (.t 9)),oi
 2 69 (.ld1 (.t 68)),oi 3 70 (.cvi .i32 (.t 69)),oi 4 71 (.r2s (.t 70)),oi 5 72 (.bin .add (.t 67) (.t 71)),oi 6 7 (.mv (.t 72))] (some [2,4,6,7,19,20,21])))) (.seq (.ops false [oi 0 74 (.bin .eql (.t 27) (.c (.int .u8 68))),oi 1 73 (.mv (.t
 74))] (some [2,4,6,7,8,9,19,20,21,73])) (.cond (.t 73) (.ops false [oi 0 75 (.mv (.t 7)),oi 1 76 (.fa 0 (.t 9)),oi 2 77 (.ld1 (.t 76)),oi 3 78 (.cvi .i32 (.t 77)),oi 4 79 (.r2s (.t 78)),oi 5 80 (.bin .add (.t 75) (.t 79)),oi 6 7 (.mv (.t
 80))] (some [2,4,6,7,19,20,21])) (.ops false [oi 0 28 (.fa 4 (.t 6)),oi 1 29 (.ld1 (.t 28)),oi 2 30 (.ldA 2 (.t 9)),oi 3 31 (.mv (.t 8)),oi 4 32 (.build [.int .u8 0,.nils,.int .i64 0] [(0,2,(.t 30)),(2,1,(.t 31))]),oi 5 33 (.mkS 1 [.int .u8
 0,.nils,.int .i64 0] [(0,3,(.t 32))]),oi 6 34 (.app false 3 40 (.t 29) (.t 33)),oi 7 35 (.fa 4 (.t 6)),ou 8 (.st 1 (.t 35) (.t 34))] (some [2,4,6,7,19,20,21])))))))))) (.ops false [oi 0 81 (.bin .add (.t 21) (.c (.int .i64 1))),oi 1 21 (.mv
 (.t 81))] (some [2,4,6,7,19,20,21])))))
def T29_0:AC:=.ops false [oi 0 2 (.alloc [.int .i64 0,.int .i64 0,.int .i64 0,.nils,.nils]),oi 1 3 (.mv (.c (.bool false)))] (some [0,2])
def T29_1:AC:=.ops false [oi 0 12 (.mv (.t 0)),oi 1 13 (.call false 74 [(.t 12)]),oi 2 11 (.mv (.t 13)),oi 3 14 (.ext 0 (.t 11)),oi 4 15 (.ext 1 (.t 11)),oi 5 4 (.mv (.t 14)),oi 6 5 (.mv (.t 15))] (some [2,4,5])
def T29_2:AC:=.seq (.ops false [oi 0 16 (.mv (.t 5)),oi 1 17 (.un .not (.t 16))] (some [2,4,17])) (.cond (.t 17) (.seq (.ops false [oi 0 18 (.build [.int .i64 0,.int .i64 0,.int .i64 0,.nils,.nils] []),ou 1 (.st 5 (.t 2) (.t 18)),oi 2 3
 (.mv (.c (.bool false)))] (some [2,3])) (.ret)) (.skip))
def T29_3:AC:=.ops false [oi 0 6 (.alloc [.int .i64 0,.int .i64 0,.int .i64 0,.nils,.nils])] (some [2,4,6])
def T29_4:AC:=.ops false [oi 0 7 (.mv (.c (.str [])))] (some [2,4,6,7])
def T29_5:AC:=.seq (.ops false [oi 0 19 (.mv (.t 4)),oi 1 20 (.len false (.t 19)),oi 2 21 (.mv (.c (.int .i64 0)))] (some [2,4,6,7,19,20,21])) (.block 0 (.loop L29_0))
def T29_6:AC:=.seq (.ops false [oi 0 82 (.mv (.t 7)),oi 1 83 (.mkS 2 [.int .i32 0,.int .i32 0] [(0,1,(.c (.int .i32 70))),(1,1,(.c (.int .i32 68)))]),oi 2 84 (.rs2s (.t 83)),oi 3 85 (.bin .neq (.t 82) (.t 84)),oi 4 86 (.mv (.t
 85)),⟨5,some 87,.fa 0 (.t 6),(some (some 86,false)),[]⟩,⟨6,some 88,.fa 1 (.t 87),(some (some 86,false)),[]⟩,⟨7,some 89,.ld1 (.t 88),(some (some 86,false)),[]⟩,⟨8,some 90,.bin .lss (.t 89) (.c (.int .i64 1)),(some (some 86,false)),[]⟩,oi 9
 91 (.pick (.t 86) (.c (.bool true)) (.t 90)),oi 10 92 (.mv (.t 91)),⟨11,some 93,.fa 0 (.t 6),(some (some 92,false)),[]⟩,⟨12,some 94,.fa 1 (.t 93),(some (some 92,false)),[]⟩,⟨13,some 95,.ld1 (.t 94),(some (some 92,false)),[]⟩,⟨14,some
 96,.bin .gtr (.t 95) (.c (.int .i64 2)),(some (some 92,false)),[]⟩,oi 15 97 (.pick (.t 92) (.c (.bool true)) (.t 96)),oi 16 98 (.mv (.t 97)),⟨17,some 99,.fa 0 (.t 6),(some (some 98,false)),[]⟩,⟨18,some 100,.fa 2 (.t 99),(some (some
 98,false)),[]⟩,⟨19,some 101,.ld1 (.t 100),(some (some 98,false)),[]⟩,⟨20,some 102,.bin .geq (.t 101) (.c (.int .i64 4)),(some (some 98,false)),[]⟩,oi 21 103 (.pick (.t 98) (.c (.bool true)) (.t 102))] (some [2,4,6,103])) (.cond (.t 103)
 (.seq (.ops false [oi 0 104 (.build [.int .i64 0,.int .i64 0,.int .i64 0,.nils,.nils] []),ou 1 (.st 5 (.t 2) (.t 104)),oi 2 3 (.mv (.c (.bool false)))] (some [2,3])) (.ret)) (.skip))
def T29_7:AC:=.ops false [oi 0 105 (.mv (.t 4)),oi 1 106 (.mv (.t 4)),oi 2 107 (.call false 75 [(.t 106),(.c (.fn 76 [] []))]),oi 3 108 (.ia 2 (.t 105) (.t 107)),oi 4 109 (.fa 1 (.t 108)),oi 5 110 (.ld1 (.t 109)),oi 6 10 (.mv (.t 110))]
 (some [2,6,10])
def T29_8:AC:=.seq (.ops true [oi 0 111 (.mv (.t 10)),oi 1 112 (.len false (.t 111)),oi 2 113 (.fa 0 (.t 6)),oi 3 114 (.ldA 3 (.t 113)),⟨4,some 115,.call false 77 [(.t 114)],none,[1,0]⟩,⟨5,some 116,.fa 0 (.t 6),none,[4]⟩,⟨6,some 117,.fa
 1 (.t 116),none,[4]⟩,⟨7,some 118,.ld1 (.t 117),none,[4]⟩,oi 8 119 (.bin .mul (.t 115) (.t 118)),oi 9 120 (.bin .rem (.t 112) (.t 119)),oi 10 121 (.bin .neq (.t 120) (.c (.int .i64 0)))] (some [2,6,10,121])) (.cond (.t 121) (.seq (.ops false
 [oi 0 122 (.build [.int .i64 0,.int .i64 0,.int .i64 0,.nils,.nils] []),ou 1 (.st 5 (.t 2) (.t 122)),oi 2 3 (.mv (.c (.bool false)))] (some [2,3])) (.ret)) (.skip))
def T29_9:AC:=.ops false [oi 0 123 (.fa 0 (.t 6)),oi 1 124 (.ldA 3 (.t 123)),oi 2 125 (.mv (.t 10)),oi 3 126 (.call false 78 [(.t 124),(.t 125)]),oi 4 127 (.fa 3 (.t 6)),ou 5 (.st 1 (.t 127) (.t 126))] (some [2,6])
def T29_10:AC:=.ops false [oi 0 128 (.ldA 5 (.t 6)),ou 1 (.st 5 (.t 2) (.t 128)),oi 2 3 (.mv (.c (.bool true)))] (some [2,3])
def T29_11:AC:=.ret
def code29:AC:=.seq T29_0 (.seq T29_1 (.seq T29_2 (.seq T29_3 (.seq T29_4 (.seq T29_5 (.seq T29_6 (.seq T29_7 (.seq T29_8 (.seq T29_9 (.seq T29_10 T29_11))))))))))
def L74_0:AC:=(.block 1 (.seq (.block 2 (.seq (.ops false [oi 0 18 (.mv (.t 4)),oi 1 19 (.len false (.t 18)),oi 2 20 (.bin .eql (.t 19) (.c (.int .i64 1))),oi 3 21 (.mv (.t 20)),⟨4,some 22,.mv (.t 4),(some (some 21,true)),[]⟩,⟨5,some
 23,.ia 1 (.t 22) (.c (.int .i64 0)),(some (some 21,true)),[]⟩,⟨6,some 24,.ld1 (.t 23),(some (some 21,true)),[]⟩,⟨7,some 25,.bin .eql (.t 24) (.c (.int .u8 0)),(some (some 21,true)),[]⟩,oi 8 26 (.pick (.t 21) (.t 25) (.c (.bool false))),oi 9
 17 (.mv (.t 26))] (some [4,6,17])) (.cond (.t 17) (.seq (.ops false [oi 0 27 (.mv (.t 6)),oi 1 2 (.mv (.t 27)),oi 2 3 (.mv (.c (.bool true)))] (some [2,3])) (.ret)) (.seq (.ops false [oi 0 29 (.mv (.t 4)),oi 1 30 (.len false (.t 29)),oi 2
 31 (.bin .lss (.t 30) (.c (.int .i64 3))),oi 3 32 (.mv (.t 31)),⟨4,some 33,.mv (.t 4),(some (some 32,false)),[]⟩,⟨5,some 34,.ia 1 (.t 33) (.c (.int .i64 0)),(some (some 32,false)),[]⟩,⟨6,some 35,.ld1 (.t 34),(some (some
 32,false)),[]⟩,⟨7,some 36,.bin .lss (.t 35) (.c (.int .u8 65)),(some (some 32,false)),[]⟩,oi 8 37 (.pick (.t 32) (.c (.bool true)) (.t 36)),oi 9 38 (.mv (.t 37)),⟨10,some 39,.mv (.t 4),(some (some 38,false)),[]⟩,⟨11,some 40,.ia 1 (.t 39)
 (.c (.int .i64 0)),(some (some 38,false)),[]⟩,⟨12,some 41,.ld1 (.t 40),(some (some 38,false)),[]⟩,⟨13,some 42,.bin .gtr (.t 41) (.c (.int .u8 90)),(some (some 38,false)),[]⟩,oi 14 43 (.pick (.t 38) (.c (.bool true)) (.t 42)),oi 15 28 (.mv
 (.t 43))] (some [4,6,28])) (.cond (.t 28) (.seq (.ops false [oi 0 2 (.mv (.c .nils)),oi 1 3 (.mv (.c (.bool false)))] (some [2,3])) (.ret)) (.skip)))))) (.seq (.ops true [oi 0 44 (.mv (.t 4)),oi 1 45 (.ia 1 (.t 44) (.c (.int .i64 1))),oi 2
 46 (.ld1 (.t 45)),oi 3 47 (.cvi .i64 (.t 46)),oi 4 48 (.bin .shl (.t 47) (.c (.int .u64 8))),oi 5 49 (.mv (.t 4)),oi 6 50 (.ia 1 (.t 49) (.c (.int .i64 2))),oi 7 51 (.ld1 (.t 50)),oi 8 52 (.cvi .i64 (.t 51)),oi 9 53 (.bin .or (.t 48) (.t
 52)),oi 10 7 (.mv (.t 53))] (some [4,6,7])) (.seq (.seq (.ops false [oi 0 54 (.mv (.t 4)),oi 1 55 (.len false (.t 54)),oi 2 56 (.bin .sub (.t 55) (.c (.int .i64 3))),oi 3 57 (.mv (.t 7)),oi 4 58 (.bin .lss (.t 56) (.t 57))] (some
 [4,6,7,58])) (.cond (.t 58) (.seq (.ops false [oi 0 2 (.mv (.c .nils)),oi 1 3 (.mv (.c (.bool false)))] (some [2,3])) (.ret)) (.skip))) (.seq (.ops true [oi 0 59 (.mv (.t 6)),oi 1 60 (.mv (.t 4)),oi 2 61 (.ia 1 (.t 60) (.c (.int .i64
 0))),oi 3 62 (.ld1 (.t 61)),oi 4 63 (.mv (.t 4)),oi 5 64 (.mv (.t 7)),oi 6 65 (.bin .add (.c (.int .i64 3)) (.t 64)),oi 7 66 (.slc 1 (.t 63) (some (.c (.int .i64 3))) (some (.t 65)) none),oi 8 67 (.build [.int .u8 0,.nils] [(0,1,(.t
 62)),(1,1,(.t 66))]),oi 9 68 (.mkS 1 [.int .u8 0,.nils] [(0,2,(.t 67))]),oi 10 69 (.app false 2 32 (.t 59) (.t 68)),oi 11 6 (.mv (.t 69))] (some [4,6,7])) (.ops false [oi 0 70 (.mv (.t 4)),oi 1 71 (.mv (.t 7)),oi 2 72 (.bin .add (.c (.int
 .i64 3)) (.t 71)),oi 3 73 (.slc 1 (.t 70) (some (.t 72)) none none),oi 4 4 (.mv (.t 73))] (some [4,6])))))))
def code74:AC:=.seq (.ops false [oi 0 2 (.mv (.c .nils)),oi 1 3 (.mv (.c (.bool false)))] (some [0])) (.seq (.ops false [oi 0 9 (.mv (.t 0)),oi 1 10 (.mkSm 4 [.int .u8 0,.int .u8 0,.int .u8 0,.int .u8 0] [(0,1,(.c (.int .u8
 83))),(1,1,(.c (.int .u8 78))),(2,1,(.c (.int .u8 68))),(3,1,(.c (.int .u8 49)))]),oi 2 11 (.cvb (.t 10)),oi 3 12 (.call false 92 [(.t 9),(.t 11)]),oi 4 8 (.mv (.t 12)),oi 5 13 (.ext 0 (.t 8)),oi 6 14 (.ext 1 (.t 8)),oi 7 4 (.mv (.t 13)),oi
 8 5 (.mv (.t 14))] (some [4,5])) (.seq (.seq (.ops false [oi 0 15 (.mv (.t 5)),oi 1 16 (.un .not (.t 15))] (some [4,16])) (.cond (.t 16) (.seq (.ops false [oi 0 2 (.mv (.c .nils)),oi 1 3 (.mv (.c (.bool false)))] (some [2,3])) (.ret))
 (.skip))) (.seq (.ops false [oi 0 6 (.mv (.c .nils))] (some [4,6])) (.block 0 (.loop L74_0)))))
def code92:AC:=.seq (.ops false [oi 0 4 (.mv (.c .nils)),oi 1 5 (.mv (.c (.bool false)))] (some [0,1])) (.seq (.seq (.ops false [oi 0 6 (.mv (.t 0)),oi 1 7 (.mv (.t 1)),oi 2 8 (.call false 128 [(.t 6),(.t 7)]),oi 3 9 (.un .not (.t 8))]
 (some [0,1,9])) (.cond (.t 9) (.seq (.ops false [oi 0 10 (.mv (.t 0)),oi 1 4 (.mv (.t 10)),oi 2 5 (.mv (.c (.bool false)))] (some [4,5])) (.ret)) (.skip))) (.seq (.ops false [oi 0 11 (.mv (.t 0)),oi 1 12 (.mv (.t 1)),oi 2 13 (.len false (.t
 12)),oi 3 14 (.slc 1 (.t 11) (some (.t 13)) none none),oi 4 4 (.mv (.t 14)),oi 5 5 (.mv (.c (.bool true)))] (some [4,5])) (.ret)))
def code128:AC:=.seq (.ops false [oi 0 4 (.mv (.c (.bool false)))] (some [0,1])) (.seq (.ops false [oi 0 5 (.mv (.t 0)),oi 1 6 (.len false (.t 5)),oi 2 7 (.mv (.t 1)),oi 3 8 (.len false (.t 7)),oi 4 9 (.bin .geq (.t 6) (.t 8)),oi 5 10
 (.mv (.t 9)),⟨6,some 11,.mv (.t 0),(some (some 10,true)),[]⟩,⟨7,some 12,.mv (.t 1),(some (some 10,true)),[]⟩,⟨8,some 13,.len false (.t 12),(some (some 10,true)),[]⟩,⟨9,some 14,.slc 1 (.t 11) none (some (.t 13)) none,(some (some
 10,true)),[]⟩,⟨10,some 15,.mv (.t 1),(some (some 10,true)),[]⟩,⟨11,some 16,.call false 163 [(.t 14),(.t 15)],(some (some 10,true)),[]⟩,oi 12 17 (.pick (.t 10) (.t 16) (.c (.bool false))),oi 13 4 (.mv (.t 17))] (some [4])) (.ret))
def code163:AC:=.seq (.ops false [oi 0 4 (.mv (.c (.bool false)))] (some [0,1])) (.seq (.ops false [oi 0 5 (.mv (.t 0)),oi 1 6 (.b2s (.t 5)),oi 2 7 (.mv (.t 1)),oi 3 8 (.b2s (.t 7)),oi 4 9 (.bin .eql (.t 6) (.t 8)),oi 5 4 (.mv (.t 9))]
 (some [4])) (.ret))
def L75_0:AC:=(.seq (.ops false [oi 0 9 (.bin .lss (.t 8) (.t 7))] (some [0,1,7,8,9])) (.seq (.cond (.t 9) (.skip) (.exit 0)) (.seq (.block 1 (.seq (.ops false [oi 0 10 (.mv (.t 8)),oi 1 5 (.mv (.t 10))] (some [0,1,5,7,8])) (.seq (.ops
 false [oi 0 11 (.mv (.t 1)),oi 1 12 (.mv (.t 0)),oi 2 13 (.mv (.t 5)),oi 3 14 (.ia 2 (.t 12) (.t 13)),oi 4 15 (.ldA 2 (.t 14)),oi 5 16 (.dyn (.t 11) [(.t 15)])] (some [0,1,5,7,8,16])) (.cond (.t 16) (.seq (.ops false [oi 0 17 (.mv (.t
 5)),oi 1 4 (.mv (.t 17))] (some [4])) (.ret)) (.skip))))) (.ops false [oi 0 18 (.bin .add (.t 8) (.c (.int .i64 1))),oi 1 8 (.mv (.t 18))] (some [0,1,7,8])))))
def code75:AC:=.seq (.ops false [oi 0 4 (.mv (.c (.int .i64 0)))] (some [0,1])) (.seq (.seq (.ops false [oi 0 6 (.mv (.t 0)),oi 1 7 (.len false (.t 6)),oi 2 8 (.mv (.c (.int .i64 0)))] (some [0,1,7,8])) (.block 0 (.loop L75_0))) (.seq
 (.ops false [oi 0 4 (.mv (.c (.int .i64 (-1))))] (some [4])) (.ret)))
def code76:AC:=.seq (.ops false [oi 0 1 (.box (.t 0)),oi 1 2 (.mv (.c (.bool false)))] (some [1])) (.seq (.ops false [oi 0 3 (.fa 0 (.t 1)),oi 1 4 (.ld1 (.t 3)),oi 2 5 (.bin .eql (.t 4) (.c (.int .u8 68))),oi 3 2 (.mv (.t 5))] (some
 [2])) (.ret))
def code77:AC:=.seq (.ops false [oi 0 1 (.box (.t 0)),oi 1 2 (.mv (.c (.int .i64 0)))] (some [1])) (.seq (.ops false [oi 0 3 (.fa 2 (.t 1)),oi 1 4 (.ld1 (.t 3)),oi 2 5 (.bin .rem (.t 4) (.c (.int .i64 2))),oi 3 6 (.bin .add (.t 5) (.c
 (.int .i64 1))),oi 4 2 (.mv (.t 6))] (some [2])) (.ret))
def S78_1_0:AC:=.ops false [oi 0 19 (.mv (.t 1)),oi 1 20 (.mv (.t 7)),oi 2 21 (.ia 1 (.t 19) (.t 20)),oi 3 22 (.ld1 (.t 21)),oi 4 23 (.cvi .i64 (.t 22)),oi 5 8 (.mv (.t 23)),oi 6 9 (.mv (.c (.int .i64 256)))] (some [1,2,5,6,7,8,9])
def S78_1_1:AC:=.seq (.ops false [oi 0 24 (.ldA 3 (.t 2)),oi 1 25 (.call false 77 [(.t 24)]),oi 2 26 (.bin .eql (.t 25) (.c (.int .i64 2)))] (some [1,2,5,6,7,8,9,26])) (.cond (.t 26) (.ops false [oi 0 27 (.mv (.t 8)),oi 1 28 (.mv (.t
 1)),oi 2 29 (.mv (.t 7)),oi 3 30 (.bin .add (.t 29) (.c (.int .i64 1))),oi 4 31 (.ia 1 (.t 28) (.t 30)),oi 5 32 (.ld1 (.t 31)),oi 6 33 (.cvi .i64 (.t 32)),oi 7 34 (.bin .shl (.t 33) (.c (.int .u64 8))),oi 8 35 (.bin .or (.t 27) (.t 34)),oi
 9 8 (.mv (.t 35)),oi 10 9 (.mv (.c (.int .i64 65536)))] (some [1,2,5,6,7,8,9])) (.skip))
def S78_1_2:AC:=.seq (.ops false [oi 0 36 (.mv (.t 5)),oi 1 37 (.len false (.t 36)),oi 2 38 (.fa 1 (.t 2)),oi 3 39 (.ld1 (.t 38)),oi 4 40 (.bin .sub (.t 37) (.t 39)),oi 5 10 (.mv (.t 40))] (some [1,2,5,6,7,8,9,10])) (.seq (.ops false
 [oi 0 41 (.fa 2 (.t 2)),oi 1 42 (.ld1 (.t 41)),oi 2 43 (.bin .and (.t 42) (.c (.int .i64 2))),oi 3 44 (.bin .neq (.t 43) (.c (.int .i64 0))),oi 4 45 (.mv (.t 44)),⟨5,some 46,.mv (.t 10),(some (some 45,true)),[]⟩,⟨6,some 47,.bin .geq (.t 46)
 (.c (.int .i64 0)),(some (some 45,true)),[]⟩,oi 7 48 (.pick (.t 45) (.t 47) (.c (.bool false)))] (some [1,2,5,6,7,8,9,10,48])) (.cond (.t 48) (.ops false [oi 0 49 (.mv (.t 8)),oi 1 50 (.mv (.t 5)),oi 2 51 (.mv (.t 10)),oi 3 52 (.ia 1 (.t
 50) (.t 51)),oi 4 53 (.ld1 (.t 52)),oi 5 54 (.bin .add (.t 49) (.t 53)),oi 6 55 (.mv (.t 9)),oi 7 56 (.bin .rem (.t 54) (.t 55)),oi 8 8 (.mv (.t 56))] (some [1,2,5,6,7,8,9])) (.skip)))
def S78_1_3:AC:=.ops false [oi 0 57 (.mv (.t 5)),oi 1 58 (.mv (.t 8)),oi 2 59 (.mkS 1 [.int .i64 0] [(0,1,(.t 58))]),oi 3 60 (.app false 1 8 (.t 57) (.t 59)),oi 4 5 (.mv (.t 60))] (some [1,2,5,6,7,8,9])
def S78_1_4:AC:=.block 2 (.seq (.ops false [oi 0 62 (.mv (.t 9)),oi 1 63 (.bin .eql (.t 62) (.c (.int .i64 256))),oi 2 61 (.mv (.t 63))] (some [1,2,5,6,7,8,61])) (.cond (.t 61) (.ops false [oi 0 64 (.mv (.t 8)),oi 1 65 (.bin .sub (.t
 64) (.c (.int .i64 128))),oi 2 66 (.bin .mul (.t 65) (.c (.int .i64 256))),oi 3 8 (.mv (.t 66))] (some [1,2,5,6,7,8])) (.seq (.ops false [oi 0 68 (.mv (.t 8)),oi 1 69 (.bin .geq (.t 68) (.c (.int .i64 32768))),oi 2 67 (.mv (.t 69))] (some
 [1,2,5,6,7,8,67])) (.cond (.t 67) (.ops false [oi 0 70 (.mv (.t 8)),oi 1 71 (.bin .sub (.t 70) (.c (.int .i64 65536))),oi 2 8 (.mv (.t 71))] (some [1,2,5,6,7,8])) (.skip)))))
def S78_1_5:AC:=.ops false [oi 0 72 (.mv (.t 6)),oi 1 73 (.mv (.t 8)),oi 2 74 (.mkS 1 [.int .i64 0] [(0,1,(.t 73))]),oi 3 75 (.app false 1 8 (.t 72) (.t 74)),oi 4 6 (.mv (.t 75))] (some [1,2,5,6,7])
def L78_0:AC:=(.seq (.seq (.ops false [oi 0 11 (.mv (.t 7)),oi 1 12 (.mv (.t 1)),oi 2 13 (.len false (.t 12)),oi 3 14 (.bin .lss (.t 11) (.t 13))] (some [1,2,5,6,7,14])) (.cond (.t 14) (.skip) (.exit 0))) (.seq (.block 1 (.seq S78_1_0
 (.seq S78_1_1 (.seq S78_1_2 (.seq S78_1_3 (.seq S78_1_4 S78_1_5)))))) (.ops false [oi 0 15 (.mv (.t 7)),oi 1 16 (.ldA 3 (.t 2)),oi 2 17 (.call false 77 [(.t 16)]),oi 3 18 (.bin .add (.t 15) (.t 17)),oi 4 7 (.mv (.t 18))] (some
 [1,2,5,6,7]))))
def code78:AC:=.seq (.ops false [oi 0 2 (.box (.t 0)),oi 1 4 (.mv (.c .nils))] (some [1,2])) (.seq (.ops false [oi 0 5 (.mv (.c .nils)),oi 1 6 (.mv (.c .nils))] (some [1,2,5,6])) (.seq (.seq (.ops false [oi 0 7 (.mv (.c (.int .i64 0)))]
 (some [1,2,5,6,7])) (.block 0 (.loop L78_0))) (.seq (.ops false [oi 0 76 (.mv (.t 6)),oi 1 4 (.mv (.t 76))] (some [4])) (.ret))))
def L79_0:AC:=(.seq (.seq (.ops false [oi 0 12 (.mv (.t 3)),oi 1 13 (.bin .geq (.t 12) (.c (.int .u64 128)))] (some [3,4,13])) (.cond (.t 13) (.skip) (.exit 0))) (.seq (.block 1 (.ops false [oi 0 16 (.mv (.t 4)),oi 1 17 (.mv (.t 3)),oi
 2 18 (.cvi .u8 (.t 17)),oi 3 19 (.bin .or (.t 18) (.c (.int .u8 128))),oi 4 20 (.mkS 1 [.int .u8 0] [(0,1,(.t 19))]),oi 5 21 (.app false 1 1 (.t 16) (.t 20)),oi 6 4 (.mv (.t 21))] (some [3,4]))) (.ops false [oi 0 14 (.mv (.t 3)),oi 1 15
 (.bin .shr (.t 14) (.c (.int .u64 7))),oi 2 3 (.mv (.t 15))] (some [3,4]))))
def code79:AC:=.seq (.ops false [oi 0 2 (.mv (.c .nils))] (some [0])) (.seq (.ops false [oi 0 5 (.mv (.t 0)),oi 1 6 (.cvi .u64 (.t 5)),oi 2 7 (.bin .shl (.t 6) (.c (.int .u64 1))),oi 3 8 (.mv (.t 0)),oi 4 9 (.bin .shr (.t 8) (.c (.int
 .u64 63))),oi 5 10 (.cvi .u64 (.t 9)),oi 6 11 (.bin .xor (.t 7) (.t 10)),oi 7 3 (.mv (.t 11))] (some [3])) (.seq (.ops false [oi 0 4 (.mv (.c .nils))] (some [3,4])) (.seq (.block 0 (.loop L79_0)) (.seq (.ops false [oi 0 22 (.mv (.t 4)),oi 1
 23 (.mv (.t 3)),oi 2 24 (.cvi .u8 (.t 23)),oi 3 25 (.mkS 1 [.int .u8 0] [(0,1,(.t 24))]),oi 4 26 (.app false 1 1 (.t 22) (.t 25)),oi 5 2 (.mv (.t 26))] (some [2])) (.ret)))))
def L80_0:AC:=(.seq (.ops false [oi 0 14 (.bin .lss (.t 13) (.t 12))] (some [1,5,11,12,13,14])) (.seq (.cond (.t 14) (.skip) (.exit 0)) (.seq (.block 1 (.seq (.ops false [oi 0 15 (.ia 3 (.t 11) (.t 13)),oi 1 16 (.ldA 3 (.t 15)),oi 2 7
 (.alloc [.int .u8 0,.nils,.int .i64 0]),ou 3 (.st 3 (.t 7) (.t 16))] (some [1,5,7,11,12,13])) (.ops false [oi 0 17 (.mv (.t 5)),oi 1 18 (.mv (.t 1)),oi 2 19 (.ldA 3 (.t 7)),oi 3 20 (.dyn (.t 18) [(.t 19)]),oi 4 21 (.app false 1 1 (.t 17)
 (.t 20)),oi 5 5 (.mv (.t 21))] (some [1,5,11,12,13])))) (.ops false [oi 0 22 (.bin .add (.t 13) (.c (.int .i64 1))),oi 1 13 (.mv (.t 22))] (some [1,5,11,12,13])))))
def code80:AC:=.seq (.ops false [oi 0 4 (.mv (.c .nils))] (some [0,1])) (.seq (.ops false [oi 0 8 (.mv (.t 0)),oi 1 9 (.len false (.t 8)),oi 2 10 (.call true 79 [(.t 9)]),oi 3 5 (.mv (.t 10))] (some [0,1,5])) (.seq (.seq (.ops false [oi
 0 11 (.mv (.t 0)),oi 1 12 (.len false (.t 11)),oi 2 13 (.mv (.c (.int .i64 0)))] (some [1,5,11,12,13])) (.block 0 (.loop L80_0))) (.seq (.ops false [oi 0 23 (.mv (.t 5)),oi 1 4 (.mv (.t 23))] (some [4])) (.ret))))
def code81:AC:=.seq (.ops false [oi 0 1 (.box (.t 0)),oi 1 2 (.mv (.c .nils))] (some [1])) (.seq (.ops true [oi 0 3 (.fa 2 (.t 1)),oi 1 4 (.ld1 (.t 3)),oi 2 5 (.call false 79 [(.t 4)]),⟨3,some 6,.fa 0 (.t 1),none,[2]⟩,⟨4,some 7,.fa 0
 (.t 6),none,[2]⟩,⟨5,some 8,.ld1 (.t 7),none,[2]⟩,⟨6,some 9,.mkS 1 [.int .u8 0] [(0,1,(.t 8))],none,[2]⟩,⟨7,some 10,.fa 0 (.t 1),none,[2]⟩,⟨8,some 11,.fa 1 (.t 10),none,[2]⟩,⟨9,some 12,.ld1 (.t 11),none,[2]⟩,⟨10,some 13,.call false 83 [(.t
 12)],none,[6,5,4,3]⟩,oi 11 14 (.mkS 3 [.nils,.nils,.nils] [(0,1,(.t 5)),(1,1,(.t 9)),(2,1,(.t 13))]),oi 12 15 (.call false 82 [(.t 14)]),oi 13 2 (.mv (.t 15))] (some [2])) (.ret))
def L82_2:AC:=(.seq (.ops false [oi 0 28 (.bin .lss (.t 27) (.t 26))] (some [6,25,26,27,28])) (.seq (.cond (.t 28) (.skip) (.exit 2)) (.seq (.block 3 (.seq (.ops false [oi 0 29 (.ia 1 (.t 25) (.t 27)),oi 1 30 (.ld1 (.t 29)),oi 2 8 (.mv
 (.t 30))] (some [6,8,25,26,27])) (.ops false [oi 0 31 (.mv (.t 6)),oi 1 32 (.mv (.t 8)),oi 2 33 (.app false 1 1 (.t 31) (.t 32)),oi 3 6 (.mv (.t 33))] (some [6,25,26,27])))) (.ops false [oi 0 34 (.bin .add (.t 27) (.c (.int .i64 1))),oi 1
 27 (.mv (.t 34))] (some [6,25,26,27])))))
def L82_0:AC:=(.seq (.ops false [oi 0 12 (.bin .lss (.t 11) (.t 10))] (some [0,3,9,10,11,12])) (.seq (.cond (.t 12) (.skip) (.exit 0)) (.seq (.block 1 (.seq (.ops false [oi 0 13 (.ia 1 (.t 9) (.t 11)),oi 1 14 (.ld1 (.t 13)),oi 2 5 (.mv
 (.t 14))] (some [0,3,5,9,10,11])) (.seq (.ops false [oi 0 15 (.mv (.t 3)),oi 1 16 (.mv (.t 5)),oi 2 17 (.len false (.t 16)),oi 3 18 (.bin .add (.t 15) (.t 17)),oi 4 3 (.mv (.t 18))] (some [0,3,9,10,11])) (.seq (.ops false [oi 0 19 (.mv (.t
 3)),oi 1 20 (.bin .lss (.t 19) (.c (.int .i64 0)))] (some [0,3,9,10,11,20])) (.cond (.t 20) (.ops false [oi 0 21 (.mkI 9 (.c (.str [108,101,110,32,111,117,116,32,111,102,32,114,97,110,103,101]))),ou 1 .stop] (some [0,3,9,10,11]))
 (.skip)))))) (.ops false [oi 0 22 (.bin .add (.t 11) (.c (.int .i64 1))),oi 1 11 (.mv (.t 22))] (some [0,3,9,10,11])))))
def code82:AC:=.seq (.ops false [oi 0 2 (.mv (.c .nils))] (some [0])) (.seq (.ops false [oi 0 3 (.mv (.c (.int .i64 0)))] (some [0,3])) (.seq (.seq (.ops false [oi 0 9 (.mv (.t 0)),oi 1 10 (.len false (.t 9)),oi 2 11 (.mv (.c (.int .i64
 0)))] (some [0,3,9,10,11])) (.block 0 (.loop L82_0))) (.seq (.ops false [oi 0 23 (.mv (.t 3)),oi 1 24 (.call true 118 [(.c .nils),(.t 23)]),oi 2 6 (.mv (.t 24))] (some [0,6])) (.seq (.seq (.ops false [oi 0 25 (.mv (.t 0)),oi 1 26 (.len
 false (.t 25)),oi 2 27 (.mv (.c (.int .i64 0)))] (some [6,25,26,27])) (.block 2 (.loop L82_2))) (.seq (.ops false [oi 0 35 (.mv (.t 6)),oi 1 2 (.mv (.t 35))] (some [2])) (.ret))))))
def code118:AC:=.seq (.ops false [oi 0 4 (.mv (.c .nils))] (some [0,1])) (.seq (.seq (.ops false [oi 0 5 (.mv (.t 1)),oi 1 6 (.bin .lss (.t 5) (.c (.int .i64 0)))] (some [0,1,6])) (.cond (.t 6) (.ops false [oi 0 7 (.mkI 9 (.c (.str
 [99,97,110,110,111,116,32,98,101,32,110,101,103,97,116,105,118,101]))),ou 1 .stop] (some [0,1])) (.skip))) (.seq (.seq (.ops false [oi 0 8 (.mv (.t 1)),oi 1 9 (.mv (.t 0)),oi 2 10 (.cap (.t 9)),oi 3 11 (.mv (.t 0)),oi 4 12 (.len false (.t
 11)),oi 5 13 (.bin .sub (.t 10) (.t 12)),oi 6 14 (.bin .sub (.t 8) (.t 13)),oi 7 1 (.mv (.t 14))] (some [0,1])) (.seq (.ops false [oi 0 15 (.mv (.t 1)),oi 1 16 (.bin .gtr (.t 15) (.c (.int .i64 0)))] (some [0,1,16])) (.cond (.t 16) (.ops
 false [oi 0 17 (.mv (.t 0)),oi 1 18 (.mv (.t 0)),oi 2 19 (.cap (.t 18)),oi 3 20 (.slc 1 (.t 17) none (some (.t 19)) none),oi 4 21 (.mv (.t 1)),oi 5 22 (.appZ 1 1 [.int .u8 0] (.t 20) (.t 21)),oi 6 23 (.mv (.t 0)),oi 7 24 (.len false (.t
 23)),oi 8 25 (.slc 1 (.t 22) none (some (.t 24)) none),oi 9 0 (.mv (.t 25))] (some [0])) (.skip)))) (.seq (.ops false [oi 0 26 (.mv (.t 0)),oi 1 4 (.mv (.t 26))] (some [4])) (.ret))))
def code83:AC:=.seq (.ops false [oi 0 2 (.mv (.c .nils))] (some [0])) (.seq (.ops false [oi 0 3 (.mv (.t 0)),oi 1 4 (.len false (.t 3)),oi 2 5 (.call true 79 [(.t 4)]),oi 3 6 (.mv (.t 0)),oi 4 7 (.app false 1 1 (.t 5) (.t 6)),oi 5 2
 (.mv (.t 7))] (some [2])) (.ret))
def code31:AC:=.seq (.ops false [oi 0 4 (.mv (.c .nils))] (some [0,1])) (.seq (.seq (.ops false [oi 0 5 (.mv (.t 0)),oi 1 6 (.bin .eql (.t 5) (.c (.int .i64 1))),oi 2 7 (.mv (.t 6)),⟨3,some 8,.mv (.t 1),(some (some 7,true)),[]⟩,⟨4,some
 9,.len false (.t 8),(some (some 7,true)),[]⟩,⟨5,some 10,.bin .eql (.t 9) (.c (.int .i64 0)),(some (some 7,true)),[]⟩,oi 6 11 (.pick (.t 7) (.t 10) (.c (.bool false)))] (some [0,1,11])) (.cond (.t 11) (.seq (.ops false [oi 0 4 (.mv (.c
 .nils))] (some [4])) (.ret)) (.skip))) (.seq (.ops false [oi 0 12 (.mv (.t 0)),oi 1 13 (.call true 79 [(.t 12)]),oi 2 14 (.mv (.t 1)),oi 3 15 (.call false 80 [(.t 14),(.c (.fn 81 [] []))]),oi 4 16 (.app false 1 1 (.t 13) (.t 15)),oi 5 4
 (.mv (.t 16))] (some [4])) (.ret)))
def code25:AC:=.seq (.ops false [oi 0 1 (.box (.t 0)),oi 1 2 (.alloc [.int .i64 0,.int .i64 0])] (some [1,2])) (.seq (.ops false [oi 0 6 (.ldA 5 (.t 1)),oi 1 7 (.call false 71 [(.t 6)]),oi 2 5 (.mv (.t 7)),oi 3 8 (.ext 0 (.t 5)),oi 4 9
 (.ext 1 (.t 5)),oi 5 4 (.alloc [.int .i64 0,.int .i64 0]),oi 6 3 (.mv (.t 8)),ou 7 (.st 2 (.t 4) (.t 9))] (some [2,4])) (.seq (.ops false [oi 0 10 (.ldA 2 (.t 4)),ou 1 (.st 2 (.t 2) (.t 10))] (some [2])) (.ret)))
def code71:AC:=.seq (.ops false [oi 0 1 (.box (.t 0)),oi 1 2 (.mv (.c .nils)),oi 2 3 (.alloc [.int .i64 0,.int .i64 0])] (some [1,3])) (.seq (.seq (.ops false [oi 0 8 (.ldA 5 (.t 1)),oi 1 9 (.call false 116 [(.t 8),(.c (.int .i64
 0)),(.c (.int .i64 1))]),oi 2 7 (.mv (.t 9)),oi 3 10 (.ext 0 (.t 7)),oi 4 11 (.ext 1 (.t 7)),oi 5 5 (.alloc [.int .i64 0,.int .i64 0]),oi 6 4 (.mv (.t 10)),ou 7 (.st 2 (.t 5) (.t 11))] (some [1,3,5])) (.seq (.ops false [oi 0 12 (.ldA 2 (.t
 5)),oi 1 13 (.build [.int .i64 0,.int .i64 0] []),oi 2 14 (.eqA true 2 (.t 12) (.t 13))] (some [1,3,5,14])) (.cond (.t 14) (.seq (.ops true [oi 0 15 (.ldA 2 (.t 5)),oi 1 2 (.mv (.c .nils)),ou 2 (.st 2 (.t 3) (.t 15))] (some [2,3])) (.ret))
 (.skip)))) (.seq (.ops false [oi 0 16 (.ldA 5 (.t 1)),oi 1 17 (.call false 117 [(.t 16)]),oi 2 6 (.mv (.t 17))] (some [3,6])) (.seq (.seq (.ops false [oi 0 18 (.mv (.t 6)),oi 1 19 (.len false (.t 18)),oi 2 20 (.bin .gtr (.t 19) (.c (.int
 .i64 4000)))] (some [3,6,20])) (.cond (.t 20) (.seq (.ops false [oi 0 21 (.call false 35 [(.c (.int .i64 14)),(.c (.int .i64 (-1)))]),oi 1 2 (.mv (.c .nils)),ou 2 (.st 2 (.t 3) (.t 21))] (some [2,3])) (.ret)) (.skip))) (.seq (.ops false [oi
 0 22 (.mv (.t 6)),oi 1 23 (.build [.int .i64 0,.int .i64 0] []),oi 2 2 (.mv (.t 22)),ou 3 (.st 2 (.t 3) (.t 23))] (some [2,3])) (.ret)))))
def L116_0:AC:=(.seq (.ops false [oi 0 34 (.bin .lss (.t 33) (.t 32))] (some [2,7,9,31,32,33,34])) (.seq (.cond (.t 34) (.skip) (.exit 0)) (.seq (.block 1 (.seq (.ops false [oi 0 35 (.ia 5 (.t 31) (.t 33)),oi 1 36 (.ldA 5 (.t 35)),oi 2
 11 (.alloc [.int .i64 0,.int .i64 0,.nils,.nils,.nils]),ou 3 (.st 5 (.t 11) (.t 36))] (some [2,7,9,11,31,32,33])) (.seq (.ops false [oi 0 12 (.alloc [.int .i64 0,.int .i64 0])] (some [2,7,9,11,12,31,32,33])) (.seq (.ops false [oi 0 38 (.ldA
 5 (.t 11)),oi 1 39 (.mv (.t 9)),oi 2 40 (.mv (.t 2)),oi 3 41 (.bin .add (.t 40) (.c (.int .i64 1))),oi 4 42 (.call false 116 [(.t 38),(.t 39),(.t 41)]),oi 5 37 (.mv (.t 42)),oi 6 43 (.ext 0 (.t 37)),oi 7 44 (.ext 1 (.t 37)),oi 8 9 (.mv (.t
 43)),ou 9 (.st 2 (.t 12) (.t 44))] (some [2,7,9,12,31,32,33])) (.seq (.ops false [oi 0 45 (.ldA 2 (.t 12)),oi 1 46 (.build [.int .i64 0,.int .i64 0] []),oi 2 47 (.eqA true 2 (.t 45) (.t 46))] (some [2,7,9,12,31,32,33,47])) (.cond (.t 47)
 (.seq (.ops true [oi 0 48 (.ldA 2 (.t 12)),oi 1 6 (.mv (.c (.int .i64 0))),ou 2 (.st 2 (.t 7) (.t 48))] (some [6,7])) (.ret)) (.skip))))))) (.ops false [oi 0 49 (.bin .add (.t 33) (.c (.int .i64 1))),oi 1 33 (.mv (.t 49))] (some
 [2,7,9,31,32,33])))))
def code116:AC:=.seq (.ops false [oi 0 3 (.box (.t 0)),oi 1 6 (.mv (.c (.int .i64 0))),oi 2 7 (.alloc [.int .i64 0,.int .i64 0])] (some [1,2,3,7])) (.seq (.seq (.ops false [oi 0 13 (.mv (.t 1)),oi 1 14 (.bin .geq (.t 13) (.c (.int .i64
 600))),oi 2 15 (.mv (.t 14)),⟨3,some 16,.mv (.t 2),(some (some 15,false)),[]⟩,⟨4,some 17,.bin .gtr (.t 16) (.c (.int .i64 10)),(some (some 15,false)),[]⟩,oi 5 18 (.pick (.t 15) (.c (.bool true)) (.t 17))] (some [1,2,3,7,18])) (.cond (.t 18)
 (.seq (.ops false [oi 0 19 (.mv (.t 1)),oi 1 20 (.call false 35 [(.c (.int .i64 2)),(.t 19)]),oi 2 6 (.mv (.c (.int .i64 0))),ou 3 (.st 2 (.t 7) (.t 20))] (some [6,7])) (.ret)) (.skip))) (.seq (.seq (.ops false [oi 0 21 (.ldA 5 (.t 3)),oi 1
 22 (.call false 158 [(.t 21)]),oi 2 8 (.mv (.t 22))] (some [1,2,3,7,8])) (.seq (.ops false [oi 0 23 (.mv (.t 8)),oi 1 24 (.bin .neq (.t 23) (.c (.int .i64 0)))] (some [1,2,3,7,8,24])) (.cond (.t 24) (.seq (.ops false [oi 0 25 (.mv (.t
 8)),oi 1 26 (.mv (.t 1)),oi 2 27 (.call false 35 [(.t 25),(.t 26)]),oi 3 6 (.mv (.c (.int .i64 0))),ou 4 (.st 2 (.t 7) (.t 27))] (some [6,7])) (.ret)) (.skip)))) (.seq (.ops false [oi 0 28 (.mv (.t 1)),oi 1 29 (.bin .add (.t 28) (.c (.int
 .i64 1))),oi 2 9 (.mv (.t 29))] (some [2,3,7,9])) (.seq (.seq (.ops false [oi 0 30 (.fa 4 (.t 3)),oi 1 31 (.ld1 (.t 30)),oi 2 32 (.len false (.t 31)),oi 3 33 (.mv (.c (.int .i64 0)))] (some [2,7,9,31,32,33])) (.block 0 (.loop L116_0)))
 (.seq (.ops false [oi 0 50 (.mv (.t 9)),oi 1 51 (.build [.int .i64 0,.int .i64 0] []),oi 2 6 (.mv (.t 50)),ou 3 (.st 2 (.t 7) (.t 51))] (some [6,7])) (.ret))))))
def L158_1:AC:=(.seq (.ops false [oi 0 77 (.bin .lss (.t 76) (.t 75))] (some [1,74,75,76,77])) (.seq (.cond (.t 77) (.skip) (.exit 1)) (.seq (.block 2 (.seq (.ops false [oi 0 78 (.mv (.t 76)),oi 1 79 (.ia 1 (.t 74) (.t 76)),oi 2 80
 (.ld1 (.t 79)),oi 3 4 (.mv (.t 78)),oi 4 5 (.mv (.t 80))] (some [1,4,5,74,75,76])) (.seq (.ops false [oi 0 81 (.fa 3 (.t 1)),oi 1 82 (.ld1 (.t 81)),oi 2 83 (.mv (.t 4)),oi 3 84 (.slc 1 (.t 82) none (some (.t 83)) none),oi 4 85 (.mv (.t
 5)),oi 5 86 (.call false 186 [(.t 84),(.t 85)])] (some [1,74,75,76,86])) (.cond (.t 86) (.seq (.ops false [oi 0 2 (.mv (.c (.int .i64 8)))] (some [2])) (.ret)) (.skip))))) (.ops false [oi 0 87 (.bin .add (.t 76) (.c (.int .i64 1))),oi 1 76
 (.mv (.t 87))] (some [1,74,75,76])))))
def code158:AC:=.seq (.ops false [oi 0 1 (.box (.t 0)),oi 1 2 (.mv (.c (.int .i64 0)))] (some [1])) (.seq (.ops false [oi 0 6 (.mkF 196 [] [(.t 1)]),oi 1 3 (.mv (.t 6))] (some [1,3])) (.seq (.block 0 (.seq (.ops false [oi 0 8 (.mv (.t
 3)),oi 1 9 (.mkS 4 [.int .i64 0,.int .i64 0,.int .i64 0,.int .i64 0] [(0,1,(.c (.int .i64 1))),(1,1,(.c (.int .i64 2))),(2,1,(.c (.int .i64 3))),(3,1,(.c (.int .i64 4)))]),oi 2 10 (.dyn (.t 8) [(.t 9)]),oi 3 11 (.un .not (.t 10)),oi 4 7
 (.mv (.t 11))] (some [1,3,7])) (.cond (.t 7) (.seq (.ops false [oi 0 2 (.mv (.c (.int .i64 5)))] (some [2])) (.ret)) (.seq (.seq (.ops false [oi 0 13 (.fa 1 (.t 1)),oi 1 14 (.ld1 (.t 13)),oi 2 15 (.bin .neq (.t 14) (.c (.int .i64 0))),oi 3
 16 (.mv (.t 15)),⟨4,some 17,.mv (.t 3),(some (some 16,true)),[]⟩,⟨5,some 18,.mkS 1 [.int .i64 0] [(0,1,(.c (.int .i64 1)))],(some (some 16,true)),[]⟩,⟨6,some 19,.dyn (.t 17) [(.t 18)],(some (some 16,true)),[]⟩,⟨7,some 20,.un .not (.t
 19),(some (some 16,true)),[]⟩,oi 8 21 (.pick (.t 16) (.t 20) (.c (.bool false))),oi 9 12 (.mv (.t 21))] (some [1,3,12])) (.cond (.t 12) (.skip) (.seq (.ops false [oi 0 22 (.fa 2 (.t 1)),oi 1 23 (.ld1 (.t 22)),oi 2 24 (.len false (.t 23)),oi
 3 25 (.bin .gtr (.t 24) (.c (.int .i64 0))),oi 4 26 (.mv (.t 25)),⟨5,some 27,.mv (.t 3),(some (some 26,true)),[]⟩,⟨6,some 28,.mkS 1 [.int .i64 0] [(0,1,(.c (.int .i64 2)))],(some (some 26,true)),[]⟩,⟨7,some 29,.dyn (.t 27) [(.t 28)],(some
 (some 26,true)),[]⟩,⟨8,some 30,.un .not (.t 29),(some (some 26,true)),[]⟩,oi 9 31 (.pick (.t 26) (.t 30) (.c (.bool false))),oi 10 12 (.mv (.t 31))] (some [1,3,12])) (.cond (.t 12) (.skip) (.seq (.ops false [oi 0 32 (.fa 3 (.t 1)),oi 1 33
 (.ld1 (.t 32)),oi 2 34 (.len false (.t 33)),oi 3 35 (.bin .gtr (.t 34) (.c (.int .i64 0))),oi 4 36 (.mv (.t 35)),⟨5,some 37,.mv (.t 3),(some (some 36,true)),[]⟩,⟨6,some 38,.mkS 1 [.int .i64 0] [(0,1,(.c (.int .i64 4)))],(some (some
 36,true)),[]⟩,⟨7,some 39,.dyn (.t 37) [(.t 38)],(some (some 36,true)),[]⟩,⟨8,some 40,.un .not (.t 39),(some (some 36,true)),[]⟩,oi 9 41 (.pick (.t 36) (.t 40) (.c (.bool false))),oi 10 12 (.mv (.t 41))] (some [1,3,12])) (.cond (.t 12)
 (.skip) (.seq (.ops false [oi 0 42 (.fa 4 (.t 1)),oi 1 43 (.ld1 (.t 42)),oi 2 44 (.len false (.t 43)),oi 3 45 (.bin .gtr (.t 44) (.c (.int .i64 0))),oi 4 46 (.mv (.t 45)),⟨5,some 47,.mv (.t 3),(some (some 46,true)),[]⟩,⟨6,some 48,.mkS 2
 [.int .i64 0,.int .i64 0] [(0,1,(.c (.int .i64 3))),(1,1,(.c (.int .i64 4)))],(some (some 46,true)),[]⟩,⟨7,some 49,.dyn (.t 47) [(.t 48)],(some (some 46,true)),[]⟩,⟨8,some 50,.un .not (.t 49),(some (some 46,true)),[]⟩,oi 9 51 (.pick (.t 46)
 (.t 50) (.c (.bool false))),oi 10 12 (.mv (.t 51))] (some [1,3,12])) (.cond (.t 12) (.skip) (.ops false [oi 0 52 (.mv (.t 3)),oi 1 53 (.mkS 1 [.int .i64 0] [(0,1,(.c (.int .i64 4)))]),oi 2 54 (.dyn (.t 52) [(.t 53)]),oi 3 55 (.mv (.t
 54)),⟨4,some 56,.fa 3 (.t 1),(some (some 55,true)),[]⟩,⟨5,some 57,.ld1 (.t 56),(some (some 55,true)),[]⟩,⟨6,some 58,.len false (.t 57),(some (some 55,true)),[]⟩,⟨7,some 59,.fa 4 (.t 1),(some (some 55,true)),[]⟩,⟨8,some 60,.ld1 (.t 59),(some
 (some 55,true)),[]⟩,⟨9,some 61,.len false (.t 60),(some (some 55,true)),[]⟩,⟨10,some 62,.bin .neq (.t 58) (.t 61),(some (some 55,true)),[]⟩,oi 11 63 (.pick (.t 55) (.t 62) (.c (.bool false))),oi 12 12 (.mv (.t 63))] (some [1,12]))))))))))
 (.cond (.t 12) (.seq (.ops false [oi 0 2 (.mv (.c (.int .i64 6)))] (some [2])) (.ret)) (.seq (.ops false [oi 0 65 (.fa 4 (.t 1)),oi 1 66 (.ld1 (.t 65)),oi 2 67 (.len false (.t 66)),oi 3 68 (.bin .gtr (.t 67) (.c (.int .i64 600))),oi 4 64
 (.mv (.t 68))] (some [1,64])) (.cond (.t 64) (.seq (.ops false [oi 0 2 (.mv (.c (.int .i64 14)))] (some [2])) (.ret)) (.seq (.ops false [oi 0 70 (.fa 3 (.t 1)),oi 1 71 (.ld1 (.t 70)),oi 2 72 (.call false 197 [(.t 71),(.c (.fn 198 []
 []))]),oi 3 69 (.mv (.t 72))] (some [1,69])) (.cond (.t 69) (.seq (.ops false [oi 0 2 (.mv (.c (.int .i64 7)))] (some [2])) (.ret)) (.skip)))))))))) (.seq (.seq (.ops false [oi 0 73 (.fa 3 (.t 1)),oi 1 74 (.ld1 (.t 73)),oi 2 75 (.len false
 (.t 74)),oi 3 76 (.mv (.c (.int .i64 0)))] (some [1,74,75,76])) (.block 1 (.loop L158_1))) (.seq (.ops false [oi 0 2 (.mv (.c (.int .i64 0)))] (some [2])) (.ret)))))
def L117_1:AC:=(.seq (.ops false [oi 0 35 (.bin .lss (.t 34) (.t 33))] (some [1,3,32,33,34,35])) (.seq (.cond (.t 35) (.skip) (.exit 1)) (.seq (.block 2 (.seq (.ops false [oi 0 36 (.mv (.t 34)),oi 1 37 (.ia 5 (.t 32) (.t 34)),oi 2 38
 (.ldA 5 (.t 37)),oi 3 5 (.alloc [.int .i64 0,.int .i64 0,.nils,.nils,.nils]),oi 4 4 (.mv (.t 36)),ou 5 (.st 5 (.t 5) (.t 38))] (some [1,3,4,5,32,33,34])) (.seq (.seq (.ops false [oi 0 39 (.fa 0 (.t 1)),oi 1 40 (.ld1 (.t 39)),oi 2 41 (.bin
 .eql (.t 40) (.c (.int .i64 4)))] (some [1,3,4,5,32,33,34,41])) (.cond (.t 41) (.ops false [oi 0 42 (.mv (.t 3)),oi 1 43 (.fa 3 (.t 1)),oi 2 44 (.ld1 (.t 43)),oi 3 45 (.mv (.t 4)),oi 4 46 (.ia 1 (.t 44) (.t 45)),oi 5 47 (.ld1 (.t 46)),oi 6
 48 (.s2b (.t 47)),oi 7 49 (.call false 83 [(.t 48)]),oi 8 50 (.app false 1 1 (.t 42) (.t 49)),oi 9 3 (.mv (.t 50))] (some [1,3,5,32,33,34])) (.skip))) (.ops false [oi 0 51 (.mv (.t 3)),oi 1 52 (.ldA 5 (.t 5)),oi 2 53 (.call false 117 [(.t
 52)]),oi 3 54 (.app false 1 1 (.t 51) (.t 53)),oi 4 3 (.mv (.t 54))] (some [1,3,32,33,34]))))) (.ops false [oi 0 55 (.bin .add (.t 34) (.c (.int .i64 1))),oi 1 34 (.mv (.t 55))] (some [1,3,32,33,34])))))
def code117:AC:=.seq (.ops false [oi 0 1 (.box (.t 0)),oi 1 2 (.mv (.c .nils))] (some [1])) (.seq (.ops false [oi 0 6 (.fa 0 (.t 1)),oi 1 7 (.ld1 (.t 6)),oi 2 8 (.call true 79 [(.t 7)]),oi 3 3 (.mv (.t 8))] (some [1,3])) (.seq (.seq
 (.ops false [oi 0 9 (.fa 0 (.t 1)),oi 1 10 (.ld1 (.t 9))] (some [1,3,10])) (.block 0 (.seq (.ops false [oi 0 12 (.bin .eql (.t 10) (.c (.int .i64 1))),oi 1 11 (.mv (.t 12))] (some [1,3,10,11])) (.cond (.t 11) (.seq (.ops false [oi 0 13 (.mv
 (.t 3)),oi 1 14 (.fa 1 (.t 1)),oi 2 15 (.ld1 (.t 14)),oi 3 16 (.call true 79 [(.t 15)]),oi 4 17 (.app false 1 1 (.t 13) (.t 16)),oi 5 2 (.mv (.t 17))] (some [2])) (.ret)) (.seq (.ops false [oi 0 19 (.bin .eql (.t 10) (.c (.int .i64 2))),oi
 1 18 (.mv (.t 19))] (some [1,3,18])) (.cond (.t 18) (.seq (.ops false [oi 0 20 (.mv (.t 3)),oi 1 21 (.fa 2 (.t 1)),oi 2 22 (.ld1 (.t 21)),oi 3 23 (.call false 83 [(.t 22)]),oi 4 24 (.app false 1 1 (.t 20) (.t 23)),oi 5 2 (.mv (.t 24))]
 (some [2])) (.ret)) (.skip))))))) (.seq (.ops false [oi 0 25 (.mv (.t 3)),oi 1 26 (.fa 4 (.t 1)),oi 2 27 (.ld1 (.t 26)),oi 3 28 (.len false (.t 27)),oi 4 29 (.call true 79 [(.t 28)]),oi 5 30 (.app false 1 1 (.t 25) (.t 29)),oi 6 3 (.mv (.t
 30))] (some [1,3])) (.seq (.seq (.ops false [oi 0 31 (.fa 4 (.t 1)),oi 1 32 (.ld1 (.t 31)),oi 2 33 (.len false (.t 32)),oi 3 34 (.mv (.c (.int .i64 0)))] (some [1,3,32,33,34])) (.block 1 (.loop L117_1))) (.seq (.ops false [oi 0 56 (.mv (.t
 3)),oi 1 2 (.mv (.t 56))] (some [2])) (.ret))))))
def code30:AC:=.seq (.ops false [oi 0 2 (.alloc [.int .i64 0,.int .i64 0,.nils,.nils,.nils])] (some [0,2])) (.seq (.ops false [oi 0 3 (.mv (.t 0)),oi 1 4 (.build [.int .i64 0,.int .i64 0,.nils,.nils,.nils] [(0,1,(.c (.int .i64
 1))),(1,1,(.t 3))]),ou 2 (.st 5 (.t 2) (.t 4))] (some [2])) (.ret))
def code28:AC:=.seq (.ops false [oi 0 4 (.alloc [.int .i64 0,.int .i64 0])] (some [0,1,4])) (.seq (.ops false [oi 0 5 (.mv (.t 0)),oi 1 6 (.mv (.t 1)),oi 2 7 (.build [.int .i64 0,.int .i64 0] [(0,1,(.t 5)),(1,1,(.t 6))]),ou 3 (.st 2 (.t
 4) (.t 7))] (some [4])) (.ret))
def code35:AC:=.seq (.ops false [oi 0 4 (.alloc [.int .i64 0,.int .i64 0])] (some [0,1,4])) (.seq (.ops false [oi 0 5 (.mv (.t 0)),oi 1 6 (.mv (.t 1)),oi 2 7 (.build [.int .i64 0,.int .i64 0] [(0,1,(.t 5)),(1,1,(.t 6))]),ou 3 (.st 2 (.t
 4) (.t 7))] (some [4])) (.ret))
def code196:AC:=.seq (.ops false [oi 0 3 (.mv (.c (.bool false)))] (some [0,1])) (.seq (.ops false [oi 0 4 (.mv (.t 0)),oi 1 5 (.fa 0 (.t 1)),oi 2 6 (.ld1 (.t 5)),oi 3 7 (.call false 70 [(.t 4),(.t 6)]),oi 4 3 (.mv (.t 7))] (some [3]))
 (.ret))
def code197:AC:=.seq (.ops false [oi 0 4 (.mv (.c (.bool false)))] (some [0,1])) (.seq (.ops false [oi 0 5 (.mv (.t 0)),oi 1 6 (.mv (.t 1)),oi 2 7 (.call false 160 [(.t 5),(.t 6)]),oi 3 8 (.bin .geq (.t 7) (.c (.int .i64 0))),oi 4 4
 (.mv (.t 8))] (some [4])) (.ret))
def code198:AC:=.seq (.ops false [oi 0 2 (.mv (.c (.bool false)))] (some [0])) (.seq (.ops false [oi 0 3 (.mv (.t 0)),oi 1 4 (.call false 34 [(.t 3)]),oi 2 5 (.un .not (.t 4)),oi 3 2 (.mv (.t 5))] (some [2])) (.ret))
def code70:AC:=.seq (.ops false [oi 0 4 (.mv (.c (.bool false)))] (some [0,1])) (.seq (.ops false [oi 0 5 (.mv (.t 0)),oi 1 6 (.mv (.t 1)),oi 2 7 (.call false 115 [(.t 5),(.t 6)]),oi 3 8 (.bin .geq (.t 7) (.c (.int .i64 0))),oi 4 4 (.mv
 (.t 8))] (some [4])) (.ret))
def L115_0:AC:=(.seq (.ops false [oi 0 9 (.bin .lss (.t 8) (.t 7))] (some [0,1,7,8,9])) (.seq (.cond (.t 9) (.skip) (.exit 0)) (.seq (.block 1 (.seq (.ops false [oi 0 10 (.mv (.t 8)),oi 1 5 (.mv (.t 10))] (some [0,1,5,7,8])) (.seq (.ops
 false [oi 0 11 (.mv (.t 1)),oi 1 12 (.mv (.t 0)),oi 2 13 (.mv (.t 5)),oi 3 14 (.ia 1 (.t 12) (.t 13)),oi 4 15 (.ld1 (.t 14)),oi 5 16 (.bin .eql (.t 11) (.t 15))] (some [0,1,5,7,8,16])) (.cond (.t 16) (.seq (.ops false [oi 0 17 (.mv (.t
 5)),oi 1 4 (.mv (.t 17))] (some [4])) (.ret)) (.skip))))) (.ops false [oi 0 18 (.bin .add (.t 8) (.c (.int .i64 1))),oi 1 8 (.mv (.t 18))] (some [0,1,7,8])))))
def code115:AC:=.seq (.ops false [oi 0 4 (.mv (.c (.int .i64 0)))] (some [0,1])) (.seq (.seq (.ops false [oi 0 6 (.mv (.t 0)),oi 1 7 (.len false (.t 6)),oi 2 8 (.mv (.c (.int .i64 0)))] (some [0,1,7,8])) (.block 0 (.loop L115_0))) (.seq
 (.ops false [oi 0 4 (.mv (.c (.int .i64 (-1))))] (some [4])) (.ret)))
def L160_0:AC:=(.seq (.ops false [oi 0 9 (.bin .lss (.t 8) (.t 7))] (some [0,1,7,8,9])) (.seq (.cond (.t 9) (.skip) (.exit 0)) (.seq (.block 1 (.seq (.ops false [oi 0 10 (.mv (.t 8)),oi 1 5 (.mv (.t 10))] (some [0,1,5,7,8])) (.seq (.ops
 false [oi 0 11 (.mv (.t 1)),oi 1 12 (.mv (.t 0)),oi 2 13 (.mv (.t 5)),oi 3 14 (.ia 1 (.t 12) (.t 13)),oi 4 15 (.ld1 (.t 14)),oi 5 16 (.dyn (.t 11) [(.t 15)])] (some [0,1,5,7,8,16])) (.cond (.t 16) (.seq (.ops false [oi 0 17 (.mv (.t 5)),oi
 1 4 (.mv (.t 17))] (some [4])) (.ret)) (.skip))))) (.ops false [oi 0 18 (.bin .add (.t 8) (.c (.int .i64 1))),oi 1 8 (.mv (.t 18))] (some [0,1,7,8])))))
def code160:AC:=.seq (.ops false [oi 0 4 (.mv (.c (.int .i64 0)))] (some [0,1])) (.seq (.seq (.ops false [oi 0 6 (.mv (.t 0)),oi 1 7 (.len false (.t 6)),oi 2 8 (.mv (.c (.int .i64 0)))] (some [0,1,7,8])) (.block 0 (.loop L160_0))) (.seq
 (.ops false [oi 0 4 (.mv (.c (.int .i64 (-1))))] (some [4])) (.ret)))
def code186:AC:=.seq (.ops false [oi 0 4 (.mv (.c (.bool false)))] (some [0,1])) (.seq (.ops false [oi 0 5 (.mv (.t 0)),oi 1 6 (.mv (.t 1)),oi 2 7 (.call false 44 [(.t 5),(.t 6)]),oi 3 8 (.bin .geq (.t 7) (.c (.int .i64 0))),oi 4 4 (.mv
 (.t 8))] (some [4])) (.ret))
def L44_0:AC:=(.seq (.ops false [oi 0 9 (.bin .lss (.t 8) (.t 7))] (some [0,1,7,8,9])) (.seq (.cond (.t 9) (.skip) (.exit 0)) (.seq (.block 1 (.seq (.ops false [oi 0 10 (.mv (.t 8)),oi 1 5 (.mv (.t 10))] (some [0,1,5,7,8])) (.seq (.ops
 false [oi 0 11 (.mv (.t 1)),oi 1 12 (.mv (.t 0)),oi 2 13 (.mv (.t 5)),oi 3 14 (.ia 1 (.t 12) (.t 13)),oi 4 15 (.ld1 (.t 14)),oi 5 16 (.bin .eql (.t 11) (.t 15))] (some [0,1,5,7,8,16])) (.cond (.t 16) (.seq (.ops false [oi 0 17 (.mv (.t
 5)),oi 1 4 (.mv (.t 17))] (some [4])) (.ret)) (.skip))))) (.ops false [oi 0 18 (.bin .add (.t 8) (.c (.int .i64 1))),oi 1 8 (.mv (.t 18))] (some [0,1,7,8])))))
def code44:AC:=.seq (.ops false [oi 0 4 (.mv (.c (.int .i64 0)))] (some [0,1])) (.seq (.seq (.ops false [oi 0 6 (.mv (.t 0)),oi 1 7 (.len false (.t 6)),oi 2 8 (.mv (.c (.int .i64 0)))] (some [0,1,7,8])) (.block 0 (.loop L44_0))) (.seq
 (.ops false [oi 0 4 (.mv (.c (.int .i64 (-1))))] (some [4])) (.ret)))
def code34:AC:=.seq (.ops false [oi 0 2 (.mv (.c (.bool false)))] (some [0])) (.seq (.seq (.ops false [oi 0 3 (.mv (.t 0)),oi 1 4 (.bin .eql (.t 3) (.c (.str []))),oi 2 5 (.mv (.t 4)),⟨3,some 6,.mv (.t 0),(some (some
 5,false)),[]⟩,⟨4,some 7,.len true (.t 6),(some (some 5,false)),[]⟩,⟨5,some 8,.bin .gtr (.t 7) (.c (.int .i64 32)),(some (some 5,false)),[]⟩,oi 6 9 (.pick (.t 5) (.c (.bool true)) (.t 8)),oi 7 10 (.mv (.t 9)),⟨8,some 11,.mv (.t 0),(some
 (some 10,false)),[]⟩,⟨9,some 12,.ixS (.t 11) (.c (.int .i64 0)),(some (some 10,false)),[]⟩,⟨10,some 13,.bin .lss (.t 12) (.c (.int .u8 97)),(some (some 10,false)),[]⟩,oi 11 14 (.pick (.t 10) (.c (.bool true)) (.t 13)),oi 12 15 (.mv (.t
 14)),⟨13,some 16,.mv (.t 0),(some (some 15,false)),[]⟩,⟨14,some 17,.ixS (.t 16) (.c (.int .i64 0)),(some (some 15,false)),[]⟩,⟨15,some 18,.bin .gtr (.t 17) (.c (.int .u8 122)),(some (some 15,false)),[]⟩,oi 16 19 (.pick (.t 15) (.c (.bool
 true)) (.t 18))] (some [0,19])) (.cond (.t 19) (.seq (.ops false [oi 0 2 (.mv (.c (.bool false)))] (some [2])) (.ret)) (.skip))) (.seq (.ops false [oi 0 20 (.mv (.t 0)),oi 1 21 (.call false 87 [(.t 20),(.c (.fn 88 [] []))]),oi 2 22 (.un
 .not (.t 21)),oi 3 2 (.mv (.t 22))] (some [2])) (.ret)))
def L159_0:AC:=(.seq (.ops false [oi 0 9 (.bin .lss (.t 8) (.t 7))] (some [0,1,7,8,9])) (.seq (.cond (.t 9) (.skip) (.exit 0)) (.seq (.block 1 (.seq (.ops false [oi 0 10 (.mv (.t 8)),oi 1 5 (.mv (.t 10))] (some [0,1,5,7,8])) (.seq (.ops
 false [oi 0 11 (.mv (.t 1)),oi 1 12 (.mv (.t 0)),oi 2 13 (.mv (.t 5)),oi 3 14 (.ia 1 (.t 12) (.t 13)),oi 4 15 (.ld1 (.t 14)),oi 5 16 (.bin .eql (.t 11) (.t 15))] (some [0,1,5,7,8,16])) (.cond (.t 16) (.seq (.ops false [oi 0 17 (.mv (.t
 5)),oi 1 4 (.mv (.t 17))] (some [4])) (.ret)) (.skip))))) (.ops false [oi 0 18 (.bin .add (.t 8) (.c (.int .i64 1))),oi 1 8 (.mv (.t 18))] (some [0,1,7,8])))))
def code159:AC:=.seq (.ops false [oi 0 4 (.mv (.c (.int .i64 0)))] (some [0,1])) (.seq (.seq (.ops false [oi 0 6 (.mv (.t 0)),oi 1 7 (.len false (.t 6)),oi 2 8 (.mv (.c (.int .i64 0)))] (some [0,1,7,8])) (.block 0 (.loop L159_0))) (.seq
 (.ops false [oi 0 4 (.mv (.c (.int .i64 (-1))))] (some [4])) (.ret)))
def code72:AC:=.seq (.ops false [oi 0 2 (.mv (.c .nils))] (some [0])) (.seq (.seq (.ops false [oi 0 3 (.mv (.t 0)),oi 1 4 (.isnil false 0 (.t 3))] (some [0,4])) (.cond (.t 4) (.seq (.ops false [oi 0 2 (.mv (.c .nils))] (some [2]))
 (.ret)) (.skip))) (.seq (.ops false [oi 0 5 (.mkS 0 [] []),oi 1 6 (.mv (.t 0)),oi 2 7 (.app false 1 1 (.t 5) (.t 6)),oi 3 2 (.mv (.t 7))] (some [2])) (.ret)))
def L23_5:AC:=(.seq (.ops false [oi 0 150 (.bin .lss (.t 149) (.t 148))] (some [2,4,5,11,147,148,149,150])) (.seq (.cond (.t 150) (.skip) (.exit 5)) (.seq (.block 6 (.seq (.ops false [oi 0 151 (.mv (.t 149)),oi 1 152 (.ia 1 (.t 147) (.t
 149)),oi 2 153 (.ld1 (.t 152)),oi 3 12 (.mv (.t 151)),oi 4 13 (.mv (.t 153))] (some [2,4,5,11,12,13,147,148,149])) (.seq (.ops false [oi 0 154 (.ld1 (.t 2)),oi 1 155 (.mv (.t 13)),oi 2 156 (.call false 23 [(.t 154),(.t 155)]),oi 3 14
 (.alloc [.int .i64 0,.int .i64 0,.nils,.nils,.nils]),ou 4 (.st 5 (.t 14) (.t 156))] (some [2,4,5,11,12,14,147,148,149])) (.seq (.ops false [oi 0 157 (.fa 10 (.t 5)),oi 1 158 (.ld1 (.t 157)),oi 2 159 (.mv (.t 12)),oi 3 160 (.ia 1 (.t 158)
 (.t 159)),oi 4 161 (.ld1 (.t 160)),oi 5 162 (.bin .neq (.t 161) (.c (.str [])))] (some [2,4,5,11,12,14,147,148,149,162])) (.cond (.t 162) (.ops true [oi 0 163 (.fa 3 (.t 11)),oi 1 164 (.ld1 (.t 163)),oi 2 165 (.fa 10 (.t 5)),oi 3 166 (.ld1
 (.t 165)),oi 4 167 (.mv (.t 12)),oi 5 168 (.ia 1 (.t 166) (.t 167)),oi 6 169 (.ld1 (.t 168)),oi 7 170 (.mkS 1 [.str []] [(0,1,(.t 169))]),oi 8 171 (.app false 1 16 (.t 164) (.t 170)),⟨9,some 172,.fa 4 (.t 11),none,[8]⟩,⟨10,some 173,.ld1 (.t
 172),none,[8]⟩,⟨11,some 174,.ldA 5 (.t 14),none,[8]⟩,⟨12,some 175,.mkS 1 [.int .i64 0,.int .i64 0,.nils,.nils,.nils] [(0,5,(.t 174))],none,[8]⟩,oi 13 176 (.app false 5 88 (.t 173) (.t 175)),⟨14,some 177,.fa 3 (.t 11),none,[13]⟩,ou 15 (.st 1
 (.t 177) (.t 171)),oi 16 178 (.fa 4 (.t 11)),ou 17 (.st 1 (.t 178) (.t 176))] (some [2,4,5,11,147,148,149])) (.skip)))))) (.ops false [oi 0 179 (.bin .add (.t 149) (.c (.int .i64 1))),oi 1 149 (.mv (.t 179))] (some
 [2,4,5,11,147,148,149])))))
def L23_3:AC:=(.seq (.seq (.ops true [oi 0 96 (.ld1 (.t 2)),oi 1 97 (.call false 67 [(.t 96)]),oi 2 98 (.cvi .i64 (.t 97)),⟨3,some 99,.fa 7 (.t 5),none,[1]⟩,⟨4,some 100,.ld1 (.t 99),none,[1]⟩,oi 5 101 (.bin .neq (.t 98) (.t 100))] (some
 [2,4,5,8,101])) (.cond (.t 101) (.skip) (.exit 3))) (.block 4 (.ops false [oi 0 102 (.mv (.t 8)),oi 1 103 (.ld1 (.t 2)),oi 2 104 (.fa 9 (.t 5)),oi 3 105 (.ld1 (.t 104)),oi 4 106 (.call false 23 [(.t 103),(.t 105)]),oi 5 107 (.mkS 1 [.int
 .i64 0,.int .i64 0,.nils,.nils,.nils] [(0,5,(.t 106))]),oi 6 108 (.app false 5 88 (.t 102) (.t 107)),oi 7 8 (.mv (.t 108))] (some [2,4,5,8]))))
def L23_1:AC:=(.seq (.seq (.ops false [oi 0 81 (.mv (.t 7)),oi 1 82 (.bin .gtr (.t 81) (.c (.int .i64 0)))] (some [2,4,5,6,7,82])) (.cond (.t 82) (.skip) (.exit 1))) (.seq (.block 2 (.ops false [oi 0 85 (.mv (.t 6)),oi 1 86 (.ld1 (.t
 2)),oi 2 87 (.fa 9 (.t 5)),oi 3 88 (.ld1 (.t 87)),oi 4 89 (.call false 23 [(.t 86),(.t 88)]),oi 5 90 (.mkS 1 [.int .i64 0,.int .i64 0,.nils,.nils,.nils] [(0,5,(.t 89))]),oi 6 91 (.app false 5 88 (.t 85) (.t 90)),oi 7 6 (.mv (.t 91))] (some
 [2,4,5,6,7]))) (.ops false [oi 0 83 (.mv (.t 7)),oi 1 84 (.bin .sub (.t 83) (.c (.int .i64 1))),oi 2 7 (.mv (.t 84))] (some [2,4,5,6,7]))))
def T23_0:AC:=.ops false [oi 0 2 (.box (.t 0)),oi 1 4 (.alloc [.int .i64 0,.int .i64 0,.nils,.nils,.nils])] (some [1,2,4])
def T23_1:AC:=.ops false [oi 0 15 (.ld1 (.t 2)),oi 1 16 (.nilck (.t 15)),oi 2 17 (.fa 0 (.t 16)),oi 3 18 (.fa 0 (.t 17)),oi 4 19 (.ld1 (.t 18)),oi 5 20 (.mv (.t 1)),oi 6 21 (.ia 12 (.t 19) (.t 20)),oi 7 22 (.ldA 12 (.t 21)),oi 8 5
 (.alloc [.str [],.int .i64 0,.nils,.int .i64 0,.bool false,.int .i64 0,.int .i64 0,.int .i64 0,.int .i64 0,.int .i64 0,.nils,.nils]),ou 9 (.st 12 (.t 5) (.t 22))] (some [2,4,5])
def T23_2:AC:=.seq (.ops false [oi 0 23 (.fa 1 (.t 5)),oi 1 24 (.ld1 (.t 23))] (some [2,4,5,24])) (.block 0 (.seq (.ops false [oi 0 26 (.bin .eql (.t 24) (.c (.int .i64 1))),oi 1 25 (.mv (.t 26))] (some [2,4,5,24,25])) (.cond (.t 25)
 (.seq (.ops false [oi 0 27 (.ld1 (.t 2)),oi 1 28 (.fa 2 (.t 5)),oi 2 29 (.ld1 (.t 28)),oi 3 30 (.call false 60 [(.t 27),(.t 29)])] (some [4])) (.seq (.ops false [oi 0 31 (.call false 61 [(.c .nils)]),ou 1 (.st 5 (.t 4) (.t 31))] (some [4]))
 (.ret))) (.seq (.seq (.ops false [oi 0 33 (.bin .eql (.t 24) (.c (.int .i64 2))),oi 1 32 (.mv (.t 33))] (some [2,4,5,24,32])) (.cond (.t 32) (.skip) (.ops false [oi 0 34 (.bin .eql (.t 24) (.c (.int .i64 3))),oi 1 32 (.mv (.t 34))] (some
 [2,4,5,24,32])))) (.cond (.t 32) (.seq (.ops false [oi 0 35 (.ld1 (.t 2)),oi 1 36 (.ldA 12 (.t 5)),oi 2 37 (.call false 63 [(.t 35),(.t 36)]),oi 3 38 (.call false 62 [(.t 37)]),ou 4 (.st 5 (.t 4) (.t 38))] (some [4])) (.ret)) (.seq (.ops
 false [oi 0 40 (.bin .eql (.t 24) (.c (.int .i64 4))),oi 1 39 (.mv (.t 40))] (some [2,4,5,24,39])) (.cond (.t 39) (.seq (.ops false [oi 0 41 (.ld1 (.t 2)),oi 1 42 (.fa 3 (.t 5)),oi 2 43 (.ld1 (.t 42)),oi 3 44 (.call false 65 [(.t 41),(.t
 43)]),oi 4 45 (.call false 64 [(.t 44)]),ou 5 (.st 5 (.t 4) (.t 45))] (some [4])) (.ret)) (.seq (.ops false [oi 0 47 (.bin .eql (.t 24) (.c (.int .i64 10))),oi 1 46 (.mv (.t 47))] (some [2,4,5,24,46])) (.cond (.t 46) (.seq (.ops true [oi 0
 48 (.ld1 (.t 2)),oi 1 49 (.ld1 (.t 2)),oi 2 50 (.ld1 (.t 2)),oi 3 51 (.nilck (.t 50)),oi 4 52 (.fa 0 (.t 51)),oi 5 53 (.fa 0 (.t 52)),oi 6 54 (.ld1 (.t 53)),oi 7 55 (.fa 8 (.t 5)),oi 8 56 (.ld1 (.t 55)),oi 9 57 (.ia 12 (.t 54) (.t 56)),oi
 10 58 (.ldA 12 (.t 57)),⟨11,some 59,.call false 63 [(.t 49),(.t 58)],none,[0]⟩,oi 12 60 (.call false 65 [(.t 48),(.t 59)]),oi 13 61 (.call false 64 [(.t 60)]),ou 14 (.st 5 (.t 4) (.t 61))] (some [4])) (.ret)) (.seq (.ops false [oi 0 63
 (.bin .eql (.t 24) (.c (.int .i64 5))),oi 1 62 (.mv (.t 63))] (some [2,4,5,24,62])) (.cond (.t 62) (.seq (.ops false [oi 0 64 (.ld1 (.t 2)),oi 1 65 (.ldA 12 (.t 5)),oi 2 66 (.call false 66 [(.t 64),(.t 65)]),oi 3 67 (.call false 64 [(.t
 66)]),ou 4 (.st 5 (.t 4) (.t 67))] (some [4])) (.ret)) (.seq (.ops false [oi 0 69 (.bin .eql (.t 24) (.c (.int .i64 6))),oi 1 68 (.mv (.t 69))] (some [2,4,5,24,68])) (.cond (.t 68) (.seq (.ops false [oi 0 6 (.mv (.c .nils))] (some
 [2,4,5,6])) (.seq (.seq (.ops true [oi 0 70 (.ld1 (.t 2)),oi 1 71 (.ld1 (.t 2)),oi 2 72 (.nilck (.t 71)),oi 3 73 (.fa 0 (.t 72)),oi 4 74 (.fa 0 (.t 73)),oi 5 75 (.ld1 (.t 74)),oi 6 76 (.fa 8 (.t 5)),oi 7 77 (.ld1 (.t 76)),oi 8 78 (.ia 12
 (.t 75) (.t 77)),oi 9 79 (.ldA 12 (.t 78)),oi 10 80 (.call false 63 [(.t 70),(.t 79)]),oi 11 7 (.mv (.t 80))] (some [2,4,5,6,7])) (.block 1 (.loop L23_1))) (.seq (.ops false [oi 0 92 (.mv (.t 6)),oi 1 93 (.call false 61 [(.t 92)]),ou 2 (.st
 5 (.t 4) (.t 93))] (some [4])) (.ret)))) (.seq (.ops false [oi 0 95 (.bin .eql (.t 24) (.c (.int .i64 9))),oi 1 94 (.mv (.t 95))] (some [2,4,5,24,94])) (.cond (.t 94) (.seq (.ops false [oi 0 8 (.mv (.c .nils))] (some [2,4,5,8])) (.seq
 (.block 3 (.loop L23_3)) (.seq (.ops false [oi 0 109 (.ld1 (.t 2)),oi 1 110 (.nilck (.t 109)),oi 2 111 (.fa 3 (.t 110)),oi 3 112 (.ld1 (.t 111)),oi 4 113 (.bin .add (.t 112) (.c (.int .i64 1))),oi 5 114 (.nilck (.t 109)),oi 6 115 (.fa 3 (.t
 114)),ou 7 (.st 1 (.t 115) (.t 113))] (some [4,8])) (.seq (.ops false [oi 0 116 (.mv (.t 8)),oi 1 117 (.call false 61 [(.t 116)]),ou 2 (.st 5 (.t 4) (.t 117))] (some [4])) (.ret))))) (.seq (.ops false [oi 0 119 (.bin .eql (.t 24) (.c (.int
 .i64 8))),oi 1 118 (.mv (.t 119))] (some [2,4,5,118])) (.cond (.t 118) (.seq (.ops false [oi 0 120 (.ld1 (.t 2)),oi 1 121 (.call false 67 [(.t 120)]),oi 2 122 (.cvi .i64 (.t 121)),oi 3 9 (.alloc [.int .i64 0]),ou 4 (.st 1 (.t 9) (.t 122))]
 (some [2,4,5,9])) (.seq (.ops false [oi 0 123 (.fa 11 (.t 5)),oi 1 124 (.ld1 (.t 123)),oi 2 125 (.mkF 69 [] [(.t 2),(.t 9)]),oi 3 126 (.call false 68 [(.t 124),(.t 125)]),oi 4 10 (.mv (.t 126))] (some [2,4,5,10])) (.seq (.seq (.ops false
 [oi 0 127 (.mv (.t 10)),oi 1 128 (.bin .lss (.t 127) (.c (.int .i64 0)))] (some [2,4,5,10,128])) (.cond (.t 128) (.ops false [oi 0 129 (.ld1 (.t 2)),oi 1 130 (.nilck (.t 129)),oi 2 131 (.fa 3 (.t 130)),oi 3 132 (.ld1 (.t 131)),oi 4 133
 (.call false 24 [(.t 132)])] (some [2,4,5,10])) (.skip))) (.seq (.ops true [oi 0 134 (.mv (.t 10)),oi 1 135 (.call false 62 [(.t 134)]),⟨2,some 136,.ld1 (.t 2),none,[1]⟩,⟨3,some 137,.fa 11 (.t 5),none,[1]⟩,⟨4,some 138,.ld1 (.t
 137),none,[1]⟩,⟨5,some 139,.mv (.t 10),none,[1]⟩,⟨6,some 140,.ia 1 (.t 138) (.t 139),none,[1]⟩,⟨7,some 141,.ld1 (.t 140),none,[1]⟩,oi 8 142 (.call false 23 [(.t 136),(.t 141)]),oi 9 143 (.mkS 2 [.int .i64 0,.int .i64
 0,.nils,.nils,.nils,.int .i64 0,.int .i64 0,.nils,.nils,.nils] [(0,5,(.t 135)),(5,5,(.t 142))]),oi 10 144 (.call false 61 [(.t 143)]),ou 11 (.st 5 (.t 4) (.t 144))] (some [4])) (.ret))))) (.skip))))))))))))))))))
def T23_3:AC:=.ops false [oi 0 145 (.build [.int .i64 0,.int .i64 0,.nils,.nils,.nils] [(0,1,(.c (.int .i64 4)))]),oi 1 11 (.alloc [.int .i64 0,.int .i64 0,.nils,.nils,.nils]),ou 2 (.st 5 (.t 11) (.t 145))] (some [2,4,5,11])
def T23_4:AC:=.seq (.ops false [oi 0 146 (.fa 11 (.t 5)),oi 1 147 (.ld1 (.t 146)),oi 2 148 (.len false (.t 147)),oi 3 149 (.mv (.c (.int .i64 0)))] (some [2,4,5,11,147,148,149])) (.block 5 (.loop L23_5))
def T23_5:AC:=.ops false [oi 0 180 (.ldA 5 (.t 11)),ou 1 (.st 5 (.t 4) (.t 180))] (some [4])
def T23_6:AC:=.ret
def code23:AC:=.seq T23_0 (.seq T23_1 (.seq T23_2 (.seq T23_3 (.seq T23_4 (.seq T23_5 T23_6)))))
def L60_0:AC:=(.seq (.ops false [oi 0 9 (.bin .lss (.t 8) (.t 7))] (some [0,6,7,8,9])) (.seq (.cond (.t 9) (.skip) (.exit 0)) (.seq (.block 1 (.seq (.ops false [oi 0 10 (.ia 1 (.t 6) (.t 8)),oi 1 11 (.ld1 (.t 10)),oi 2 5 (.mv (.t 11))]
 (some [0,5,6,7,8])) (.seq (.seq (.ops false [oi 0 12 (.mv (.t 0)),oi 1 13 (.call false 67 [(.t 12)]),oi 2 14 (.mv (.t 5)),oi 3 15 (.bin .neq (.t 13) (.t 14))] (some [0,6,7,8,15])) (.cond (.t 15) (.ops false [oi 0 16 (.mv (.t 0)),oi 1 17
 (.nilck (.t 16)),oi 2 18 (.fa 3 (.t 17)),oi 3 19 (.ld1 (.t 18)),oi 4 20 (.call false 24 [(.t 19)])] (some [0,6,7,8])) (.skip))) (.ops false [oi 0 21 (.mv (.t 0)),oi 1 22 (.nilck (.t 21)),oi 2 23 (.fa 3 (.t 22)),oi 3 24 (.ld1 (.t 23)),oi 4
 25 (.bin .add (.t 24) (.c (.int .i64 1))),oi 5 26 (.nilck (.t 21)),oi 6 27 (.fa 3 (.t 26)),ou 7 (.st 1 (.t 27) (.t 25))] (some [0,6,7,8]))))) (.ops false [oi 0 28 (.bin .add (.t 8) (.c (.int .i64 1))),oi 1 8 (.mv (.t 28))] (some
 [0,6,7,8])))))
def code60:AC:=.seq (.ops false [oi 0 6 (.mv (.t 1)),oi 1 7 (.len false (.t 6)),oi 2 8 (.mv (.c (.int .i64 0)))] (some [0,6,7,8])) (.block 0 (.loop L60_0))
def code61:AC:=.seq (.ops false [oi 0 2 (.alloc [.int .i64 0,.int .i64 0,.nils,.nils,.nils])] (some [0,2])) (.seq (.ops false [oi 0 3 (.mv (.t 0)),oi 1 4 (.build [.int .i64 0,.int .i64 0,.nils,.nils,.nils] [(0,1,(.c (.int .i64
 3))),(4,1,(.t 3))]),ou 2 (.st 5 (.t 2) (.t 4))] (some [2])) (.ret))
def code62:AC:=.seq (.ops false [oi 0 2 (.alloc [.int .i64 0,.int .i64 0,.nils,.nils,.nils])] (some [0,2])) (.seq (.ops false [oi 0 3 (.mv (.t 0)),oi 1 4 (.build [.int .i64 0,.int .i64 0,.nils,.nils,.nils] [(0,1,(.c (.int .i64
 1))),(1,1,(.t 3))]),ou 2 (.st 5 (.t 2) (.t 4))] (some [2])) (.ret))
def L63_0:AC:=(.seq (.ops false [oi 0 25 (.bin .lss (.t 24) (.t 23))] (some [3,5,6,22,23,24,25])) (.seq (.cond (.t 25) (.skip) (.exit 0)) (.seq (.block 1 (.seq (.ops false [oi 0 26 (.mv (.t 24)),oi 1 27 (.ia 1 (.t 22) (.t 24)),oi 2 28
 (.ld1 (.t 27)),oi 3 7 (.mv (.t 26)),oi 4 8 (.mv (.t 28))] (some [3,5,6,7,8,22,23,24])) (.seq (.ops false [oi 0 29 (.fa 4 (.t 3)),oi 1 30 (.ld1 (.t 29))] (some [3,5,6,7,8,22,23,24,30])) (.cond (.t 30) (.ops false [oi 0 31 (.mv (.t 6)),oi 1
 32 (.bin .shl (.t 31) (.c (.int .u64 8))),oi 2 33 (.mv (.t 8)),oi 3 34 (.cvi .i64 (.t 33)),oi 4 35 (.bin .or (.t 32) (.t 34)),oi 5 6 (.mv (.t 35))] (some [3,5,6,22,23,24])) (.ops false [oi 0 36 (.mv (.t 6)),oi 1 37 (.mv (.t 8)),oi 2 38
 (.cvi .i64 (.t 37)),oi 3 39 (.mv (.t 7)),oi 4 40 (.bin .mul (.c (.int .i64 8)) (.t 39)),oi 5 41 (.bin .shl (.t 38) (.t 40)),oi 6 42 (.bin .or (.t 36) (.t 41)),oi 7 6 (.mv (.t 42))] (some [3,5,6,22,23,24])))))) (.ops false [oi 0 43 (.bin
 .add (.t 24) (.c (.int .i64 1))),oi 1 24 (.mv (.t 43))] (some [3,5,6,22,23,24])))))
def code63:AC:=.seq (.ops false [oi 0 3 (.box (.t 1)),oi 1 4 (.mv (.c (.int .i64 0)))] (some [0,3])) (.seq (.seq (.ops false [oi 0 9 (.fa 1 (.t 3)),oi 1 10 (.ld1 (.t 9)),oi 2 11 (.bin .eql (.t 10) (.c (.int .i64 3)))] (some [0,3,11]))
 (.cond (.t 11) (.seq (.ops false [oi 0 12 (.mv (.t 0)),oi 1 13 (.ldA 12 (.t 3)),oi 2 14 (.call false 114 [(.t 12),(.t 13)]),oi 3 4 (.mv (.t 14))] (some [4])) (.ret)) (.skip))) (.seq (.ops false [oi 0 15 (.mv (.t 0)),oi 1 16 (.nilck (.t
 15)),oi 2 17 (.fa 3 (.t 16)),oi 3 18 (.ld1 (.t 17)),oi 4 5 (.mv (.t 18))] (some [0,3,5])) (.seq (.ops false [oi 0 6 (.mv (.c (.int .i64 0)))] (some [0,3,5,6])) (.seq (.seq (.ops false [oi 0 19 (.mv (.t 0)),oi 1 20 (.fa 3 (.t 3)),oi 2 21
 (.ld1 (.t 20)),oi 3 22 (.call false 65 [(.t 19),(.t 21)]),oi 4 23 (.len false (.t 22)),oi 5 24 (.mv (.c (.int .i64 0)))] (some [3,5,6,22,23,24])) (.block 0 (.loop L63_0))) (.seq (.seq (.ops false [oi 0 44 (.mv (.t 6)),oi 1 45 (.fa 5 (.t
 3)),oi 2 46 (.ld1 (.t 45)),oi 3 47 (.bin .lss (.t 44) (.t 46)),oi 4 48 (.mv (.t 47)),⟨5,some 49,.mv (.t 6),(some (some 48,false)),[]⟩,⟨6,some 50,.fa 6 (.t 3),(some (some 48,false)),[]⟩,⟨7,some 51,.ld1 (.t 50),(some (some
 48,false)),[]⟩,⟨8,some 52,.bin .gtr (.t 49) (.t 51),(some (some 48,false)),[]⟩,oi 9 53 (.pick (.t 48) (.c (.bool true)) (.t 52))] (some [5,6,53])) (.cond (.t 53) (.ops false [oi 0 54 (.mv (.t 5)),oi 1 55 (.call false 24 [(.t 54)])] (some
 [6])) (.skip))) (.seq (.ops false [oi 0 56 (.mv (.t 6)),oi 1 4 (.mv (.t 56))] (some [4])) (.ret)))))))
def code64:AC:=.seq (.ops false [oi 0 2 (.alloc [.int .i64 0,.int .i64 0,.nils,.nils,.nils])] (some [0,2])) (.seq (.ops false [oi 0 3 (.mv (.t 0)),oi 1 4 (.call false 72 [(.t 3)]),oi 2 5 (.build [.int .i64 0,.int .i64
 0,.nils,.nils,.nils] [(0,1,(.c (.int .i64 2))),(2,1,(.t 4))]),ou 3 (.st 5 (.t 2) (.t 5))] (some [2])) (.ret))
def code65:AC:=.seq (.ops false [oi 0 4 (.mv (.c .nils))] (some [0,1])) (.seq (.seq (.ops true [oi 0 6 (.mv (.t 1)),oi 1 7 (.mv (.t 0)),oi 2 8 (.nilck (.t 7)),oi 3 9 (.fa 2 (.t 8)),oi 4 10 (.ld1 (.t 9)),oi 5 11 (.len false (.t 10)),oi 6
 12 (.mv (.t 0)),oi 7 13 (.nilck (.t 12)),oi 8 14 (.fa 3 (.t 13)),oi 9 15 (.ld1 (.t 14)),oi 10 16 (.bin .sub (.t 11) (.t 15)),oi 11 17 (.bin .gtr (.t 6) (.t 16))] (some [0,1,17])) (.cond (.t 17) (.ops false [oi 0 18 (.mv (.t 0)),oi 1 19
 (.nilck (.t 18)),oi 2 20 (.fa 2 (.t 19)),oi 3 21 (.ld1 (.t 20)),oi 4 22 (.len false (.t 21)),oi 5 23 (.call false 24 [(.t 22)])] (some [0,1])) (.skip))) (.seq (.ops true [oi 0 24 (.mv (.t 0)),oi 1 25 (.nilck (.t 24)),oi 2 26 (.fa 2 (.t
 25)),oi 3 27 (.ld1 (.t 26)),oi 4 28 (.mv (.t 0)),oi 5 29 (.nilck (.t 28)),oi 6 30 (.fa 3 (.t 29)),oi 7 31 (.ld1 (.t 30)),oi 8 32 (.mv (.t 0)),oi 9 33 (.nilck (.t 32)),oi 10 34 (.fa 3 (.t 33)),oi 11 35 (.ld1 (.t 34)),oi 12 36 (.mv (.t 1)),oi
 13 37 (.bin .add (.t 35) (.t 36)),oi 14 38 (.slc 1 (.t 27) (some (.t 31)) (some (.t 37)) none),oi 15 5 (.mv (.t 38))] (some [0,1,5])) (.seq (.ops false [oi 0 39 (.mv (.t 0)),oi 1 40 (.nilck (.t 39)),oi 2 41 (.fa 3 (.t 40)),oi 3 42 (.ld1 (.t
 41)),oi 4 43 (.mv (.t 1)),oi 5 44 (.bin .add (.t 42) (.t 43)),oi 6 45 (.nilck (.t 39)),oi 7 46 (.fa 3 (.t 45)),ou 8 (.st 1 (.t 46) (.t 44))] (some [5])) (.seq (.ops false [oi 0 47 (.mv (.t 5)),oi 1 4 (.mv (.t 47))] (some [4])) (.ret)))))
def code67:AC:=.seq (.ops false [oi 0 2 (.mv (.c (.int .u8 0)))] (some [0])) (.seq (.seq (.ops true [oi 0 3 (.mv (.t 0)),oi 1 4 (.nilck (.t 3)),oi 2 5 (.fa 3 (.t 4)),oi 3 6 (.ld1 (.t 5)),oi 4 7 (.mv (.t 0)),oi 5 8 (.nilck (.t 7)),oi 6 9
 (.fa 2 (.t 8)),oi 7 10 (.ld1 (.t 9)),oi 8 11 (.len false (.t 10)),oi 9 12 (.bin .eql (.t 6) (.t 11))] (some [0,12])) (.cond (.t 12) (.ops false [oi 0 13 (.mv (.t 0)),oi 1 14 (.nilck (.t 13)),oi 2 15 (.fa 3 (.t 14)),oi 3 16 (.ld1 (.t 15)),oi
 4 17 (.call false 24 [(.t 16)])] (some [0])) (.skip))) (.seq (.ops true [oi 0 18 (.mv (.t 0)),oi 1 19 (.nilck (.t 18)),oi 2 20 (.fa 2 (.t 19)),oi 3 21 (.ld1 (.t 20)),oi 4 22 (.mv (.t 0)),oi 5 23 (.nilck (.t 22)),oi 6 24 (.fa 3 (.t 23)),oi 7
 25 (.ld1 (.t 24)),oi 8 26 (.ia 1 (.t 21) (.t 25)),oi 9 27 (.ld1 (.t 26)),oi 10 2 (.mv (.t 27))] (some [2])) (.ret)))
def L68_0:AC:=(.seq (.ops false [oi 0 9 (.bin .lss (.t 8) (.t 7))] (some [0,1,7,8,9])) (.seq (.cond (.t 9) (.skip) (.exit 0)) (.seq (.block 1 (.seq (.ops false [oi 0 10 (.mv (.t 8)),oi 1 5 (.mv (.t 10))] (some [0,1,5,7,8])) (.seq (.ops
 false [oi 0 11 (.mv (.t 1)),oi 1 12 (.mv (.t 0)),oi 2 13 (.mv (.t 5)),oi 3 14 (.ia 1 (.t 12) (.t 13)),oi 4 15 (.ld1 (.t 14)),oi 5 16 (.dyn (.t 11) [(.t 15)])] (some [0,1,5,7,8,16])) (.cond (.t 16) (.seq (.ops false [oi 0 17 (.mv (.t 5)),oi
 1 4 (.mv (.t 17))] (some [4])) (.ret)) (.skip))))) (.ops false [oi 0 18 (.bin .add (.t 8) (.c (.int .i64 1))),oi 1 8 (.mv (.t 18))] (some [0,1,7,8])))))
def code68:AC:=.seq (.ops false [oi 0 4 (.mv (.c (.int .i64 0)))] (some [0,1])) (.seq (.seq (.ops false [oi 0 6 (.mv (.t 0)),oi 1 7 (.len false (.t 6)),oi 2 8 (.mv (.c (.int .i64 0)))] (some [0,1,7,8])) (.block 0 (.loop L68_0))) (.seq
 (.ops false [oi 0 4 (.mv (.c (.int .i64 (-1))))] (some [4])) (.ret)))
def code69:AC:=.seq (.ops false [oi 0 4 (.mv (.c (.bool false)))] (some [0,1,2])) (.seq (.ops true [oi 0 5 (.ld1 (.t 1)),oi 1 6 (.nilck (.t 5)),oi 2 7 (.fa 1 (.t 6)),oi 3 8 (.ld1 (.t 7)),oi 4 9 (.mv (.t 0)),oi 5 10 (.ia 1 (.t 8) (.t
 9)),oi 6 11 (.ld1 (.t 10)),oi 7 12 (.ld1 (.t 2)),oi 8 13 (.call false 70 [(.t 11),(.t 12)]),oi 9 4 (.mv (.t 13))] (some [4])) (.ret))
def T21_0:AC:=.ops false [oi 0 5 .stop] (some [0,1,5])
def T21_1:AC:=.block 0 (.seq (.ops false [oi 0 7 (.isnil false 2 (.t 5))] (some [0,1,5,7])) (.cond (.t 7) (.ops false [oi 0 2 (.mv (.t 5))] (some [])) (.seq (.ops false [oi 0 8 .stop,oi 1 9 (.ext 1 (.t 8)),oi 2 10 (.ext 0 (.t 8))] (some
 [0,1,5,9,10])) (.cond (.t 9) (.seq (.ops false [oi 0 3 (.alloc [.int .i64 0,.int .i64 0]),ou 1 (.st 2 (.t 3) (.t 10))] (some [0,1,3])) (.ops true [oi 0 11 (.build [.int .i64 0,.int .i64 0,.nils,.nils,.nils] []),oi 1 12 (.ldA 2 (.t
 3)),⟨2,none,.st 5 (.t 0) (.t 11),none,[1]⟩,ou 3 (.st 2 (.t 1) (.t 12))] (some []))) (.seq (.ops false [oi 0 4 (.mv (.t 5))] (some [4])) (.ops false [oi 0 6 (.mv (.t 4)),ou 1 .stop] (some [])))))))
def code21:AC:=.seq T21_0 T21_1
def T32_0:AC:=.ops false [oi 0 5 .stop] (some [0,1,5])
def T32_1:AC:=.block 0 (.seq (.ops false [oi 0 7 (.isnil false 2 (.t 5))] (some [0,1,5,7])) (.cond (.t 7) (.ops false [oi 0 2 (.mv (.t 5))] (some [])) (.seq (.ops false [oi 0 8 .stop,oi 1 9 (.ext 1 (.t 8)),oi 2 10 (.ext 0 (.t 8))] (some
 [0,1,5,9,10])) (.cond (.t 9) (.seq (.ops false [oi 0 3 (.alloc [.int .i64 0,.int .i64 0]),ou 1 (.st 2 (.t 3) (.t 10))] (some [0,1,3])) (.ops true [oi 0 11 (.ldA 2 (.t 3)),⟨1,none,.st 1 (.t 0) (.c .nils),none,[0]⟩,ou 2 (.st 2 (.t 1) (.t
 11))] (some []))) (.seq (.ops false [oi 0 4 (.mv (.t 5))] (some [4])) (.ops false [oi 0 6 (.mv (.t 4)),ou 1 .stop] (some [])))))))
def code32:AC:=.seq T32_0 T32_1
def T7_0:AC:=.ops false [oi 0 2 (.box (.t 0)),oi 1 4 (.alloc [.int .i64 0,.int .i64 0,.nils,.nils,.nils]),oi 2 5 (.alloc [.int .i64 0,.int .i64 0])] (some [1,2,4,5])
def T7_1:AC:=.seq (.ops false [oi 0 8 (.ldA 1 (.t 2)),oi 1 9 (.call false 19 [(.t 8)]),oi 2 6 (.alloc [.int .i64 0,.int .i64 0]),ou 3 (.st 2 (.t 6) (.t 9))] (some [1,2,4,5,6])) (.seq (.ops false [oi 0 10 (.ldA 2 (.t 6)),oi 1 11 (.build
 [.int .i64 0,.int .i64 0] []),oi 2 12 (.eqA true 2 (.t 10) (.t 11))] (some [1,2,4,5,6,12])) (.cond (.t 12) (.seq (.ops true [oi 0 13 (.build [.int .i64 0,.int .i64 0,.nils,.nils,.nils] []),oi 1 14 (.ldA 2 (.t 6)),⟨2,none,.st 5 (.t 4) (.t
 13),none,[1]⟩,ou 3 (.st 2 (.t 5) (.t 14))] (some [4,5])) (.ret)) (.skip)))
def T7_2:AC:=.seq (.ops false [oi 0 15 (.mv (.t 1)),oi 1 16 (.len false (.t 15)),oi 2 17 (.bin .gtr (.t 16) (.c (.int .i64 1000)))] (some [1,2,4,5,17])) (.cond (.t 17) (.seq (.ops false [oi 0 18 (.build [.int .i64 0,.int .i64
 0,.nils,.nils,.nils] []),oi 1 19 (.call false 20 [(.c (.int .i64 3)),(.c (.int .i64 (-2)))]),ou 2 (.st 5 (.t 4) (.t 18)),ou 3 (.st 2 (.t 5) (.t 19))] (some [4,5])) (.ret)) (.skip))
def T7_3:AC:=.ops false [oi 0 20 (.mkF 21 [] [(.t 4),(.t 5)]),ou 1 .stop] (some [1,2,4,5])
def T7_4:AC:=.ops true [oi 0 21 (.ldA 1 (.t 2)),oi 1 22 (.ldA 1 (.t 2)),⟨2,some 23,.call false 22 [(.t 22)],none,[0]⟩,⟨3,some 24,.mv (.t 1),none,[2]⟩,oi 4 25 (.build [.nils,.nils,.nils,.int .i64 0] [(0,1,(.t 21)),(1,1,(.t 23)),(2,1,(.t
 24))]),oi 5 26 (.box (.t 25)),oi 6 7 (.mv (.t 26))] (some [1,4,5,7])
def T7_5:AC:=.ops false [oi 0 27 (.mv (.t 7)),oi 1 28 (.call false 23 [(.t 27),(.c (.int .i64 0))]),ou 2 (.st 5 (.t 4) (.t 28))] (some [1,4,5,7])
def T7_6:AC:=.seq (.ops false [oi 0 29 (.mv (.t 7)),oi 1 30 (.nilck (.t 29)),oi 2 31 (.fa 3 (.t 30)),oi 3 32 (.ld1 (.t 31)),oi 4 33 (.mv (.t 1)),oi 5 34 (.len false (.t 33)),oi 6 35 (.bin .lss (.t 32) (.t 34))] (some [4,5,7,35])) (.cond
 (.t 35) (.ops false [oi 0 36 (.mv (.t 7)),oi 1 37 (.nilck (.t 36)),oi 2 38 (.fa 3 (.t 37)),oi 3 39 (.ld1 (.t 38)),oi 4 40 (.call false 24 [(.t 39)])] (some [4,5])) (.skip))
def T7_7:AC:=.seq (.ops false [oi 0 41 (.ldA 5 (.t 4)),oi 1 42 (.call false 25 [(.t 41)]),oi 2 43 (.build [.int .i64 0,.int .i64 0] []),oi 3 44 (.eqA true 2 (.t 42) (.t 43))] (some [4,5,44])) (.cond (.t 44) (.seq (.ops false [oi 0 45
 (.build [.int .i64 0,.int .i64 0,.nils,.nils,.nils] []),oi 1 46 (.call false 20 [(.c (.int .i64 14)),(.c (.int .i64 (-2)))]),ou 2 (.st 5 (.t 4) (.t 45)),ou 3 (.st 2 (.t 5) (.t 46))] (some [4,5])) (.ret)) (.skip))
def T7_8:AC:=.ops false [oi 0 47 (.ldA 5 (.t 4)),oi 1 48 (.build [.int .i64 0,.int .i64 0] []),ou 2 (.st 5 (.t 4) (.t 47)),ou 3 (.st 2 (.t 5) (.t 48))] (some [4,5])
def T7_9:AC:=.ret
def code7:AC:=.seq T7_0 (.seq T7_1 (.seq T7_2 (.seq T7_3 (.seq T7_4 (.seq T7_5 (.seq T7_6 (.seq T7_7 (.seq T7_8 T7_9))))))))
def T10_0:AC:=.ops false [oi 0 2 (.box (.t 0)),oi 1 3 (.box (.t 1)),oi 2 4 (.alloc [.nils]),oi 3 5 (.alloc [.int .i64 0,.int .i64 0])] (some [2,3,4,5])
def T10_1:AC:=.seq (.ops false [oi 0 9 (.ldA 1 (.t 2)),oi 1 10 (.call false 19 [(.t 9)]),oi 2 6 (.alloc [.int .i64 0,.int .i64 0]),ou 3 (.st 2 (.t 6) (.t 10))] (some [2,3,4,5,6])) (.seq (.ops false [oi 0 11 (.ldA 2 (.t 6)),oi 1 12
 (.build [.int .i64 0,.int .i64 0] []),oi 2 13 (.eqA true 2 (.t 11) (.t 12))] (some [2,3,4,5,6,13])) (.cond (.t 13) (.seq (.ops true [oi 0 14 (.ldA 2 (.t 6)),⟨1,none,.st 1 (.t 4) (.c .nils),none,[0]⟩,ou 2 (.st 2 (.t 5) (.t 14))] (some
 [4,5])) (.ret)) (.skip)))
def T10_2:AC:=.seq (.ops false [oi 0 15 (.ldA 5 (.t 3)),oi 1 16 (.call false 25 [(.t 15)]),oi 2 7 (.alloc [.int .i64 0,.int .i64 0]),ou 3 (.st 2 (.t 7) (.t 16))] (some [2,3,4,5,7])) (.seq (.ops false [oi 0 17 (.ldA 2 (.t 7)),oi 1 18
 (.build [.int .i64 0,.int .i64 0] []),oi 2 19 (.eqA true 2 (.t 17) (.t 18))] (some [2,3,4,5,7,19])) (.cond (.t 19) (.seq (.ops true [oi 0 20 (.ldA 2 (.t 7)),⟨1,none,.st 1 (.t 4) (.c .nils),none,[0]⟩,ou 2 (.st 2 (.t 5) (.t 20))] (some
 [4,5])) (.ret)) (.skip)))
def T10_3:AC:=.ops false [oi 0 21 (.mkF 32 [] [(.t 4),(.t 5)]),ou 1 .stop] (some [2,3,4,5])
def T10_4:AC:=.ops false [oi 0 22 (.ldA 1 (.t 2)),oi 1 23 (.build [.nils,.nils,.int .i64 0] [(0,1,(.t 22))]),oi 2 24 (.box (.t 23)),oi 3 8 (.mv (.t 24))] (some [3,4,5,8])
def T10_5:AC:=.ops false [oi 0 25 (.mv (.t 8)),oi 1 26 (.ldA 5 (.t 3)),oi 2 27 (.call false 33 [(.t 25),(.c (.int .i64 0)),(.t 26)])] (some [4,5,8])
def T10_6:AC:=.seq (.ops false [oi 0 28 (.mv (.t 8)),oi 1 29 (.nilck (.t 28)),oi 2 30 (.fa 1 (.t 29)),oi 3 31 (.ld1 (.t 30)),oi 4 32 (.len false (.t 31)),oi 5 33 (.bin .gtr (.t 32) (.c (.int .i64 1000)))] (some [4,5,8,33])) (.cond (.t
 33) (.seq (.ops false [oi 0 34 (.call false 20 [(.c (.int .i64 14)),(.c (.int .i64 (-2)))]),ou 1 (.st 1 (.t 4) (.c .nils)),ou 2 (.st 2 (.t 5) (.t 34))] (some [4,5])) (.ret)) (.skip))
def T10_7:AC:=.ops false [oi 0 35 (.mv (.t 8)),oi 1 36 (.nilck (.t 35)),oi 2 37 (.fa 1 (.t 36)),oi 3 38 (.ld1 (.t 37)),oi 4 39 (.build [.int .i64 0,.int .i64 0] []),ou 5 (.st 1 (.t 4) (.t 38)),ou 6 (.st 2 (.t 5) (.t 39))] (some [4,5])
def T10_8:AC:=.ret
def code10:AC:=.seq T10_0 (.seq T10_1 (.seq T10_2 (.seq T10_3 (.seq T10_4 (.seq T10_5 (.seq T10_6 (.seq T10_7 T10_8)))))))
def L33_1:AC:=(.seq (.ops false [oi 0 187 (.bin .lss (.t 186) (.t 185))] (some [0,6,7,184,185,186,187])) (.seq (.cond (.t 187) (.skip) (.exit 1)) (.seq (.block 2 (.seq (.ops false [oi 0 188 (.mv (.t 186)),oi 1 189 (.ia 1 (.t 184) (.t
 186)),oi 2 190 (.ld1 (.t 189)),oi 3 8 (.mv (.t 188)),oi 4 9 (.mv (.t 190))] (some [0,6,7,8,9,184,185,186])) (.seq (.seq (.ops false [oi 0 191 (.fa 10 (.t 6)),oi 1 192 (.ld1 (.t 191)),oi 2 193 (.mv (.t 8)),oi 3 194 (.ia 1 (.t 192) (.t
 193)),oi 4 195 (.ld1 (.t 194)),oi 5 196 (.bin .eql (.t 195) (.c (.str [])))] (some [0,6,7,9,184,185,186,196])) (.cond (.t 196) (.seq (.ops true [oi 0 197 (.mv (.t 0)),oi 1 198 (.mv (.t 0)),oi 2 199 (.nilck (.t 198)),oi 3 200 (.fa 1 (.t
 199)),oi 4 201 (.ld1 (.t 200)),oi 5 202 (.mv (.t 0)),oi 6 203 (.nilck (.t 202)),oi 7 204 (.fa 0 (.t 203)),oi 8 205 (.fa 0 (.t 204)),oi 9 206 (.ld1 (.t 205)),oi 10 207 (.mv (.t 9)),oi 11 208 (.ia 12 (.t 206) (.t 207)),oi 12 209 (.fa 2 (.t
 208)),oi 13 210 (.ld1 (.t 209)),⟨14,some 211,.app false 1 1 (.t 201) (.t 210),none,[0]⟩,oi 15 212 (.nilck (.t 197)),oi 16 213 (.fa 1 (.t 212)),ou 17 (.st 1 (.t 213) (.t 211))] (some [0,6,7,184,185,186])) (.exit 2)) (.skip))) (.seq (.ops
 false [oi 0 214 (.mv (.t 0)),oi 1 215 (.mv (.t 9)),oi 2 216 (.mv (.t 7)),oi 3 217 (.ia 5 (.t 216) (.c (.int .i64 0))),oi 4 218 (.ldA 5 (.t 217)),oi 5 219 (.call false 33 [(.t 214),(.t 215),(.t 218)])] (some [0,6,7,184,185,186])) (.ops false
 [oi 0 220 (.mv (.t 7)),oi 1 221 (.slc 5 (.t 220) (some (.c (.int .i64 1))) none none),oi 2 7 (.mv (.t 221))] (some [0,6,7,184,185,186])))))) (.ops false [oi 0 222 (.bin .add (.t 186) (.c (.int .i64 1))),oi 1 186 (.mv (.t 222))] (some
 [0,6,7,184,185,186])))))
def T33_0:AC:=.ops false [oi 0 5 (.box (.t 2))] (some [0,1,5])
def T33_1:AC:=.ops false [oi 0 10 (.mv (.t 0)),oi 1 11 (.nilck (.t 10)),oi 2 12 (.fa 0 (.t 11)),oi 3 13 (.fa 0 (.t 12)),oi 4 14 (.ld1 (.t 13)),oi 5 15 (.mv (.t 1)),oi 6 16 (.ia 12 (.t 14) (.t 15)),oi 7 17 (.ldA 12 (.t 16)),oi 8 6
 (.alloc [.str [],.int .i64 0,.nils,.int .i64 0,.bool false,.int .i64 0,.int .i64 0,.int .i64 0,.int .i64 0,.int .i64 0,.nils,.nils]),ou 9 (.st 12 (.t 6) (.t 17))] (some [0,5,6])
def T33_2:AC:=.seq (.ops false [oi 0 18 (.mv (.t 0)),oi 1 19 (.ldA 12 (.t 6)),oi 2 20 (.ldA 5 (.t 5)),oi 3 21 (.call false 84 [(.t 18),(.t 19),(.t 20)]),oi 4 22 (.un .not (.t 21))] (some [0,5,6,22])) (.cond (.t 22) (.ops false [oi 0 23
 (.mv (.t 0)),oi 1 24 (.nilck (.t 23)),oi 2 25 (.fa 2 (.t 24)),oi 3 26 (.ld1 (.t 25)),oi 4 27 (.call false 20 [(.c (.int .i64 13)),(.t 26)]),oi 5 28 (.mkI 27 (.t 27)),ou 6 .stop] (some [0,5,6])) (.skip))
def T33_3:AC:=.ops false [oi 0 29 (.mv (.t 0)),oi 1 30 (.nilck (.t 29)),oi 2 31 (.fa 2 (.t 30)),oi 3 32 (.ld1 (.t 31)),oi 4 33 (.bin .add (.t 32) (.c (.int .i64 1))),oi 5 34 (.nilck (.t 29)),oi 6 35 (.fa 2 (.t 34)),ou 7 (.st 1 (.t 35)
 (.t 33))] (some [0,5,6])
def T33_4:AC:=.ops false [oi 0 36 (.fa 1 (.t 6)),oi 1 37 (.ld1 (.t 36))] (some [0,5,6,37])
def T33_5:AC:=.block 0 (.seq (.ops false [oi 0 39 (.bin .eql (.t 37) (.c (.int .i64 1))),oi 1 38 (.mv (.t 39))] (some [0,5,6,37,38])) (.cond (.t 38) (.ops true [oi 0 40 (.mv (.t 0)),oi 1 41 (.mv (.t 0)),oi 2 42 (.nilck (.t 41)),oi 3 43
 (.fa 1 (.t 42)),oi 4 44 (.ld1 (.t 43)),oi 5 45 (.fa 2 (.t 6)),oi 6 46 (.ld1 (.t 45)),⟨7,some 47,.app false 1 1 (.t 44) (.t 46),none,[0]⟩,oi 8 48 (.nilck (.t 40)),oi 9 49 (.fa 1 (.t 48)),ou 10 (.st 1 (.t 49) (.t 47))] (some [])) (.seq (.seq
 (.ops false [oi 0 51 (.bin .eql (.t 37) (.c (.int .i64 2))),oi 1 50 (.mv (.t 51))] (some [0,5,6,37,50])) (.cond (.t 50) (.skip) (.ops false [oi 0 52 (.bin .eql (.t 37) (.c (.int .i64 3))),oi 1 50 (.mv (.t 52))] (some [0,5,6,37,50]))))
 (.cond (.t 50) (.ops false [oi 0 53 (.mv (.t 0)),oi 1 54 (.ldA 12 (.t 6)),oi 2 55 (.fa 1 (.t 5)),oi 3 56 (.ld1 (.t 55)),oi 4 57 (.call false 85 [(.t 53),(.t 54),(.t 56)])] (some [])) (.seq (.ops false [oi 0 59 (.bin .eql (.t 37) (.c (.int
 .i64 4))),oi 1 58 (.mv (.t 59))] (some [0,5,6,37,58])) (.cond (.t 58) (.ops true [oi 0 60 (.mv (.t 0)),oi 1 61 (.mv (.t 0)),oi 2 62 (.nilck (.t 61)),oi 3 63 (.fa 1 (.t 62)),oi 4 64 (.ld1 (.t 63)),oi 5 65 (.fa 2 (.t 5)),oi 6 66 (.ld1 (.t
 65)),⟨7,some 67,.app false 1 1 (.t 64) (.t 66),none,[0]⟩,oi 8 68 (.nilck (.t 60)),oi 9 69 (.fa 1 (.t 68)),ou 10 (.st 1 (.t 69) (.t 67))] (some [])) (.seq (.ops false [oi 0 71 (.bin .eql (.t 37) (.c (.int .i64 10))),oi 1 70 (.mv (.t 71))]
 (some [0,5,6,37,70])) (.cond (.t 70) (.seq (.ops true [oi 0 72 (.mv (.t 0)),oi 1 73 (.mv (.t 0)),oi 2 74 (.nilck (.t 73)),oi 3 75 (.fa 0 (.t 74)),oi 4 76 (.fa 0 (.t 75)),oi 5 77 (.ld1 (.t 76)),oi 6 78 (.fa 8 (.t 6)),oi 7 79 (.ld1 (.t
 78)),oi 8 80 (.ia 12 (.t 77) (.t 79)),oi 9 81 (.ldA 12 (.t 80)),oi 10 82 (.fa 2 (.t 5)),oi 11 83 (.ld1 (.t 82)),oi 12 84 (.len false (.t 83)),oi 13 85 (.call false 85 [(.t 72),(.t 81),(.t 84)])] (some [0,5])) (.ops true [oi 0 86 (.mv (.t
 0)),oi 1 87 (.mv (.t 0)),oi 2 88 (.nilck (.t 87)),oi 3 89 (.fa 1 (.t 88)),oi 4 90 (.ld1 (.t 89)),oi 5 91 (.fa 2 (.t 5)),oi 6 92 (.ld1 (.t 91)),⟨7,some 93,.app false 1 1 (.t 90) (.t 92),none,[0]⟩,oi 8 94 (.nilck (.t 86)),oi 9 95 (.fa 1 (.t
 94)),ou 10 (.st 1 (.t 95) (.t 93))] (some []))) (.seq (.ops false [oi 0 97 (.bin .eql (.t 37) (.c (.int .i64 5))),oi 1 96 (.mv (.t 97))] (some [0,5,6,37,96])) (.cond (.t 96) (.ops true [oi 0 98 (.mv (.t 0)),oi 1 99 (.mv (.t 0)),oi 2 100
 (.nilck (.t 99)),oi 3 101 (.fa 1 (.t 100)),oi 4 102 (.ld1 (.t 101)),oi 5 103 (.fa 2 (.t 5)),oi 6 104 (.ld1 (.t 103)),⟨7,some 105,.app false 1 1 (.t 102) (.t 104),none,[0]⟩,⟨8,some 106,.fa 7 (.t 6),none,[7]⟩,⟨9,some 107,.ld1 (.t
 106),none,[7]⟩,⟨10,some 108,.cvi .u8 (.t 107),none,[7]⟩,⟨11,some 109,.mkS 1 [.int .u8 0] [(0,1,(.t 108))],none,[7]⟩,⟨12,some 110,.app false 1 1 (.t 105) (.t 109),none,[0]⟩,oi 13 111 (.nilck (.t 98)),oi 14 112 (.fa 1 (.t 111)),ou 15 (.st 1
 (.t 112) (.t 110))] (some [])) (.seq (.ops false [oi 0 114 (.bin .eql (.t 37) (.c (.int .i64 6))),oi 1 113 (.mv (.t 114))] (some [0,5,6,37,113])) (.cond (.t 113) (.seq (.ops true [oi 0 115 (.mv (.t 0)),oi 1 116 (.mv (.t 0)),oi 2 117 (.nilck
 (.t 116)),oi 3 118 (.fa 0 (.t 117)),oi 4 119 (.fa 0 (.t 118)),oi 5 120 (.ld1 (.t 119)),oi 6 121 (.fa 8 (.t 6)),oi 7 122 (.ld1 (.t 121)),oi 8 123 (.ia 12 (.t 120) (.t 122)),oi 9 124 (.ldA 12 (.t 123)),oi 10 125 (.fa 4 (.t 5)),oi 11 126 (.ld1
 (.t 125)),oi 12 127 (.len false (.t 126)),oi 13 128 (.call false 85 [(.t 115),(.t 124),(.t 127)])] (some [0,5,6])) (.ops false [oi 0 129 (.mv (.t 0)),oi 1 130 (.fa 9 (.t 6)),oi 2 131 (.ld1 (.t 130)),oi 3 132 (.fa 4 (.t 5)),oi 4 133 (.ld1
 (.t 132)),oi 5 134 (.call false 86 [(.t 129),(.t 131),(.t 133)])] (some []))) (.seq (.ops false [oi 0 136 (.bin .eql (.t 37) (.c (.int .i64 9))),oi 1 135 (.mv (.t 136))] (some [0,5,6,37,135])) (.cond (.t 135) (.seq (.ops false [oi 0 137
 (.mv (.t 0)),oi 1 138 (.fa 9 (.t 6)),oi 2 139 (.ld1 (.t 138)),oi 3 140 (.fa 4 (.t 5)),oi 4 141 (.ld1 (.t 140)),oi 5 142 (.call false 86 [(.t 137),(.t 139),(.t 141)])] (some [0,6])) (.ops true [oi 0 143 (.mv (.t 0)),oi 1 144 (.mv (.t 0)),oi
 2 145 (.nilck (.t 144)),oi 3 146 (.fa 1 (.t 145)),oi 4 147 (.ld1 (.t 146)),oi 5 148 (.fa 7 (.t 6)),oi 6 149 (.ld1 (.t 148)),oi 7 150 (.cvi .u8 (.t 149)),oi 8 151 (.mkS 1 [.int .u8 0] [(0,1,(.t 150))]),⟨9,some 152,.app false 1 1 (.t 147) (.t
 151),none,[0]⟩,oi 10 153 (.nilck (.t 143)),oi 11 154 (.fa 1 (.t 153)),ou 12 (.st 1 (.t 154) (.t 152))] (some []))) (.seq (.ops false [oi 0 156 (.bin .eql (.t 37) (.c (.int .i64 8))),oi 1 155 (.mv (.t 156))] (some [0,5,6,37,155])) (.cond (.t
 155) (.seq (.ops false [oi 0 157 (.mv (.t 0)),oi 1 158 (.nilck (.t 157)),oi 2 159 (.fa 2 (.t 158)),oi 3 160 (.ld1 (.t 159)),oi 4 161 (.bin .add (.t 160) (.c (.int .i64 1))),oi 5 162 (.nilck (.t 157)),oi 6 163 (.fa 2 (.t 162)),ou 7 (.st 1
 (.t 163) (.t 161))] (some [0,5,6])) (.ops true [oi 0 164 (.mv (.t 0)),oi 1 165 (.fa 11 (.t 6)),oi 2 166 (.ld1 (.t 165)),oi 3 167 (.fa 4 (.t 5)),oi 4 168 (.ld1 (.t 167)),oi 5 169 (.ia 5 (.t 168) (.c (.int .i64 0))),oi 6 170 (.fa 1 (.t
 169)),oi 7 171 (.ld1 (.t 170)),oi 8 172 (.ia 1 (.t 166) (.t 171)),oi 9 173 (.ld1 (.t 172)),oi 10 174 (.fa 4 (.t 5)),oi 11 175 (.ld1 (.t 174)),oi 12 176 (.ia 5 (.t 175) (.c (.int .i64 1))),oi 13 177 (.ldA 5 (.t 176)),oi 14 178 (.call false
 33 [(.t 164),(.t 173),(.t 177)])] (some []))) (.seq (.ops false [oi 0 180 (.bin .eql (.t 37) (.c (.int .i64 7))),oi 1 179 (.mv (.t 180))] (some [0,5,6,179])) (.cond (.t 179) (.seq (.ops false [oi 0 181 (.fa 4 (.t 5)),oi 1 182 (.ld1 (.t
 181)),oi 2 7 (.mv (.t 182))] (some [0,6,7])) (.seq (.ops false [oi 0 183 (.fa 11 (.t 6)),oi 1 184 (.ld1 (.t 183)),oi 2 185 (.len false (.t 184)),oi 3 186 (.mv (.c (.int .i64 0)))] (some [0,6,7,184,185,186])) (.block 1 (.loop L33_1))))
 (.skip)))))))))))))))))))
def code33:AC:=.seq T33_0 (.seq T33_1 (.seq T33_2 (.seq T33_3 (.seq T33_4 T33_5))))
def T84_0:AC:=.ops false [oi 0 3 (.box (.t 0)),oi 1 4 (.box (.t 1)),oi 2 5 (.box (.t 2)),oi 3 6 (.mv (.c (.bool false)))] (some [3,4,5])
def T84_1:AC:=.ops false [oi 0 9 (.mkF 119 [] [(.t 3),(.t 4)]),oi 1 7 (.mv (.t 9))] (some [4,5,7])
def T84_2:AC:=.seq (.ops false [oi 0 10 (.fa 1 (.t 4)),oi 1 11 (.ld1 (.t 10))] (some [4,5,7,11])) (.block 0 (.seq (.ops false [oi 0 13 (.bin .eql (.t 11) (.c (.int .i64 1))),oi 1 12 (.mv (.t 13))] (some [4,5,7,11,12])) (.cond (.t 12)
 (.seq (.ops false [oi 0 14 (.fa 0 (.t 5)),oi 1 15 (.ld1 (.t 14)),oi 2 16 (.bin .eql (.t 15) (.c (.int .i64 3))),oi 3 17 (.mv (.t 16)),⟨4,some 18,.fa 4 (.t 5),(some (some 17,true)),[]⟩,⟨5,some 19,.ld1 (.t 18),(some (some
 17,true)),[]⟩,⟨6,some 20,.len false (.t 19),(some (some 17,true)),[]⟩,⟨7,some 21,.bin .eql (.t 20) (.c (.int .i64 0)),(some (some 17,true)),[]⟩,oi 8 22 (.pick (.t 17) (.t 21) (.c (.bool false))),oi 9 6 (.mv (.t 22))] (some [6])) (.ret))
 (.seq (.seq (.ops false [oi 0 24 (.bin .eql (.t 11) (.c (.int .i64 2))),oi 1 23 (.mv (.t 24))] (some [4,5,7,11,23])) (.cond (.t 23) (.skip) (.ops false [oi 0 25 (.bin .eql (.t 11) (.c (.int .i64 3))),oi 1 23 (.mv (.t 25))] (some
 [4,5,7,11,23])))) (.cond (.t 23) (.seq (.ops false [oi 0 26 (.fa 0 (.t 5)),oi 1 27 (.ld1 (.t 26)),oi 2 28 (.bin .eql (.t 27) (.c (.int .i64 1))),oi 3 29 (.mv (.t 28)),⟨4,some 30,.ldA 12 (.t 4),(some (some 29,true)),[]⟩,⟨5,some 31,.fa 1 (.t
 5),(some (some 29,true)),[]⟩,⟨6,some 32,.ld1 (.t 31),(some (some 29,true)),[]⟩,⟨7,some 33,.call false 120 [(.t 30),(.t 32)],(some (some 29,true)),[]⟩,oi 8 34 (.pick (.t 29) (.t 33) (.c (.bool false))),oi 9 6 (.mv (.t 34))] (some [6]))
 (.ret)) (.seq (.ops false [oi 0 36 (.bin .eql (.t 11) (.c (.int .i64 4))),oi 1 35 (.mv (.t 36))] (some [4,5,7,11,35])) (.cond (.t 35) (.seq (.ops false [oi 0 37 (.fa 0 (.t 5)),oi 1 38 (.ld1 (.t 37)),oi 2 39 (.bin .eql (.t 38) (.c (.int .i64
 2))),oi 3 40 (.mv (.t 39)),⟨4,some 41,.fa 2 (.t 5),(some (some 40,true)),[]⟩,⟨5,some 42,.ld1 (.t 41),(some (some 40,true)),[]⟩,⟨6,some 43,.len false (.t 42),(some (some 40,true)),[]⟩,⟨7,some 44,.fa 3 (.t 4),(some (some 40,true)),[]⟩,⟨8,some
 45,.ld1 (.t 44),(some (some 40,true)),[]⟩,⟨9,some 46,.bin .eql (.t 43) (.t 45),(some (some 40,true)),[]⟩,oi 10 47 (.pick (.t 40) (.t 46) (.c (.bool false))),oi 11 6 (.mv (.t 47))] (some [6])) (.ret)) (.seq (.ops false [oi 0 49 (.bin .eql
 (.t 11) (.c (.int .i64 10))),oi 1 48 (.mv (.t 49))] (some [4,5,7,11,48])) (.cond (.t 48) (.seq (.ops false [oi 0 50 (.fa 0 (.t 5)),oi 1 51 (.ld1 (.t 50)),oi 2 52 (.bin .eql (.t 51) (.c (.int .i64 2))),oi 3 53 (.mv (.t 52)),⟨4,some 54,.mv
 (.t 7),(some (some 53,true)),[]⟩,⟨5,some 55,.fa 2 (.t 5),(some (some 53,true)),[]⟩,⟨6,some 56,.ld1 (.t 55),(some (some 53,true)),[]⟩,⟨7,some 57,.len false (.t 56),(some (some 53,true)),[]⟩,⟨8,some 58,.dyn (.t 54) [(.t 57)],(some (some
 53,true)),[]⟩,oi 9 59 (.pick (.t 53) (.t 58) (.c (.bool false))),oi 10 6 (.mv (.t 59))] (some [6])) (.ret)) (.seq (.ops false [oi 0 61 (.bin .eql (.t 11) (.c (.int .i64 5))),oi 1 60 (.mv (.t 61))] (some [4,5,7,11,60])) (.cond (.t 60) (.seq
 (.ops false [oi 0 62 (.fa 0 (.t 5)),oi 1 63 (.ld1 (.t 62)),oi 2 64 (.bin .eql (.t 63) (.c (.int .i64 2))),oi 3 65 (.mv (.t 64)),⟨4,some 66,.fa 2 (.t 5),(some (some 65,true)),[]⟩,⟨5,some 67,.ld1 (.t 66),(some (some 65,true)),[]⟩,⟨6,some
 68,.len false (.t 67),(some (some 65,true)),[]⟩,⟨7,some 69,.fa 3 (.t 4),(some (some 65,true)),[]⟩,⟨8,some 70,.ld1 (.t 69),(some (some 65,true)),[]⟩,⟨9,some 71,.bin .leq (.t 68) (.t 70),(some (some 65,true)),[]⟩,oi 10 72 (.pick (.t 65) (.t
 71) (.c (.bool false))),oi 11 73 (.mv (.t 72)),⟨12,some 74,.fa 2 (.t 5),(some (some 73,true)),[]⟩,⟨13,some 75,.ld1 (.t 74),(some (some 73,true)),[]⟩,⟨14,some 76,.fa 7 (.t 4),(some (some 73,true)),[]⟩,⟨15,some 77,.ld1 (.t 76),(some (some
 73,true)),[]⟩,⟨16,some 78,.cvi .u8 (.t 77),(some (some 73,true)),[]⟩,⟨17,some 79,.call false 121 [(.t 75),(.t 78)],(some (some 73,true)),[]⟩,⟨18,some 80,.un .not (.t 79),(some (some 73,true)),[]⟩,oi 19 81 (.pick (.t 73) (.t 80) (.c (.bool
 false))),oi 20 6 (.mv (.t 81))] (some [6])) (.ret)) (.seq (.ops false [oi 0 83 (.bin .eql (.t 11) (.c (.int .i64 6))),oi 1 82 (.mv (.t 83))] (some [4,5,7,11,82])) (.cond (.t 82) (.seq (.ops false [oi 0 84 (.fa 0 (.t 5)),oi 1 85 (.ld1 (.t
 84)),oi 2 86 (.bin .eql (.t 85) (.c (.int .i64 3))),oi 3 87 (.mv (.t 86)),⟨4,some 88,.mv (.t 7),(some (some 87,true)),[]⟩,⟨5,some 89,.fa 4 (.t 5),(some (some 87,true)),[]⟩,⟨6,some 90,.ld1 (.t 89),(some (some 87,true)),[]⟩,⟨7,some 91,.len
 false (.t 90),(some (some 87,true)),[]⟩,⟨8,some 92,.dyn (.t 88) [(.t 91)],(some (some 87,true)),[]⟩,oi 9 93 (.pick (.t 87) (.t 92) (.c (.bool false))),oi 10 6 (.mv (.t 93))] (some [6])) (.ret)) (.seq (.ops false [oi 0 95 (.bin .eql (.t 11)
 (.c (.int .i64 9))),oi 1 94 (.mv (.t 95))] (some [4,5,11,94])) (.cond (.t 94) (.seq (.ops false [oi 0 96 (.fa 0 (.t 5)),oi 1 97 (.ld1 (.t 96)),oi 2 98 (.bin .eql (.t 97) (.c (.int .i64 3))),oi 3 6 (.mv (.t 98))] (some [6])) (.ret)) (.seq
 (.ops false [oi 0 100 (.bin .eql (.t 11) (.c (.int .i64 8))),oi 1 99 (.mv (.t 100))] (some [4,5,99])) (.cond (.t 99) (.seq (.ops true [oi 0 101 (.fa 0 (.t 5)),oi 1 102 (.ld1 (.t 101)),oi 2 103 (.bin .eql (.t 102) (.c (.int .i64 3))),oi 3
 104 (.mv (.t 103)),⟨4,some 105,.fa 4 (.t 5),(some (some 104,true)),[]⟩,⟨5,some 106,.ld1 (.t 105),(some (some 104,true)),[]⟩,⟨6,some 107,.len false (.t 106),(some (some 104,true)),[]⟩,⟨7,some 108,.bin .eql (.t 107) (.c (.int .i64 2)),(some
 (some 104,true)),[]⟩,oi 8 109 (.pick (.t 104) (.t 108) (.c (.bool false))),oi 9 110 (.mv (.t 109)),⟨10,some 111,.fa 4 (.t 5),(some (some 110,true)),[]⟩,⟨11,some 112,.ld1 (.t 111),(some (some 110,true)),[]⟩,⟨12,some 113,.ia 5 (.t 112) (.c
 (.int .i64 0)),(some (some 110,true)),[]⟩,⟨13,some 114,.fa 0 (.t 113),(some (some 110,true)),[]⟩,⟨14,some 115,.ld1 (.t 114),(some (some 110,true)),[]⟩,⟨15,some 116,.bin .eql (.t 115) (.c (.int .i64 1)),(some (some 110,true)),[]⟩,oi 16 117
 (.pick (.t 110) (.t 116) (.c (.bool false))),oi 17 118 (.mv (.t 117)),⟨18,some 119,.fa 4 (.t 5),(some (some 118,true)),[]⟩,⟨19,some 120,.ld1 (.t 119),(some (some 118,true)),[]⟩,⟨20,some 121,.ia 5 (.t 120) (.c (.int .i64 0)),(some (some
 118,true)),[]⟩,⟨21,some 122,.fa 1 (.t 121),(some (some 118,true)),[]⟩,⟨22,some 123,.ld1 (.t 122),(some (some 118,true)),[]⟩,⟨23,some 124,.bin .geq (.t 123) (.c (.int .i64 0)),(some (some 118,true)),[]⟩,oi 24 125 (.pick (.t 118) (.t 124) (.c
 (.bool false))),oi 25 126 (.mv (.t 125)),⟨26,some 127,.fa 4 (.t 5),(some (some 126,true)),[]⟩,⟨27,some 128,.ld1 (.t 127),(some (some 126,true)),[]⟩,⟨28,some 129,.ia 5 (.t 128) (.c (.int .i64 0)),(some (some 126,true)),[]⟩,⟨29,some 130,.fa 1
 (.t 129),(some (some 126,true)),[]⟩,⟨30,some 131,.ld1 (.t 130),(some (some 126,true)),[]⟩,⟨31,some 132,.fa 11 (.t 4),(some (some 126,true)),[]⟩,⟨32,some 133,.ld1 (.t 132),(some (some 126,true)),[]⟩,⟨33,some 134,.len false (.t 133),(some
 (some 126,true)),[]⟩,⟨34,some 135,.bin .lss (.t 131) (.t 134),(some (some 126,true)),[]⟩,oi 35 136 (.pick (.t 126) (.t 135) (.c (.bool false))),oi 36 6 (.mv (.t 136))] (some [6])) (.ret)) (.skip))))))))))))))))))
def T84_3:AC:=.ops false [oi 0 137 (.fa 10 (.t 4)),oi 1 138 (.ld1 (.t 137)),oi 2 139 (.call false 73 [(.t 138)]),oi 3 140 (.call false 122 [(.t 139),(.c (.fn 123 [] []))]),oi 4 8 (.mv (.t 140))] (some [5,8])
def T84_4:AC:=.ops false [oi 0 141 (.fa 0 (.t 5)),oi 1 142 (.ld1 (.t 141)),oi 2 143 (.bin .eql (.t 142) (.c (.int .i64 4))),oi 3 144 (.mv (.t 143)),⟨4,some 145,.fa 3 (.t 5),(some (some 144,true)),[]⟩,⟨5,some 146,.ld1 (.t 145),(some
 (some 144,true)),[]⟩,⟨6,some 147,.mv (.t 8),(some (some 144,true)),[]⟩,⟨7,some 148,.call false 124 [(.t 146),(.t 147)],(some (some 144,true)),[]⟩,oi 8 149 (.pick (.t 144) (.t 148) (.c (.bool false))),oi 9 6 (.mv (.t 149))] (some [6])
def T84_5:AC:=.ret
def code84:AC:=.seq T84_0 (.seq T84_1 (.seq T84_2 (.seq T84_3 (.seq T84_4 T84_5))))
def L85_0:AC:=(.seq (.ops false [oi 0 29 (.bin .lss (.t 28) (.t 27))] (some [0,2,4,27,28,29])) (.seq (.cond (.t 29) (.skip) (.exit 0)) (.seq (.block 1 (.seq (.ops false [oi 0 30 (.mv (.t 28)),oi 1 6 (.mv (.t 30))] (some
 [0,2,4,6,27,28])) (.seq (.ops false [oi 0 31 (.mv (.t 6)),oi 1 32 (.bin .mul (.c (.int .i64 8)) (.t 31)),oi 2 7 (.mv (.t 32))] (some [0,2,4,6,7,27,28])) (.seq (.seq (.ops false [oi 0 33 (.fa 4 (.t 4)),oi 1 34 (.ld1 (.t 33))] (some
 [0,2,4,6,7,27,28,34])) (.cond (.t 34) (.ops false [oi 0 35 (.fa 3 (.t 4)),oi 1 36 (.ld1 (.t 35)),oi 2 37 (.bin .sub (.t 36) (.c (.int .i64 1))),oi 3 38 (.mv (.t 6)),oi 4 39 (.bin .sub (.t 37) (.t 38)),oi 5 40 (.bin .mul (.c (.int .i64 8))
 (.t 39)),oi 6 7 (.mv (.t 40))] (some [0,2,4,7,27,28])) (.skip))) (.ops true [oi 0 41 (.mv (.t 0)),oi 1 42 (.mv (.t 0)),oi 2 43 (.nilck (.t 42)),oi 3 44 (.fa 1 (.t 43)),oi 4 45 (.ld1 (.t 44)),oi 5 46 (.mv (.t 2)),oi 6 47 (.mv (.t 7)),oi 7 48
 (.bin .shr (.t 46) (.t 47)),oi 8 49 (.cvi .u8 (.t 48)),oi 9 50 (.mkS 1 [.int .u8 0] [(0,1,(.t 49))]),⟨10,some 51,.app false 1 1 (.t 45) (.t 50),none,[0]⟩,oi 11 52 (.nilck (.t 41)),oi 12 53 (.fa 1 (.t 52)),ou 13 (.st 1 (.t 53) (.t 51))]
 (some [0,2,4,27,28])))))) (.ops false [oi 0 54 (.bin .add (.t 28) (.c (.int .i64 1))),oi 1 28 (.mv (.t 54))] (some [0,2,4,27,28])))))
def code85:AC:=.seq (.ops false [oi 0 4 (.box (.t 1))] (some [0,2,4])) (.seq (.seq (.ops false [oi 0 8 (.fa 1 (.t 4)),oi 1 9 (.ld1 (.t 8)),oi 2 10 (.bin .eql (.t 9) (.c (.int .i64 3)))] (some [0,2,4,10])) (.cond (.t 10) (.seq (.ops true
 [oi 0 11 (.mv (.t 0)),oi 1 12 (.mv (.t 0)),oi 2 13 (.nilck (.t 12)),oi 3 14 (.fa 1 (.t 13)),oi 4 15 (.ld1 (.t 14)),oi 5 16 (.mv (.t 2)),⟨6,some 17,.call false 107 [(.t 16)],none,[4,3,2,1,0]⟩,⟨7,some 18,.app false 1 1 (.t 15) (.t
 17),none,[0]⟩,⟨8,some 19,.fa 7 (.t 4),none,[7,6]⟩,⟨9,some 20,.ld1 (.t 19),none,[7,6]⟩,⟨10,some 21,.cvi .u8 (.t 20),none,[7,6]⟩,⟨11,some 22,.mkS 1 [.int .u8 0] [(0,1,(.t 21))],none,[7,6]⟩,⟨12,some 23,.app false 1 1 (.t 18) (.t
 22),none,[0]⟩,oi 13 24 (.nilck (.t 11)),oi 14 25 (.fa 1 (.t 24)),ou 15 (.st 1 (.t 25) (.t 23))] (some [])) (.ret)) (.skip))) (.seq (.ops false [oi 0 26 (.fa 3 (.t 4)),oi 1 27 (.ld1 (.t 26)),oi 2 28 (.mv (.c (.int .i64 0)))] (some
 [0,2,4,27,28])) (.block 0 (.loop L85_0))))
def L86_0:AC:=(.seq (.ops false [oi 0 11 (.bin .lss (.t 10) (.t 9))] (some [0,1,8,9,10,11])) (.seq (.cond (.t 11) (.skip) (.exit 0)) (.seq (.block 1 (.seq (.ops false [oi 0 12 (.ia 5 (.t 8) (.t 10)),oi 1 13 (.ldA 5 (.t 12)),oi 2 7
 (.alloc [.int .i64 0,.int .i64 0,.nils,.nils,.nils]),ou 3 (.st 5 (.t 7) (.t 13))] (some [0,1,7,8,9,10])) (.ops false [oi 0 14 (.mv (.t 0)),oi 1 15 (.mv (.t 1)),oi 2 16 (.ldA 5 (.t 7)),oi 3 17 (.call false 33 [(.t 14),(.t 15),(.t 16)])]
 (some [0,1,8,9,10])))) (.ops false [oi 0 18 (.bin .add (.t 10) (.c (.int .i64 1))),oi 1 10 (.mv (.t 18))] (some [0,1,8,9,10])))))
def code86:AC:=.seq (.ops false [oi 0 8 (.mv (.t 2)),oi 1 9 (.len false (.t 8)),oi 2 10 (.mv (.c (.int .i64 0)))] (some [0,1,8,9,10])) (.block 0 (.loop L86_0))
def code119:AC:=.seq (.ops false [oi 0 4 (.mv (.c (.bool false)))] (some [0,1,2])) (.seq (.ops true [oi 0 5 (.ld1 (.t 1)),oi 1 6 (.nilck (.t 5)),oi 2 7 (.fa 0 (.t 6)),oi 3 8 (.fa 0 (.t 7)),oi 4 9 (.ld1 (.t 8)),oi 5 10 (.fa 8 (.t 2)),oi
 6 11 (.ld1 (.t 10)),oi 7 12 (.ia 12 (.t 9) (.t 11)),oi 8 13 (.ldA 12 (.t 12)),oi 9 14 (.mv (.t 0)),oi 10 15 (.call false 120 [(.t 13),(.t 14)]),oi 11 4 (.mv (.t 15))] (some [4])) (.ret))
def code120:AC:=.seq (.ops false [oi 0 2 (.box (.t 0)),oi 1 4 (.mv (.c (.bool false)))] (some [1,2])) (.seq (.ops false [oi 0 5 (.mv (.t 1)),oi 1 6 (.fa 5 (.t 2)),oi 2 7 (.ld1 (.t 6)),oi 3 8 (.bin .geq (.t 5) (.t 7)),oi 4 9 (.mv (.t
 8)),⟨5,some 10,.mv (.t 1),(some (some 9,true)),[]⟩,⟨6,some 11,.fa 6 (.t 2),(some (some 9,true)),[]⟩,⟨7,some 12,.ld1 (.t 11),(some (some 9,true)),[]⟩,⟨8,some 13,.bin .leq (.t 10) (.t 12),(some (some 9,true)),[]⟩,oi 9 14 (.pick (.t 9) (.t 13)
 (.c (.bool false))),oi 10 4 (.mv (.t 14))] (some [4])) (.ret))
def L122_0:AC:=(.seq (.seq (.ops false [oi 0 16 (.mv (.t 6)),oi 1 17 (.mv (.t 0)),oi 2 18 (.len false (.t 17)),oi 3 19 (.bin .lss (.t 16) (.t 18))] (some [0,1,5,6,19])) (.cond (.t 19) (.skip) (.exit 0))) (.seq (.block 1 (.seq (.ops
 false [oi 0 22 (.mv (.t 0)),oi 1 23 (.mv (.t 6)),oi 2 24 (.ia 1 (.t 22) (.t 23)),oi 3 25 (.ld1 (.t 24)),oi 4 7 (.mv (.t 25))] (some [0,1,5,6,7])) (.seq (.ops false [oi 0 26 (.mv (.t 1)),oi 1 27 (.mv (.t 7)),oi 2 28 (.dyn (.t 26) [(.t
 27)]),oi 3 29 (.un .not (.t 28))] (some [0,1,5,6,7,29])) (.cond (.t 29) (.seq (.ops false [oi 0 30 (.mv (.t 0)),oi 1 31 (.mv (.t 5)),oi 2 32 (.mv (.t 7)),oi 3 33 (.ia 1 (.t 30) (.t 31)),ou 4 (.st 1 (.t 33) (.t 32))] (some [0,1,5,6])) (.ops
 false [oi 0 34 (.mv (.t 5)),oi 1 35 (.bin .add (.t 34) (.c (.int .i64 1))),oi 2 5 (.mv (.t 35))] (some [0,1,5,6]))) (.skip))))) (.ops false [oi 0 20 (.mv (.t 6)),oi 1 21 (.bin .add (.t 20) (.c (.int .i64 1))),oi 2 6 (.mv (.t 21))] (some
 [0,1,5,6]))))
def code122:AC:=.seq (.ops false [oi 0 4 (.mv (.c .nils))] (some [0,1])) (.seq (.ops false [oi 0 8 (.mv (.t 0)),oi 1 9 (.mv (.t 1)),oi 2 10 (.call false 160 [(.t 8),(.t 9)]),oi 3 5 (.mv (.t 10))] (some [0,1,5])) (.seq (.seq (.ops false
 [oi 0 11 (.mv (.t 5)),oi 1 12 (.bin .eql (.t 11) (.c (.int .i64 (-1))))] (some [0,1,5,12])) (.cond (.t 12) (.seq (.ops false [oi 0 13 (.mv (.t 0)),oi 1 4 (.mv (.t 13))] (some [4])) (.ret)) (.skip))) (.seq (.seq (.ops false [oi 0 14 (.mv (.t
 5)),oi 1 15 (.bin .add (.t 14) (.c (.int .i64 1))),oi 2 6 (.mv (.t 15))] (some [0,1,5,6])) (.block 0 (.loop L122_0))) (.seq (.ops false [oi 0 36 (.mv (.t 0)),oi 1 37 (.mv (.t 5)),oi 2 38 (.slc 1 (.t 36) (some (.t 37)) none none),ou 3 (.clr
 1 [.str []] (.t 38))] (some [0,5])) (.seq (.ops false [oi 0 39 (.mv (.t 0)),oi 1 40 (.mv (.t 5)),oi 2 41 (.slc 1 (.t 39) none (some (.t 40)) none),oi 3 4 (.mv (.t 41))] (some [4])) (.ret))))))
def code123:AC:=.seq (.ops false [oi 0 2 (.mv (.c (.bool false)))] (some [0])) (.seq (.ops false [oi 0 3 (.mv (.t 0)),oi 1 4 (.bin .eql (.t 3) (.c (.str []))),oi 2 2 (.mv (.t 4))] (some [2])) (.ret))
def L124_0:AC:=(.seq (.ops false [oi 0 14 (.bin .lss (.t 13) (.t 12))] (some [0,1,12,13,14])) (.seq (.cond (.t 14) (.skip) (.exit 0)) (.seq (.block 1 (.seq (.ops false [oi 0 15 (.mv (.t 13)),oi 1 5 (.mv (.t 15))] (some [0,1,5,12,13]))
 (.seq (.ops true [oi 0 16 (.mv (.t 0)),oi 1 17 (.mv (.t 5)),oi 2 18 (.ia 1 (.t 16) (.t 17)),oi 3 19 (.ld1 (.t 18)),oi 4 20 (.mv (.t 1)),oi 5 21 (.mv (.t 5)),oi 6 22 (.ia 1 (.t 20) (.t 21)),oi 7 23 (.ld1 (.t 22)),oi 8 24 (.bin .neq (.t 19)
 (.t 23))] (some [0,1,12,13,24])) (.cond (.t 24) (.seq (.ops false [oi 0 4 (.mv (.c (.bool false)))] (some [4])) (.ret)) (.skip))))) (.ops false [oi 0 25 (.bin .add (.t 13) (.c (.int .i64 1))),oi 1 13 (.mv (.t 25))] (some [0,1,12,13])))))
def code124:AC:=.seq (.ops false [oi 0 4 (.mv (.c (.bool false)))] (some [0,1])) (.seq (.seq (.ops false [oi 0 6 (.mv (.t 0)),oi 1 7 (.len false (.t 6)),oi 2 8 (.mv (.t 1)),oi 3 9 (.len false (.t 8)),oi 4 10 (.bin .neq (.t 7) (.t 9))]
 (some [0,1,10])) (.cond (.t 10) (.seq (.ops false [oi 0 4 (.mv (.c (.bool false)))] (some [4])) (.ret)) (.skip))) (.seq (.seq (.ops false [oi 0 11 (.mv (.t 0)),oi 1 12 (.len false (.t 11)),oi 2 13 (.mv (.c (.int .i64 0)))] (some
 [0,1,12,13])) (.block 0 (.loop L124_0))) (.seq (.ops false [oi 0 4 (.mv (.c (.bool true)))] (some [4])) (.ret))))
def code73:AC:=.seq (.ops false [oi 0 2 (.mv (.c .nils))] (some [0])) (.seq (.seq (.ops false [oi 0 3 (.mv (.t 0)),oi 1 4 (.isnil false 0 (.t 3))] (some [0,4])) (.cond (.t 4) (.seq (.ops false [oi 0 2 (.mv (.c .nils))] (some [2]))
 (.ret)) (.skip))) (.seq (.ops false [oi 0 5 (.mkS 0 [] []),oi 1 6 (.mv (.t 0)),oi 2 7 (.app true 1 16 (.t 5) (.t 6)),oi 3 2 (.mv (.t 7))] (some [2])) (.ret)))
def L27_0:AC:=(.seq (.ops false [oi 0 21 (.bin .lss (.t 20) (.t 19))] (some [2,3,18,19,20,21])) (.seq (.cond (.t 21) (.skip) (.exit 0)) (.seq (.block 1 (.seq (.ops false [oi 0 22 (.ia 5 (.t 18) (.t 20)),oi 1 23 (.ldA 5 (.t 22)),oi 2 5
 (.alloc [.int .i64 0,.int .i64 0,.nils,.nils,.nils]),ou 3 (.st 5 (.t 5) (.t 23))] (some [2,3,5,18,19,20])) (.ops true [oi 0 24 (.fa 4 (.t 3)),oi 1 25 (.ld1 (.t 24)),oi 2 26 (.ldA 5 (.t 5)),⟨3,some 27,.call false 27 [(.t 26)],none,[1,0]⟩,oi
 4 28 (.mkS 1 [.int .i64 0,.int .i64 0,.nils,.nils,.nils] [(0,5,(.t 27))]),oi 5 29 (.app false 5 88 (.t 25) (.t 28)),oi 6 30 (.fa 4 (.t 3)),ou 7 (.st 1 (.t 30) (.t 29))] (some [2,3,18,19,20])))) (.ops false [oi 0 31 (.bin .add (.t 20) (.c
 (.int .i64 1))),oi 1 20 (.mv (.t 31))] (some [2,3,18,19,20])))))
def code27:AC:=.seq (.ops false [oi 0 1 (.box (.t 0)),oi 1 2 (.alloc [.int .i64 0,.int .i64 0,.nils,.nils,.nils])] (some [1,2])) (.seq (.ops true [oi 11 3 (.alloc [.int .i64 0,.int .i64 0,.nils,.nils,.nils]),⟨0,some 6,.fa 0 (.t
 1),none,[11]⟩,⟨1,some 7,.ld1 (.t 6),none,[11]⟩,⟨2,some 8,.fa 1 (.t 1),none,[11]⟩,⟨3,some 9,.ld1 (.t 8),none,[11]⟩,⟨4,some 10,.fa 2 (.t 1),none,[11]⟩,⟨5,some 11,.ld1 (.t 10),none,[11]⟩,⟨6,some 12,.call false 72 [(.t
 11)],none,[3,2,1,0,11]⟩,⟨7,some 13,.fa 3 (.t 1),none,[6,11]⟩,⟨8,some 14,.ld1 (.t 13),none,[6,11]⟩,⟨9,some 15,.call false 73 [(.t 14)],none,[3,2,1,0,11]⟩,⟨10,some 16,.build [.int .i64 0,.int .i64 0,.nils,.nils,.nils] [(0,1,(.t 7)),(1,1,(.t
 9)),(2,1,(.t 12)),(3,1,(.t 15))],none,[11]⟩,ou 12 (.st 5 (.t 3) (.t 16))] (some [1,2,3])) (.seq (.seq (.ops false [oi 0 17 (.fa 4 (.t 1)),oi 1 18 (.ld1 (.t 17)),oi 2 19 (.len false (.t 18)),oi 3 20 (.mv (.c (.int .i64 0)))] (some
 [2,3,18,19,20])) (.block 0 (.loop L27_0))) (.seq (.ops false [oi 0 32 (.ldA 5 (.t 3)),ou 1 (.st 5 (.t 2) (.t 32))] (some [2])) (.ret))))
def L26_0:AC:=(.seq (.ops false [oi 0 11 (.bin .lss (.t 10) (.t 9))] (some [0,5,8,9,10,11])) (.seq (.cond (.t 11) (.skip) (.exit 0)) (.seq (.block 1 (.seq (.ops false [oi 0 12 (.mv (.t 10)),oi 1 13 (.ia 1 (.t 8) (.t 10)),oi 2 14 (.ld1
 (.t 13)),oi 3 6 (.mv (.t 12)),oi 4 7 (.mv (.t 14))] (some [0,5,6,7,8,9,10])) (.seq (.seq (.ops false [oi 0 15 (.mv (.t 7)),oi 1 16 (.bin .lss (.t 15) (.c (.int .i64 0))),oi 2 17 (.mv (.t 16)),⟨3,some 18,.mv (.t 7),(some (some
 17,false)),[]⟩,⟨4,some 19,.mv (.t 0),(some (some 17,false)),[]⟩,⟨5,some 20,.nilck (.t 19),(some (some 17,false)),[]⟩,⟨6,some 21,.fa 4 (.t 20),(some (some 17,false)),[]⟩,⟨7,some 22,.ld1 (.t 21),(some (some 17,false)),[]⟩,⟨8,some 23,.len
 false (.t 22),(some (some 17,false)),[]⟩,⟨9,some 24,.bin .geq (.t 18) (.t 23),(some (some 17,false)),[]⟩,oi 10 25 (.pick (.t 17) (.c (.bool true)) (.t 24))] (some [0,5,6,7,8,9,10,25])) (.cond (.t 25) (.seq (.ops false [oi 0 26 (.mv (.t
 6)),oi 1 27 (.call false 35 [(.c (.int .i64 12)),(.t 26)]),oi 2 4 (.mv (.c .nilp)),ou 3 (.st 2 (.t 5) (.t 27))] (some [4,5])) (.ret)) (.skip))) (.ops false [oi 0 28 (.mv (.t 0)),oi 1 29 (.nilck (.t 28)),oi 2 30 (.fa 4 (.t 29)),oi 3 31 (.ld1
 (.t 30)),oi 4 32 (.mv (.t 7)),oi 5 33 (.ia 5 (.t 31) (.t 32)),oi 6 0 (.mv (.t 33))] (some [0,5,8,9,10]))))) (.ops false [oi 0 34 (.bin .add (.t 10) (.c (.int .i64 1))),oi 1 10 (.mv (.t 34))] (some [0,5,8,9,10])))))
def code26:AC:=.seq (.ops false [oi 0 4 (.mv (.c .nilp)),oi 1 5 (.alloc [.int .i64 0,.int .i64 0])] (some [0,1,5])) (.seq (.seq (.ops false [oi 0 8 (.mv (.t 1)),oi 1 9 (.len false (.t 8)),oi 2 10 (.mv (.c (.int .i64 0)))] (some
 [0,5,8,9,10])) (.block 0 (.loop L26_0))) (.seq (.ops false [oi 0 35 (.mv (.t 0)),oi 1 36 (.build [.int .i64 0,.int .i64 0] []),oi 2 4 (.mv (.t 35)),ou 3 (.st 2 (.t 5) (.t 36))] (some [4,5])) (.ret)))
def code8:AC:=.seq (.ops false [oi 0 2 (.box (.t 0)),oi 1 4 (.alloc [.int .i64 0,.int .i64 0,.nils,.nils,.nils]),oi 2 5 (.alloc [.int .i64 0,.int .i64 0])] (some [1,2,4,5])) (.seq (.seq (.ops false [oi 0 9 (.ldA 5 (.t 2)),oi 1 10 (.call
 false 25 [(.t 9)]),oi 2 6 (.alloc [.int .i64 0,.int .i64 0]),ou 3 (.st 2 (.t 6) (.t 10))] (some [1,2,4,5,6])) (.seq (.ops false [oi 0 11 (.ldA 2 (.t 6)),oi 1 12 (.build [.int .i64 0,.int .i64 0] []),oi 2 13 (.eqA true 2 (.t 11) (.t 12))]
 (some [1,2,4,5,6,13])) (.cond (.t 13) (.seq (.ops true [oi 0 14 (.build [.int .i64 0,.int .i64 0,.nils,.nils,.nils] []),oi 1 15 (.ldA 2 (.t 6)),⟨2,none,.st 5 (.t 4) (.t 14),none,[1]⟩,ou 3 (.st 2 (.t 5) (.t 15))] (some [4,5])) (.ret))
 (.skip)))) (.seq (.ops false [oi 0 17 (.mv (.t 1)),oi 1 18 (.call false 26 [(.t 2),(.t 17)]),oi 2 16 (.mv (.t 18)),oi 3 19 (.ext 0 (.t 16)),oi 4 20 (.ext 1 (.t 16)),oi 5 8 (.alloc [.int .i64 0,.int .i64 0]),oi 6 7 (.mv (.t 19)),ou 7 (.st 2
 (.t 8) (.t 20))] (some [4,5,7,8])) (.seq (.seq (.ops false [oi 0 21 (.ldA 2 (.t 8)),oi 1 22 (.build [.int .i64 0,.int .i64 0] []),oi 2 23 (.eqA true 2 (.t 21) (.t 22))] (some [4,5,7,8,23])) (.cond (.t 23) (.seq (.ops true [oi 0 24 (.build
 [.int .i64 0,.int .i64 0,.nils,.nils,.nils] []),oi 1 25 (.ldA 2 (.t 8)),⟨2,none,.st 5 (.t 4) (.t 24),none,[1]⟩,ou 3 (.st 2 (.t 5) (.t 25))] (some [4,5])) (.ret)) (.skip))) (.seq (.ops false [oi 0 26 (.mv (.t 7)),oi 1 27 (.nilck (.t 26)),oi
 2 28 (.ldA 5 (.t 27)),oi 3 29 (.call false 27 [(.t 28)]),oi 4 30 (.build [.int .i64 0,.int .i64 0] []),ou 5 (.st 5 (.t 4) (.t 29)),ou 6 (.st 2 (.t 5) (.t 30))] (some [4,5])) (.ret)))))
def code12:AC:=.seq (.ops false [oi 0 4 (.mv (.c (.bool false)))] (some [0,1])) (.seq (.ops false [oi 0 5 (.mv (.t 0)),oi 1 6 (.b2s (.t 5)),oi 2 7 (.mv (.t 1)),oi 3 8 (.b2s (.t 7)),oi 4 9 (.bin .eql (.t 6) (.t 8)),oi 5 4 (.mv (.t 9))]
 (some [4])) (.ret))
def code127:AC:=.seq (.ops false [oi 0 2 (.mv (.c .nils))] (some [0])) (.seq (.seq (.ops false [oi 0 3 (.mv (.t 0)),oi 1 4 (.isnil false 0 (.t 3))] (some [0,4])) (.cond (.t 4) (.seq (.ops false [oi 0 2 (.mv (.c .nils))] (some [2]))
 (.ret)) (.skip))) (.seq (.ops false [oi 0 5 (.mkS 0 [] []),oi 1 6 (.mv (.t 0)),oi 2 7 (.app false 1 8 (.t 5) (.t 6)),oi 3 2 (.mv (.t 7))] (some [2])) (.ret)))
def T11_0:AC:=.ops false [oi 0 2 (.box (.t 0)),oi 1 3 (.box (.t 1)),oi 2 4 (.mv (.c .nils)),oi 3 5 (.alloc [.int .i64 0,.int .i64 0])] (some [2,3,5])
def T11_1:AC:=.seq (.ops false [oi 0 12 (.ldA 5 (.t 2)),oi 1 13 (.call false 25 [(.t 12)]),oi 2 6 (.alloc [.int .i64 0,.int .i64 0]),ou 3 (.st 2 (.t 6) (.t 13))] (some [2,3,5,6])) (.seq (.ops false [oi 0 14 (.ldA 2 (.t 6)),oi 1 15
 (.build [.int .i64 0,.int .i64 0] []),oi 2 16 (.eqA true 2 (.t 14) (.t 15))] (some [2,3,5,6,16])) (.cond (.t 16) (.seq (.ops true [oi 0 17 (.ldA 2 (.t 6)),oi 1 4 (.mv (.c .nils)),ou 2 (.st 2 (.t 5) (.t 17))] (some [4,5])) (.ret)) (.skip)))
def T11_2:AC:=.seq (.ops false [oi 0 18 (.ld1 (.t 3)),oi 1 19 (.call false 34 [(.t 18)]),oi 2 20 (.un .not (.t 19))] (some [2,3,5,20])) (.cond (.t 20) (.seq (.ops false [oi 0 21 (.call false 35 [(.c (.int .i64 7)),(.c (.int .i64
 (-2)))]),oi 1 4 (.mv (.c .nils)),ou 2 (.st 2 (.t 5) (.t 21))] (some [4,5])) (.ret)) (.skip))
def T11_3:AC:=.ops false [oi 0 7 (.alloc [.nils])] (some [2,3,5,7])
def T11_4:AC:=.seq (.ops false [oi 0 22 (.ldA 5 (.t 2)),oi 1 23 (.call false 36 [(.t 22)])] (some [2,3,5,7,23])) (.block 0 (.stop))
def T11_5:AC:=.ops false [oi 0 62 (.ld1 (.t 7)),oi 1 63 (.build [.int .i64 0,.int .i64 0] []),oi 2 4 (.mv (.t 62)),ou 3 (.st 2 (.t 5) (.t 63))] (some [4,5])
def T11_6:AC:=.ret
def code11:AC:=.seq T11_0 (.seq T11_1 (.seq T11_2 (.seq T11_3 (.seq T11_4 (.seq T11_5 T11_6)))))
def code36:AC:=.seq (.ops false [oi 0 1 (.box (.t 0)),oi 1 2 (.mv (.c .nilf))] (some [1])) (.seq (.ops false [oi 0 3 (.ldA 5 (.t 1)),oi 1 4 (.call false 27 [(.t 3)]),ou 2 (.st 5 (.t 1) (.t 4))] (some [1])) (.seq (.ops false [oi 0 5
 (.mkF 90 [] [(.t 1)]),oi 1 2 (.mv (.t 5))] (some [2])) (.ret)))
def code90:AC:=.seq (.ops false [oi 0 3 (.ldA 5 (.t 1)),oi 1 4 (.call false 25 [(.t 3)]),oi 2 5 (.build [.int .i64 0,.int .i64 0] []),oi 3 6 (.eqA false 2 (.t 4) (.t 5))] (some [0,1,6])) (.cond (.t 6) (.ops false [oi 0 7 (.ldA 5 (.t
 1)),oi 1 8 (.mv (.t 0)),oi 2 9 (.call false 91 [(.t 7),(.c .nils),(.t 8)])] (some [])) (.skip))
def L91_0:AC:=(.seq (.ops false [oi 0 20 (.bin .lss (.t 19) (.t 18))] (some [1,2,17,18,19,20])) (.seq (.cond (.t 20) (.skip) (.exit 0)) (.seq (.block 1 (.seq (.ops false [oi 0 21 (.mv (.t 19)),oi 1 22 (.ia 5 (.t 17) (.t 19)),oi 2 23
 (.ldA 5 (.t 22)),oi 3 8 (.alloc [.int .i64 0,.int .i64 0,.nils,.nils,.nils]),oi 4 7 (.mv (.t 21)),ou 5 (.st 5 (.t 8) (.t 23))] (some [1,2,7,8,17,18,19])) (.seq (.ops true [oi 0 24 (.ldA 5 (.t 8)),oi 1 25 (.mv (.t 1)),⟨2,some 26,.call true
 127 [(.t 25)],none,[0]⟩,⟨3,some 27,.mv (.t 7),none,[2]⟩,⟨4,some 28,.mkS 1 [.int .i64 0] [(0,1,(.t 27))],none,[2]⟩,⟨5,some 29,.app false 1 8 (.t 26) (.t 28),none,[0]⟩,⟨6,some 30,.mv (.t 2),none,[5,2]⟩,oi 7 31 (.call false 91 [(.t 24),(.t
 29),(.t 30)]),oi 8 32 (.un .not (.t 31))] (some [1,2,17,18,19,32])) (.cond (.t 32) (.seq (.ops false [oi 0 6 (.mv (.c (.bool false)))] (some [6])) (.ret)) (.skip))))) (.ops false [oi 0 33 (.bin .add (.t 19) (.c (.int .i64 1))),oi 1 19 (.mv
 (.t 33))] (some [1,2,17,18,19])))))
def T91_0:AC:=.ops false [oi 0 3 (.box (.t 0)),oi 1 6 (.mv (.c (.bool false)))] (some [1,2,3])
def T91_1:AC:=.seq (.ops true [oi 0 9 (.mv (.t 2)),oi 1 10 (.mv (.t 1)),⟨2,some 11,.call true 127 [(.t 10)],none,[0]⟩,⟨3,some 12,.ldA 5 (.t 3),none,[2]⟩,⟨4,some 13,.call false 27 [(.t 12)],none,[0]⟩,oi 5 14 (.dyn (.t 9) [(.t 11),(.t
 13)]),oi 6 15 (.un .not (.t 14))] (some [1,2,3,15])) (.cond (.t 15) (.seq (.ops false [oi 0 6 (.mv (.c (.bool false)))] (some [6])) (.ret)) (.skip))
def T91_2:AC:=.seq (.ops false [oi 0 16 (.fa 4 (.t 3)),oi 1 17 (.ld1 (.t 16)),oi 2 18 (.len false (.t 17)),oi 3 19 (.mv (.c (.int .i64 0)))] (some [1,2,17,18,19])) (.block 0 (.loop L91_0))
def T91_3:AC:=.ops false [oi 0 6 (.mv (.c (.bool true)))] (some [6])
def T91_4:AC:=.ret
def code91:AC:=.seq T91_0 (.seq T91_1 (.seq T91_2 (.seq T91_3 T91_4)))
def T3_0:AC:=.ops false [oi 0 2 (.mv (.c (.bool false)))] (some [0])
def T3_1:AC:=.ops false [oi 0 20 (.call false 6 []),oi 1 21 (.call false 5 [(.t 20)]),oi 2 19 (.mv (.t 21)),oi 3 22 (.ext 0 (.t 19)),oi 4 23 (.ext 1 (.t 19)),oi 5 3 (.alloc [.nils]),oi 6 4 (.alloc [.int .i64 0,.int .i64 0]),ou 7 (.st 1
 (.t 3) (.t 22)),ou 8 (.st 2 (.t 4) (.t 23))] (some [0,3,4])
def T3_2:AC:=.ops false [oi 0 24 (.mkS 16 [.int .u8 0,.int .u8 0,.int .u8 0,.int .u8 0,.int .u8 0,.int .u8 0,.int .u8 0,.int .u8 0,.int .u8 0,.int .u8 0,.int .u8 0,.int .u8 0,.int .u8 0,.int .u8 0,.int .u8 0,.int .u8 0] [(0,1,(.c (.int
 .u8 83))),(1,1,(.c (.int .u8 78))),(2,1,(.c (.int .u8 68))),(3,1,(.c (.int .u8 49))),(4,1,(.c (.int .u8 70))),(5,1,(.c (.int .u8 0))),(6,1,(.c (.int .u8 4))),(7,1,(.c (.int .u8 0))),(8,1,(.c (.int .u8 8))),(9,1,(.c (.int .u8 1))),(10,1,(.c
 (.int .u8 0))),(11,1,(.c (.int .u8 68))),(12,1,(.c (.int .u8 0))),(13,1,(.c (.int .u8 1))),(14,1,(.c (.int .u8 129))),(15,1,(.c (.int .u8 0)))]),oi 1 5 (.mv (.t 24))] (some [0,3,4,5])
def T3_3:AC:=.ops false [oi 0 26 (.ldA 1 (.t 3)),oi 1 27 (.mv (.t 5)),oi 2 28 (.call false 7 [(.t 26),(.t 27)]),oi 3 25 (.mv (.t 28)),oi 4 29 (.ext 0 (.t 25)),oi 5 30 (.ext 1 (.t 25)),oi 6 6 (.alloc [.int .i64 0,.int .i64
 0,.nils,.nils,.nils]),oi 7 7 (.alloc [.int .i64 0,.int .i64 0]),ou 8 (.st 5 (.t 6) (.t 29)),ou 9 (.st 2 (.t 7) (.t 30))] (some [0,3,4,6,7])
def T3_4:AC:=.ops false [oi 0 32 (.ldA 5 (.t 6)),oi 1 33 (.mkS 4 [.int .i64 0,.int .i64 0,.int .i64 0,.int .i64 0] [(0,1,(.c (.int .i64 0))),(1,1,(.c (.int .i64 0))),(2,1,(.c (.int .i64 1))),(3,1,(.c (.int .i64 0)))]),oi 2 34 (.call
 false 8 [(.t 32),(.t 33)]),oi 3 31 (.mv (.t 34)),oi 4 35 (.ext 0 (.t 31)),oi 5 36 (.ext 1 (.t 31)),oi 6 8 (.alloc [.int .i64 0,.int .i64 0,.nils,.nils,.nils]),oi 7 9 (.alloc [.int .i64 0,.int .i64 0]),ou 8 (.st 5 (.t 8) (.t 35)),ou 9 (.st 2
 (.t 9) (.t 36))] (some [0,3,4,6,7,8,9])
def T3_5:AC:=.seq (.ops false [oi 0 37 (.fa 0 (.t 4)),oi 1 38 (.ld1 (.t 37)),oi 2 39 (.bin .neq (.t 38) (.c (.int .i64 0))),oi 3 40 (.mv (.t 39)),⟨4,some 41,.fa 0 (.t 7),(some (some 40,false)),[]⟩,⟨5,some 42,.ld1 (.t 41),(some (some
 40,false)),[]⟩,⟨6,some 43,.bin .neq (.t 42) (.c (.int .i64 0)),(some (some 40,false)),[]⟩,oi 7 44 (.pick (.t 40) (.c (.bool true)) (.t 43)),oi 8 45 (.mv (.t 44)),⟨9,some 46,.fa 0 (.t 9),(some (some 45,false)),[]⟩,⟨10,some 47,.ld1 (.t
 46),(some (some 45,false)),[]⟩,⟨11,some 48,.bin .neq (.t 47) (.c (.int .i64 0)),(some (some 45,false)),[]⟩,oi 12 49 (.pick (.t 45) (.c (.bool true)) (.t 48)),oi 13 50 (.mv (.t 49)),⟨14,some 51,.fa 1 (.t 8),(some (some
 50,false)),[]⟩,⟨15,some 52,.ld1 (.t 51),(some (some 50,false)),[]⟩,⟨16,some 53,.bin .neq (.t 52) (.c (.int .i64 8)),(some (some 50,false)),[]⟩,oi 17 54 (.pick (.t 50) (.c (.bool true)) (.t 53))] (some [0,3,6,7,54])) (.cond (.t 54) (.seq
 (.ops false [oi 0 2 (.mv (.c (.bool false)))] (some [2])) (.ret)) (.skip))
def T3_6:AC:=.ops false [oi 0 56 (.mv (.t 0)),oi 1 57 (.call false 9 [(.t 56)]),oi 2 55 (.mv (.t 57)),oi 3 58 (.ext 0 (.t 55)),oi 4 59 (.ext 1 (.t 55)),oi 5 60 (.ext 2 (.t 55)),oi 6 10 (.alloc [.int .i64 0,.int .i64
 0,.nils,.nils,.nils]),oi 7 12 (.alloc [.int .i64 0,.int .i64 0]),ou 8 (.st 5 (.t 10) (.t 58)),oi 9 11 (.mv (.t 59)),ou 10 (.st 2 (.t 12) (.t 60))] (some [0,3,6,7,10,12])
def T3_7:AC:=.seq (.ops false [oi 0 61 (.fa 0 (.t 12)),oi 1 62 (.ld1 (.t 61)),oi 2 63 (.bin .neq (.t 62) (.c (.int .i64 0))),oi 3 64 (.mv (.t 63)),⟨4,some 65,.mv (.t 0),(some (some 64,false)),[]⟩,⟨5,some 66,.len false (.t 65),(some
 (some 64,false)),[]⟩,⟨6,some 67,.bin .gtr (.t 66) (.c (.int .i64 300)),(some (some 64,false)),[]⟩,oi 7 68 (.pick (.t 64) (.c (.bool true)) (.t 67))] (some [0,3,6,7,10,68])) (.cond (.t 68) (.seq (.ops false [oi 0 2 (.mv (.c (.bool true)))]
 (some [2])) (.ret)) (.skip))
def T3_8:AC:=.ops false [oi 0 70 (.ldA 1 (.t 3)),oi 1 71 (.mv (.t 0)),oi 2 72 (.call false 7 [(.t 70),(.t 71)]),oi 3 69 (.mv (.t 72)),oi 4 73 (.ext 0 (.t 69)),oi 5 74 (.ext 1 (.t 69)),ou 6 (.st 5 (.t 6) (.t 73)),ou 7 (.st 2 (.t 7) (.t
 74))] (some [0,3,6,7,10])
def T3_9:AC:=.ops false [oi 0 76 (.ldA 1 (.t 3)),oi 1 77 (.ldA 5 (.t 6)),oi 2 78 (.call false 10 [(.t 76),(.t 77)]),oi 3 75 (.mv (.t 78)),oi 4 79 (.ext 0 (.t 75)),oi 5 80 (.ext 1 (.t 75)),oi 6 14 (.alloc [.int .i64 0,.int .i64 0]),oi 7
 13 (.mv (.t 79)),ou 8 (.st 2 (.t 14) (.t 80))] (some [0,6,7,10,13,14])
def T3_10:AC:=.ops false [oi 0 82 (.ldA 5 (.t 6)),oi 1 83 (.call false 11 [(.t 82),(.c (.str [114,97,116,101]))]),oi 2 81 (.mv (.t 83)),oi 3 84 (.ext 0 (.t 81)),oi 4 85 (.ext 1 (.t 81)),oi 5 16 (.alloc [.int .i64 0,.int .i64 0]),oi 6 15
 (.mv (.t 84)),ou 7 (.st 2 (.t 16) (.t 85))] (some [0,6,7,10,13,14,15,16])
def T3_11:AC:=.seq (.ops false [oi 0 86 (.fa 0 (.t 7)),oi 1 87 (.ld1 (.t 86)),oi 2 88 (.bin .neq (.t 87) (.c (.int .i64 0))),oi 3 89 (.mv (.t 88)),⟨4,some 90,.fa 0 (.t 14),(some (some 89,false)),[]⟩,⟨5,some 91,.ld1 (.t 90),(some (some
 89,false)),[]⟩,⟨6,some 92,.bin .neq (.t 91) (.c (.int .i64 0)),(some (some 89,false)),[]⟩,oi 7 93 (.pick (.t 89) (.c (.bool true)) (.t 92)),oi 8 94 (.mv (.t 93)),⟨9,some 95,.fa 0 (.t 16),(some (some 94,false)),[]⟩,⟨10,some 96,.ld1 (.t
 95),(some (some 94,false)),[]⟩,⟨11,some 97,.bin .neq (.t 96) (.c (.int .i64 0)),(some (some 94,false)),[]⟩,oi 12 98 (.pick (.t 94) (.c (.bool true)) (.t 97)),oi 13 99 (.mv (.t 98)),⟨14,some 100,.mv (.t 15),(some (some
 99,false)),[]⟩,⟨15,some 101,.len false (.t 100),(some (some 99,false)),[]⟩,⟨16,some 102,.bin .neq (.t 101) (.c (.int .i64 1)),(some (some 99,false)),[]⟩,oi 17 103 (.pick (.t 99) (.c (.bool true)) (.t 102)),oi 18 104 (.mv (.t 103)),⟨19,some
 105,.fa 4 (.t 10),(some (some 104,false)),[]⟩,⟨20,some 106,.ld1 (.t 105),(some (some 104,false)),[]⟩,⟨21,some 107,.len false (.t 106),(some (some 104,false)),[]⟩,⟨22,some 108,.bin .neq (.t 107) (.c (.int .i64 3)),(some (some
 104,false)),[]⟩,oi 23 109 (.pick (.t 104) (.c (.bool true)) (.t 108))] (some [0,6,10,13,15,109])) (.cond (.t 109) (.seq (.ops false [oi 0 2 (.mv (.c (.bool false)))] (some [2])) (.ret)) (.skip))
def T3_12:AC:=.ops true [oi 8 17 (.alloc [.int .i64 0,.int .i64 0,.nils,.nils,.nils]),⟨9,some 18,.alloc [.int .i64 0,.int .i64 0],none,[8]⟩,⟨0,some 111,.ldA 5 (.t 6),none,[9,8]⟩,⟨1,some 112,.mv (.t 15),none,[9,8]⟩,⟨2,some 113,.ia 1 (.t
 112) (.c (.int .i64 0)),none,[9,8]⟩,⟨3,some 114,.ld1 (.t 113),none,[9,8]⟩,⟨4,some 115,.call false 8 [(.t 111),(.t 114)],none,[9,8]⟩,⟨5,some 110,.mv (.t 115),none,[9,8]⟩,⟨6,some 116,.ext 0 (.t 110),none,[9,8]⟩,⟨7,some 117,.ext 1 (.t
 110),none,[9,8]⟩,⟨10,none,.st 5 (.t 17) (.t 116),none,[7]⟩,ou 11 (.st 2 (.t 18) (.t 117))] (some [0,10,13,17,18])
def T3_13:AC:=.ops true [oi 0 118 (.fa 0 (.t 18)),oi 1 119 (.ld1 (.t 118)),oi 2 120 (.bin .eql (.t 119) (.c (.int .i64 0))),oi 3 121 (.mv (.t 120)),⟨4,some 122,.mv (.t 13),(some (some 121,true)),[]⟩,⟨5,some 123,.mv (.t 0),(some (some
 121,true)),[]⟩,⟨6,some 124,.call false 12 [(.t 122),(.t 123)],(some (some 121,true)),[]⟩,oi 7 125 (.pick (.t 121) (.t 124) (.c (.bool false))),oi 8 126 (.mv (.t 125)),⟨9,some 127,.fa 1 (.t 17),(some (some 126,true)),[]⟩,⟨10,some 128,.ld1
 (.t 127),(some (some 126,true)),[]⟩,⟨11,some 129,.fa 4 (.t 10),(some (some 126,true)),[]⟩,⟨12,some 130,.ld1 (.t 129),(some (some 126,true)),[]⟩,⟨13,some 131,.ia 5 (.t 130) (.c (.int .i64 0)),(some (some 126,true)),[]⟩,⟨14,some 132,.fa 1 (.t
 131),(some (some 126,true)),[]⟩,⟨15,some 133,.ld1 (.t 132),(some (some 126,true)),[]⟩,⟨16,some 134,.bin .eql (.t 128) (.t 133),(some (some 126,true)),[]⟩,oi 17 135 (.pick (.t 126) (.t 134) (.c (.bool false))),oi 18 2 (.mv (.t 135))] (some
 [2])
def T3_14:AC:=.ret
def code3:AC:=.seq T3_0 (.seq T3_1 (.seq T3_2 (.seq T3_3 (.seq T3_4 (.seq T3_5 (.seq T3_6 (.seq T3_7 (.seq T3_8 (.seq T3_9 (.seq T3_10 (.seq T3_11 (.seq T3_12 (.seq T3_13 T3_14)))))))))))))
end Go.Sx
