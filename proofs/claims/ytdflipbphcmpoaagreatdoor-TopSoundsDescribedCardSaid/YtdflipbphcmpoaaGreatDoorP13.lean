/- A part of the proof of TopSoundsDescribed (texts Yo): an executor of the program's code, proved sound, and its runs. No condition. -/
import Derived.Test.YtdflipbphcmpoaaGreatDoorP12
set_option linter.unusedSimpArgs false
set_option linter.unusedVariables false
set_option maxRecDepth 100000
namespace Go.Sx
open Go.Proofs
def sndTxt:AV:=.str [102,105,108,101,32,115,101,113,117,101,110,99,101,32,45,58,109,97,103,105,99,32,99,104,117,110,107,115,58,108,105,115,116,10,109,97,103,105,99,32,108,105,116,101,114,97,
 108,32,53,51,52,101,52,52,51,49,10,108,105,115,116,32,114,101,112,101,97,116,32,48,32,99,104,117,110,107,10,99,104,117,110,107,32,99,104,111,105,99,101,32,102,111,114,109,
 32,115,97,109,112,108,101,115,32,108,111,119,32,109,105,100,100,108,101,32,104,105,103,104,10,102,111,114,109,32,115,101,113,117,101,110,99,101,32,45,58,102,111,114,109,104,
 101,97,100,32,114,97,116,101,58,116,119,111,32,99,104,97,110,110,101,108,115,58,111,110,101,32,99,111,100,105,110,103,58,111,110,101,10,102,111,114,109,104,101,97,100,32,108,
 105,116,101,114,97,108,32,52,54,48,48,48,52,10,115,97,109,112,108,101,115,32,115,101,113,117,101,110,99,101,32,45,58,115,97,109,112,108,101,104,101,97,100,32,100,97,116,97,
 58,98,108,111,98,10,115,97,109,112,108,101,104,101,97,100,32,108,105,116,101,114,97,108,32,52,52,10,108,111,119,32,115,101,113,117,101,110,99,101,32,110,97,109,101,58,108,
 111,119,110,97,109,101,32,100,97,116,97,58,98,108,111,98,10,109,105,100,100,108,101,32,115,101,113,117,101,110,99,101,32,110,97,109,101,58,109,105,100,100,108,101,110,97,109,
 101,32,100,97,116,97,58,98,108,111,98,10,104,105,103,104,32,115,101,113,117,101,110,99,101,32,110,97,109,101,58,104,105,103,104,110,97,109,101,32,100,97,116,97,58,98,108,
 111,98,10,108,111,119,110,97,109,101,32,110,117,109,98,101,114,32,49,32,98,105,103,32,54,53,32,54,55,10,109,105,100,100,108,101,110,97,109,101,32,110,117,109,98,101,114,32,
 49,32,98,105,103,32,54,57,32,54,57,10,104,105,103,104,110,97,109,101,32,110,117,109,98,101,114,32,49,32,98,105,103,32,55,49,32,57,48,10,111,110,101,32,110,117,109,98,101,
 114,32,49,32,98,105,103,32,48,32,50,53,53,10,116,119,111,32,110,117,109,98,101,114,32,50,32,98,105,103,32,48,32,54,53,53,51,53,10,98,108,111,98,32,98,108,111,98,32,116,
 119,111,10]
def sndR0:List AV:=[.str [102,105,108,101],.int .i64 7,.nils,.int .i64 0,.bool false,.int .i64 0,.int .i64 0,.int .i64 0,.int .i64 0,.int .i64 0,.sl 0 0 2 [.str [],.str [99,104,117,110,107,115]],.sl 0 0 2 [.int .i64 1,
 .int .i64 2]]
def sndR1:List AV:=[.str [109,97,103,105,99],.int .i64 1,.sl 0 0 4 [.int .u8 83,.int .u8 78,.int .u8 68,.int .u8 49],.int .i64 0,.bool false,.int .i64 0,.int .i64 0,.int .i64 0,.int .i64 0,.int .i64 0,.nils,.nils]
def sndR2:List AV:=[.str [108,105,115,116],.int .i64 9,.nils,.int .i64 0,.bool false,.int .i64 0,.int .i64 0,.int .i64 0,.int .i64 0,.int .i64 3,.nils,.sl 0 0 0 []]
def sndR3:List AV:=[.str [99,104,117,110,107],.int .i64 8,.nils,.int .i64 0,.bool false,.int .i64 0,.int .i64 0,.int .i64 0,.int .i64 0,.int .i64 0,.nils,.sl 0 0 5 [.int .i64 4,.int .i64 6,.int .i64 8,.int .i64 9,.int
 .i64 10]]
def sndR4:List AV:=[.str [102,111,114,109],.int .i64 7,.nils,.int .i64 0,.bool false,.int .i64 0,.int .i64 0,.int .i64 0,.int .i64 0,.int .i64 0,.sl 0 0 4 [.str [],.str [114,97,116,101],.str [99,104,97,110,110,101,
 108,115],.str [99,111,100,105,110,103]],.sl 0 0 4 [.int .i64 5,.int .i64 15,.int .i64 14,.int .i64 14]]
def sndR5:List AV:=[.str [102,111,114,109,104,101,97,100],.int .i64 1,.sl 0 0 3 [.int .u8 70,.int .u8 0,.int .u8 4],.int .i64 0,.bool false,.int .i64 0,.int .i64 0,.int .i64 0,.int .i64 0,.int .i64 0,.nils,.nils]
def sndR6:List AV:=[.str [115,97,109,112,108,101,115],.int .i64 7,.nils,.int .i64 0,.bool false,.int .i64 0,.int .i64 0,.int .i64 0,.int .i64 0,.int .i64 0,.sl 0 0 2 [.str [],.str [100,97,116,97]],.sl 0 0 2 [.int .i64
 7,.int .i64 16]]
def sndR7:List AV:=[.str [115,97,109,112,108,101,104,101,97,100],.int .i64 1,.sl 0 0 1 [.int .u8 68],.int .i64 0,.bool false,.int .i64 0,.int .i64 0,.int .i64 0,.int .i64 0,.int .i64 0,.nils,.nils]
def sndR8:List AV:=[.str [108,111,119],.int .i64 7,.nils,.int .i64 0,.bool false,.int .i64 0,.int .i64 0,.int .i64 0,.int .i64 0,.int .i64 0,.sl 0 0 2 [.str [110,97,109,101],.str [100,97,116,97]],.sl 0 0 2 [.int .i64
 11,.int .i64 16]]
def sndR9:List AV:=[.str [109,105,100,100,108,101],.int .i64 7,.nils,.int .i64 0,.bool false,.int .i64 0,.int .i64 0,.int .i64 0,.int .i64 0,.int .i64 0,.sl 0 0 2 [.str [110,97,109,101],.str [100,97,116,97]],.sl 0 0
 2 [.int .i64 12,.int .i64 16]]
def sndR10:List AV:=[.str [104,105,103,104],.int .i64 7,.nils,.int .i64 0,.bool false,.int .i64 0,.int .i64 0,.int .i64 0,.int .i64 0,.int .i64 0,.sl 0 0 2 [.str [110,97,109,101],.str [100,97,116,97]],.sl 0 0 2 [.int
 .i64 13,.int .i64 16]]
def sndR11:List AV:=[.str [108,111,119,110,97,109,101],.int .i64 2,.nils,.int .i64 1,.bool true,.int .i64 65,.int .i64 67,.int .i64 0,.int .i64 0,.int .i64 0,.nils,.nils]
def sndR12:List AV:=[.str [109,105,100,100,108,101,110,97,109,101],.int .i64 2,.nils,.int .i64 1,.bool true,.int .i64 69,.int .i64 69,.int .i64 0,.int .i64 0,.int .i64 0,.nils,.nils]
def sndR13:List AV:=[.str [104,105,103,104,110,97,109,101],.int .i64 2,.nils,.int .i64 1,.bool true,.int .i64 71,.int .i64 90,.int .i64 0,.int .i64 0,.int .i64 0,.nils,.nils]
def sndR14:List AV:=[.str [111,110,101],.int .i64 2,.nils,.int .i64 1,.bool true,.int .i64 0,.int .i64 255,.int .i64 0,.int .i64 0,.int .i64 0,.nils,.nils]
def sndR15:List AV:=[.str [116,119,111],.int .i64 2,.nils,.int .i64 2,.bool true,.int .i64 0,.int .i64 65535,.int .i64 0,.int .i64 0,.int .i64 0,.nils,.nils]
def sndR16:List AV:=[.str [98,108,111,98],.int .i64 10,.nils,.int .i64 0,.bool false,.int .i64 0,.int .i64 0,.int .i64 0,.int .i64 15,.int .i64 0,.nils,.sl 0 0 0 []]
def sndCells:List AV:=[.str [102,105,108,101],.int .i64 7,.nils,.int .i64 0,.bool false,.int .i64 0,.int .i64 0,.int .i64 0,.int .i64 0,.int .i64 0,.sl 0 0 2 [.str [],.str [99,104,117,110,107,115]],.sl 0 0 2 [.int .i64 1,
 .int .i64 2],.str [109,97,103,105,99],.int .i64 1,.sl 0 0 4 [.int .u8 83,.int .u8 78,.int .u8 68,.int .u8 49],.int .i64 0,.bool false,.int .i64 0,.int .i64 0,.int .i64 0,.int .i64 0,.int .i64 0,.nils,
 .nils,.str [108,105,115,116],.int .i64 9,.nils,.int .i64 0,.bool false,.int .i64 0,.int .i64 0,.int .i64 0,.int .i64 0,.int .i64 3,.nils,.sl 0 0 0 [],.str [99,104,117,110,107],.int .i64 8,.nils,
 .int .i64 0,.bool false,.int .i64 0,.int .i64 0,.int .i64 0,.int .i64 0,.int .i64 0,.nils,.sl 0 0 5 [.int .i64 4,.int .i64 6,.int .i64 8,.int .i64 9,.int .i64 10],.str [102,111,114,109],.int .i64 7,
 .nils,.int .i64 0,.bool false,.int .i64 0,.int .i64 0,.int .i64 0,.int .i64 0,.int .i64 0,.sl 0 0 4 [.str [],.str [114,97,116,101],.str [99,104,97,110,110,101,108,115],.str [99,111,100,105,110,
 103]],.sl 0 0 4 [.int .i64 5,.int .i64 15,.int .i64 14,.int .i64 14],.str [102,111,114,109,104,101,97,100],.int .i64 1,.sl 0 0 3 [.int .u8 70,.int .u8 0,.int .u8 4],.int .i64 0,.bool false,.int .i64 0,
 .int .i64 0,.int .i64 0,.int .i64 0,.int .i64 0,.nils,.nils,.str [115,97,109,112,108,101,115],.int .i64 7,.nils,.int .i64 0,.bool false,.int .i64 0,.int .i64 0,.int .i64 0,.int .i64 0,.int .i64 0,
 .sl 0 0 2 [.str [],.str [100,97,116,97]],.sl 0 0 2 [.int .i64 7,.int .i64 16],.str [115,97,109,112,108,101,104,101,97,100],.int .i64 1,.sl 0 0 1 [.int .u8 68],.int .i64 0,.bool false,.int .i64 0,
 .int .i64 0,.int .i64 0,.int .i64 0,.int .i64 0,.nils,.nils,.str [108,111,119],.int .i64 7,.nils,.int .i64 0,.bool false,.int .i64 0,.int .i64 0,.int .i64 0,.int .i64 0,.int .i64 0,.sl 0 0 2 [.str [110,
 97,109,101],.str [100,97,116,97]],.sl 0 0 2 [.int .i64 11,.int .i64 16],.str [109,105,100,100,108,101],.int .i64 7,.nils,.int .i64 0,.bool false,.int .i64 0,.int .i64 0,.int .i64 0,.int .i64 0,.int
 .i64 0,.sl 0 0 2 [.str [110,97,109,101],.str [100,97,116,97]],.sl 0 0 2 [.int .i64 12,.int .i64 16],.str [104,105,103,104],.int .i64 7,.nils,.int .i64 0,.bool false,.int .i64 0,.int .i64 0,.int .i64
 0,.int .i64 0,.int .i64 0,.sl 0 0 2 [.str [110,97,109,101],.str [100,97,116,97]],.sl 0 0 2 [.int .i64 13,.int .i64 16],.str [108,111,119,110,97,109,101],.int .i64 2,.nils,.int .i64 1,.bool true,
 .int .i64 65,.int .i64 67,.int .i64 0,.int .i64 0,.int .i64 0,.nils,.nils,.str [109,105,100,100,108,101,110,97,109,101],.int .i64 2,.nils,.int .i64 1,.bool true,.int .i64 69,.int .i64 69,.int .i64
 0,.int .i64 0,.int .i64 0,.nils,.nils,.str [104,105,103,104,110,97,109,101],.int .i64 2,.nils,.int .i64 1,.bool true,.int .i64 71,.int .i64 90,.int .i64 0,.int .i64 0,.int .i64 0,.nils,.nils,.str
 [111,110,101],.int .i64 2,.nils,.int .i64 1,.bool true,.int .i64 0,.int .i64 255,.int .i64 0,.int .i64 0,.int .i64 0,.nils,.nils,.str [116,119,111],.int .i64 2,.nils,.int .i64 2,.bool true,.int .i64
 0,.int .i64 65535,.int .i64 0,.int .i64 0,.int .i64 0,.nils,.nils,.str [98,108,111,98],.int .i64 10,.nils,.int .i64 0,.bool false,.int .i64 0,.int .i64 0,.int .i64 0,.int .i64 15,.int .i64 0,.nils,
 .sl 0 0 0 []]
def sndF:AV:=.agg [.sl 0 0 17 sndCells]
def okF:AV:=.agg [.int .i64 0,.int .i64 0]
def sndRl:Nat→List AV
 | 0=>sndR0
 | 1=>sndR1
 | 2=>sndR2
 | 3=>sndR3
 | 4=>sndR4
 | 5=>sndR5
 | 6=>sndR6
 | 7=>sndR7
 | 8=>sndR8
 | 9=>sndR9
 | 10=>sndR10
 | 11=>sndR11
 | 12=>sndR12
 | 13=>sndR13
 | 14=>sndR14
 | 15=>sndR15
 | 16=>sndR16
 | _=>[]
def sndBg:Nat→AV
 | 0=>.sl 0 0 1 [.int .i64 1]
 | 1=>.nils
 | 2=>.sl 1 0 1 [.int .i64 3]
 | 3=>.sl 0 0 5 [.int .i64 4,.int .i64 6,.int .i64 8,.int .i64 9,.int .i64 10]
 | 4=>.sl 0 0 1 [.int .i64 5]
 | 5=>.nils
 | 6=>.sl 0 0 1 [.int .i64 7]
 | 7=>.nils
 | 8=>.sl 0 0 1 [.int .i64 11]
 | 9=>.sl 0 0 1 [.int .i64 12]
 | 10=>.sl 0 0 1 [.int .i64 13]
 | 11=>.nils
 | 12=>.nils
 | 13=>.nils
 | 14=>.nils
 | 15=>.nils
 | 16=>.sl 1 0 1 [.int .i64 15]
 | _=>.any
def sndBl:Nat→List Nat
 | 0=>[1]
 | 1=>[]
 | 2=>[3]
 | 3=>[4,6,8,9,10]
 | 4=>[5]
 | 5=>[]
 | 6=>[7]
 | 7=>[]
 | 8=>[11]
 | 9=>[12]
 | 10=>[13]
 | 11=>[]
 | 12=>[]
 | 13=>[]
 | 14=>[]
 | 15=>[]
 | 16=>[15]
 | _=>[]
def sndOw:Nat→Nat
 | 0=>0
 | 1=>9671406556917033397649408
 | 2=>1
 | 3=>0
 | 4=>0
 | 5=>1180591620717411303424
 | 6=>0
 | 7=>295147905179352825856
 | 8=>0
 | 9=>0
 | 10=>0
 | 11=>258254417031933722624
 | 12=>590295810358705651712
 | 13=>2475877717387519114975641600
 | 14=>115792089237316195423570985008687907853269984665640564039457584007913129639935
 | 15=>115792089237316195423570985008687907853269984665640564039457584007913129639935
 | 16=>0
 | _=>0
def sndMs:List Nat:=[9671406556917033397649408,9671406556917033397649408,2475880041677272402379145217,2475880041677272402379145216,1180591620717411303424,1180591620717411303424,295147905179352825856,295147905179352825856,
 258254417031933722624,590295810358705651712,2475877717387519114975641600,258254417031933722624,590295810358705651712,2475877717387519114975641600,
 115792089237316195423570985008687907853269984665640564039457584007913129639935,115792089237316195423570985008687907853269984665640564039457584007913129639935,
 115792089237316195423570985008687907853269984665640564039457584007913129639935]
def kindsS:AV:=.str [108,105,116,101,114,97,108,32,110,117,109,98,101,114,32,100,101,99,105,109,97,108,32,98,121,116,101,115,32,117,110,116,105,108,32,99,111,117,110,116,101,100,32,115,101,113,
 117,101,110,99,101,32,99,104,111,105,99,101,32,114,101,112,101,97,116,32,98,108,111,98]
def kindsV:AV:=.sl 0 0 10 [.str [108,105,116,101,114,97,108],.str [110,117,109,98,101,114],.str [100,101,99,105,109,97,108],.str [98,121,116,101,115],.str [117,110,116,105,108],.str [99,111,117,110,116,101,100],.str [115,101,113,117,101,110,99,101],.str [99,104,111,105,99,101],.str [114,101,112,101,97,116],.str [98,108,111,98]]
theorem kn45:Known 45 [kindsS] kindsV:=known (t:=[]) trivial (args':=[kindsS]) (n:=5000) (by kernel_rfl) (fun M=>by kernel_rfl) rfl
theorem sndB0:Known 157 [.agg sndR0] (sndBg 0):=known (t:=[]) trivial (args':=[.agg sndR0]) (n:=5000) (by kernel_rfl) (fun M=>by kernel_rfl) rfl
theorem sndO0:Known 156 [.agg sndR0] (.agg (rowC (sndOw 0))):=known (t:=[]) trivial (args':=[.agg sndR0]) (n:=5000) (by kernel_rfl) (fun M=>by kernel_rfl) rfl
theorem sndB1:Known 157 [.agg sndR1] (sndBg 1):=known (t:=[]) trivial (args':=[.agg sndR1]) (n:=5000) (by kernel_rfl) (fun M=>by kernel_rfl) rfl
theorem sndO1:Known 156 [.agg sndR1] (.agg (rowC (sndOw 1))):=known (t:=[]) trivial (args':=[.agg sndR1]) (n:=5000) (by kernel_rfl) (fun M=>by kernel_rfl) rfl
theorem sndB2:Known 157 [.agg sndR2] (sndBg 2):=known (t:=[]) trivial (args':=[.agg sndR2]) (n:=5000) (by kernel_rfl) (fun M=>by kernel_rfl) rfl
theorem sndO2:Known 156 [.agg sndR2] (.agg (rowC (sndOw 2))):=known (t:=[]) trivial (args':=[.agg sndR2]) (n:=5000) (by kernel_rfl) (fun M=>by kernel_rfl) rfl
theorem sndB3:Known 157 [.agg sndR3] (sndBg 3):=known (t:=[]) trivial (args':=[.agg sndR3]) (n:=5000) (by kernel_rfl) (fun M=>by kernel_rfl) rfl
theorem sndO3:Known 156 [.agg sndR3] (.agg (rowC (sndOw 3))):=known (t:=[]) trivial (args':=[.agg sndR3]) (n:=5000) (by kernel_rfl) (fun M=>by kernel_rfl) rfl
theorem sndB4:Known 157 [.agg sndR4] (sndBg 4):=known (t:=[]) trivial (args':=[.agg sndR4]) (n:=5000) (by kernel_rfl) (fun M=>by kernel_rfl) rfl
theorem sndO4:Known 156 [.agg sndR4] (.agg (rowC (sndOw 4))):=known (t:=[]) trivial (args':=[.agg sndR4]) (n:=5000) (by kernel_rfl) (fun M=>by kernel_rfl) rfl
theorem sndB5:Known 157 [.agg sndR5] (sndBg 5):=known (t:=[]) trivial (args':=[.agg sndR5]) (n:=5000) (by kernel_rfl) (fun M=>by kernel_rfl) rfl
theorem sndO5:Known 156 [.agg sndR5] (.agg (rowC (sndOw 5))):=known (t:=[]) trivial (args':=[.agg sndR5]) (n:=5000) (by kernel_rfl) (fun M=>by kernel_rfl) rfl
theorem sndB6:Known 157 [.agg sndR6] (sndBg 6):=known (t:=[]) trivial (args':=[.agg sndR6]) (n:=5000) (by kernel_rfl) (fun M=>by kernel_rfl) rfl
theorem sndO6:Known 156 [.agg sndR6] (.agg (rowC (sndOw 6))):=known (t:=[]) trivial (args':=[.agg sndR6]) (n:=5000) (by kernel_rfl) (fun M=>by kernel_rfl) rfl
theorem sndB7:Known 157 [.agg sndR7] (sndBg 7):=known (t:=[]) trivial (args':=[.agg sndR7]) (n:=5000) (by kernel_rfl) (fun M=>by kernel_rfl) rfl
theorem sndO7:Known 156 [.agg sndR7] (.agg (rowC (sndOw 7))):=known (t:=[]) trivial (args':=[.agg sndR7]) (n:=5000) (by kernel_rfl) (fun M=>by kernel_rfl) rfl
theorem sndB8:Known 157 [.agg sndR8] (sndBg 8):=known (t:=[]) trivial (args':=[.agg sndR8]) (n:=5000) (by kernel_rfl) (fun M=>by kernel_rfl) rfl
theorem sndO8:Known 156 [.agg sndR8] (.agg (rowC (sndOw 8))):=known (t:=[]) trivial (args':=[.agg sndR8]) (n:=5000) (by kernel_rfl) (fun M=>by kernel_rfl) rfl
theorem sndB9:Known 157 [.agg sndR9] (sndBg 9):=known (t:=[]) trivial (args':=[.agg sndR9]) (n:=5000) (by kernel_rfl) (fun M=>by kernel_rfl) rfl
theorem sndO9:Known 156 [.agg sndR9] (.agg (rowC (sndOw 9))):=known (t:=[]) trivial (args':=[.agg sndR9]) (n:=5000) (by kernel_rfl) (fun M=>by kernel_rfl) rfl
theorem sndB10:Known 157 [.agg sndR10] (sndBg 10):=known (t:=[]) trivial (args':=[.agg sndR10]) (n:=5000) (by kernel_rfl) (fun M=>by kernel_rfl) rfl
theorem sndO10:Known 156 [.agg sndR10] (.agg (rowC (sndOw 10))):=known (t:=[]) trivial (args':=[.agg sndR10]) (n:=5000) (by kernel_rfl) (fun M=>by kernel_rfl) rfl
theorem sndB11:Known 157 [.agg sndR11] (sndBg 11):=known (t:=[]) trivial (args':=[.agg sndR11]) (n:=5000) (by kernel_rfl) (fun M=>by kernel_rfl) rfl
theorem sndO11:Known 156 [.agg sndR11] (.agg (rowC (sndOw 11))):=known (t:=[]) trivial (args':=[.agg sndR11]) (n:=5000) (by kernel_rfl) (fun M=>by kernel_rfl) rfl
theorem sndB12:Known 157 [.agg sndR12] (sndBg 12):=known (t:=[]) trivial (args':=[.agg sndR12]) (n:=5000) (by kernel_rfl) (fun M=>by kernel_rfl) rfl
theorem sndO12:Known 156 [.agg sndR12] (.agg (rowC (sndOw 12))):=known (t:=[]) trivial (args':=[.agg sndR12]) (n:=5000) (by kernel_rfl) (fun M=>by kernel_rfl) rfl
theorem sndB13:Known 157 [.agg sndR13] (sndBg 13):=known (t:=[]) trivial (args':=[.agg sndR13]) (n:=5000) (by kernel_rfl) (fun M=>by kernel_rfl) rfl
theorem sndO13:Known 156 [.agg sndR13] (.agg (rowC (sndOw 13))):=known (t:=[]) trivial (args':=[.agg sndR13]) (n:=5000) (by kernel_rfl) (fun M=>by kernel_rfl) rfl
theorem sndB14:Known 157 [.agg sndR14] (sndBg 14):=known (t:=[]) trivial (args':=[.agg sndR14]) (n:=5000) (by kernel_rfl) (fun M=>by kernel_rfl) rfl
theorem sndO14:Known 156 [.agg sndR14] (.agg (rowC (sndOw 14))):=known (t:=[]) trivial (args':=[.agg sndR14]) (n:=5000) (by kernel_rfl) (fun M=>by kernel_rfl) rfl
theorem sndB15:Known 157 [.agg sndR15] (sndBg 15):=known (t:=[]) trivial (args':=[.agg sndR15]) (n:=5000) (by kernel_rfl) (fun M=>by kernel_rfl) rfl
theorem sndO15:Known 156 [.agg sndR15] (.agg (rowC (sndOw 15))):=known (t:=[]) trivial (args':=[.agg sndR15]) (n:=5000) (by kernel_rfl) (fun M=>by kernel_rfl) rfl
theorem sndB16:Known 157 [.agg sndR16] (sndBg 16):=known (t:=[]) trivial (args':=[.agg sndR16]) (n:=5000) (by kernel_rfl) (fun M=>by kernel_rfl) rfl
theorem sndO16:Known 156 [.agg sndR16] (.agg (rowC (sndOw 16))):=known (t:=[]) trivial (args':=[.agg sndR16]) (n:=5000) (by kernel_rfl) (fun M=>by kernel_rfl) rfl
def sndT1:List (Nat × List AV × AV):=[(45,[kindsS],kindsV),(157,[.agg sndR0],sndBg 0),(157,[.agg sndR1],sndBg 1),(157,[.agg sndR2],sndBg 2),(157,[.agg sndR3],sndBg 3),(157,[.agg sndR4],sndBg 4),(157,[.agg sndR5],sndBg 5),(157,[.agg
 sndR6],sndBg 6),(157,[.agg sndR7],sndBg 7),(157,[.agg sndR8],sndBg 8),(157,[.agg sndR9],sndBg 9),(157,[.agg sndR10],sndBg 10),(157,[.agg sndR11],sndBg 11),(157,[.agg sndR12],sndBg 12),(157,[.agg
 sndR13],sndBg 13),(157,[.agg sndR14],sndBg 14),(157,[.agg sndR15],sndBg 15),(157,[.agg sndR16],sndBg 16),(156,[.agg sndR0],.agg (rowC (sndOw 0))),(156,[.agg sndR1],.agg (rowC (sndOw 1))),(156,[.agg
 sndR2],.agg (rowC (sndOw 2))),(156,[.agg sndR3],.agg (rowC (sndOw 3))),(156,[.agg sndR4],.agg (rowC (sndOw 4))),(156,[.agg sndR5],.agg (rowC (sndOw 5))),(156,[.agg sndR6],.agg (rowC (sndOw 6))),(156,[.agg
 sndR7],.agg (rowC (sndOw 7))),(156,[.agg sndR8],.agg (rowC (sndOw 8))),(156,[.agg sndR9],.agg (rowC (sndOw 9))),(156,[.agg sndR10],.agg (rowC (sndOw 10))),(156,[.agg sndR11],.agg (rowC (sndOw 11))),(156,
 [.agg sndR12],.agg (rowC (sndOw 12))),(156,[.agg sndR13],.agg (rowC (sndOw 13))),(156,[.agg sndR14],.agg (rowC (sndOw 14))),(156,[.agg sndR15],.agg (rowC (sndOw 15))),(156,[.agg sndR16],.agg (rowC (sndOw
 16)))]
theorem sndT1_ok:AllKnown sndT1:=⟨kn45,sndB0,sndB1,sndB2,sndB3,sndB4,sndB5,sndB6,sndB7,sndB8,sndB9,sndB10,sndB11,sndB12,sndB13,sndB14,sndB15,sndB16,sndO0,sndO1,sndO2,sndO3,sndO4,sndO5,sndO6,sndO7,sndO8,sndO9,sndO10,sndO11,sndO12,sndO13,sndO14,sndO15,sndO16,trivial⟩
theorem snd_rule:∀ k,k < 17→(sndCells.drop (k * 12)).take 12=sndRl k
 | 0,_=>rfl
 | 1,_=>rfl
 | 2,_=>rfl
 | 3,_=>rfl
 | 4,_=>rfl
 | 5,_=>rfl
 | 6,_=>rfl
 | 7,_=>rfl
 | 8,_=>rfl
 | 9,_=>rfl
 | 10,_=>rfl
 | 11,_=>rfl
 | 12,_=>rfl
 | 13,_=>rfl
 | 14,_=>rfl
 | 15,_=>rfl
 | 16,_=>rfl
 | k + 17,h=>absurd h (by omega)
theorem snd_one:∀ k,k < 17→(sndRl k).all oneA=true
 | 0,_=>rfl
 | 1,_=>rfl
 | 2,_=>rfl
 | 3,_=>rfl
 | 4,_=>rfl
 | 5,_=>rfl
 | 6,_=>rfl
 | 7,_=>rfl
 | 8,_=>rfl
 | 9,_=>rfl
 | 10,_=>rfl
 | 11,_=>rfl
 | 12,_=>rfl
 | 13,_=>rfl
 | 14,_=>rfl
 | 15,_=>rfl
 | 16,_=>rfl
 | k + 17,h=>absurd h (by omega)
theorem snd_beg:∀ k,k < 17→∀ M,ev (ET sndT1) (.f false 157 [.agg (sndRl k)] M)=some (.fn (sndBg k) M)
 | 0,_=>fun M=>ev_orc (by kernel_rfl)
 | 1,_=>fun M=>ev_orc (by kernel_rfl)
 | 2,_=>fun M=>ev_orc (by kernel_rfl)
 | 3,_=>fun M=>ev_orc (by kernel_rfl)
 | 4,_=>fun M=>ev_orc (by kernel_rfl)
 | 5,_=>fun M=>ev_orc (by kernel_rfl)
 | 6,_=>fun M=>ev_orc (by kernel_rfl)
 | 7,_=>fun M=>ev_orc (by kernel_rfl)
 | 8,_=>fun M=>ev_orc (by kernel_rfl)
 | 9,_=>fun M=>ev_orc (by kernel_rfl)
 | 10,_=>fun M=>ev_orc (by kernel_rfl)
 | 11,_=>fun M=>ev_orc (by kernel_rfl)
 | 12,_=>fun M=>ev_orc (by kernel_rfl)
 | 13,_=>fun M=>ev_orc (by kernel_rfl)
 | 14,_=>fun M=>ev_orc (by kernel_rfl)
 | 15,_=>fun M=>ev_orc (by kernel_rfl)
 | 16,_=>fun M=>ev_orc (by kernel_rfl)
 | k + 17,h=>absurd h (by omega)
theorem snd_own:∀ k,k < 17→∀ M,ev (ET sndT1) (.f false 156 [.agg (sndRl k)] M)=some (.fn (.agg (rowC (sndOw k))) M)
 | 0,_=>fun M=>ev_orc (by kernel_rfl)
 | 1,_=>fun M=>ev_orc (by kernel_rfl)
 | 2,_=>fun M=>ev_orc (by kernel_rfl)
 | 3,_=>fun M=>ev_orc (by kernel_rfl)
 | 4,_=>fun M=>ev_orc (by kernel_rfl)
 | 5,_=>fun M=>ev_orc (by kernel_rfl)
 | 6,_=>fun M=>ev_orc (by kernel_rfl)
 | 7,_=>fun M=>ev_orc (by kernel_rfl)
 | 8,_=>fun M=>ev_orc (by kernel_rfl)
 | 9,_=>fun M=>ev_orc (by kernel_rfl)
 | 10,_=>fun M=>ev_orc (by kernel_rfl)
 | 11,_=>fun M=>ev_orc (by kernel_rfl)
 | 12,_=>fun M=>ev_orc (by kernel_rfl)
 | 13,_=>fun M=>ev_orc (by kernel_rfl)
 | 14,_=>fun M=>ev_orc (by kernel_rfl)
 | 15,_=>fun M=>ev_orc (by kernel_rfl)
 | 16,_=>fun M=>ev_orc (by kernel_rfl)
 | k + 17,h=>absurd h (by omega)
theorem ints_nils:Ints .nils []:=⟨rfl,fun j i h=>by simp at h⟩
theorem ints_sl {t e:Nat} {is:List Nat} {cs:List AV} (h:cs=is.map fun (i:Nat)=>.int .i64 (i:Int)):Ints (.sl t e is.length cs) is:=by
 subst h
 refine ⟨rfl,fun j i hj M=>?_⟩
 have hlt:=(List.getElem?_eq_some_iff.1 hj)
 obtain ⟨hl,he⟩:=hlt
 refine ⟨(is.drop (j + 1)).map fun (i:Nat)=>.int .i64 (i:Int),?_⟩
 have h1:Nat.ble (j + 1) is.length=true:=ble_true hl
 simp only [iaF,h1,List.length_map,Nat.mul_one,Nat.beq_refl,Bool.and_self,ck_true]
 rw [← List.map_drop,← List.getElem_cons_drop hl,he]
 rfl
theorem snd_ints:∀ k,k < 17→Ints (sndBg k) (sndBl k)
 | 0,_=>ints_sl (t:=0) (e:=0) (is:=[1]) (cs:=[.int .i64 1]) rfl
 | 1,_=>ints_nils
 | 2,_=>ints_sl (t:=1) (e:=0) (is:=[3]) (cs:=[.int .i64 3]) rfl
 | 3,_=>ints_sl (t:=0) (e:=0) (is:=[4,6,8,9,10]) (cs:=[.int .i64 4,.int .i64 6,.int .i64 8,.int .i64 9,.int .i64 10]) rfl
 | 4,_=>ints_sl (t:=0) (e:=0) (is:=[5]) (cs:=[.int .i64 5]) rfl
 | 5,_=>ints_nils
 | 6,_=>ints_sl (t:=0) (e:=0) (is:=[7]) (cs:=[.int .i64 7]) rfl
 | 7,_=>ints_nils
 | 8,_=>ints_sl (t:=0) (e:=0) (is:=[11]) (cs:=[.int .i64 11]) rfl
 | 9,_=>ints_sl (t:=0) (e:=0) (is:=[12]) (cs:=[.int .i64 12]) rfl
 | 10,_=>ints_sl (t:=0) (e:=0) (is:=[13]) (cs:=[.int .i64 13]) rfl
 | 11,_=>ints_nils
 | 12,_=>ints_nils
 | 13,_=>ints_nils
 | 14,_=>ints_nils
 | 15,_=>ints_nils
 | 16,_=>ints_sl (t:=1) (e:=0) (is:=[15]) (cs:=[.int .i64 15]) rfl
 | k + 17,h=>absurd h (by omega)
theorem snd_lt:∀ k,k < 17→∀ i∈sndBl k,i < 17
 | 0,_=>by decide
 | 1,_=>by decide
 | 2,_=>by decide
 | 3,_=>by decide
 | 4,_=>by decide
 | 5,_=>by decide
 | 6,_=>by decide
 | 7,_=>by decide
 | 8,_=>by decide
 | 9,_=>by decide
 | 10,_=>by decide
 | 11,_=>by decide
 | 12,_=>by decide
 | 13,_=>by decide
 | 14,_=>by decide
 | 15,_=>by decide
 | 16,_=>by decide
 | k + 17,h=>absurd h (by omega)
theorem snd_short:∀ k,k < 17→(sndBl k).length < 1000000
 | 0,_=>by decide
 | 1,_=>by decide
 | 2,_=>by decide
 | 3,_=>by decide
 | 4,_=>by decide
 | 5,_=>by decide
 | 6,_=>by decide
 | 7,_=>by decide
 | 8,_=>by decide
 | 9,_=>by decide
 | 10,_=>by decide
 | 11,_=>by decide
 | 12,_=>by decide
 | 13,_=>by decide
 | 14,_=>by decide
 | 15,_=>by decide
 | 16,_=>by decide
 | k + 17,h=>absurd h (by omega)
theorem snd_rules:RulesOK (ET sndT1) sndCells 17 sndRl sndBg sndBl sndOw:=
 ⟨fun _ _ _=>rfl,rfl,by decide,by decide,snd_rule,snd_one,snd_beg,snd_ints,snd_lt,snd_short,snd_own⟩
def sndAll:AV:=.sl 0 0 17 (cellsM sndMs)
theorem snd_ms:Nat.repeat (runK sndBl 17 0) 17 ((List.range 17).map sndOw)=sndMs:=by kernel_rfl
theorem code113_is:Go.Proofs.YtdflipbphcmpoaaGreatDoor.Cd.c113=⟨1,code113,[.t 2]⟩:=rfl
theorem kn113:Known 113 [sndF] sndAll:=by
 obtain ⟨b,M',h,hg⟩:=firsts_code snd_rules
 rw [snd_ms] at hg
 have hb:ev (ET sndT1) (.b 113 [sndF] .zero)=some (.fn (.ms b 0 17 17) M'):=by
  rw [ev_body (np:=1) (code:=code113) (rs:=[.t 2]) (by show tab.get 113=_; rw [← code113_is]; rfl) rfl]
  show retF _ _ (ev _ (.c code113 [(0,sndF)] .zero))=_
  rw [show ev (ET sndT1) (.c code113 [(0,sndF)] .zero)=_ from h]
  rfl
 refine known_ev sndT1_ok (args':=[sndF]) ?_ (fun M=>by kernel_rfl) rfl
 rw [hb]
 have hl:(cellsM sndMs).length=17 * 256:=cellsM_len sndMs
 have hz:((cellsM sndMs).length - 0) / 17=256:=by rw [hl]
 have hp:frzC M' (.ms b 0 17 17)=some sndAll:=by
  simp only [frzC,hg,hz]
  rw [if_neg (by decide),if_pos (by rw [hl]; decide),List.drop_zero,← hl,List.take_length,purL0_bools (cellsM_bools sndMs)]
  rfl
 show (adopt false M' .zero (.ms b 0 17 17)).map (·.1)=_
 show ((frz M' (.ms b 0 17 17)).map fun v=>(v,Mem.zero)).map (·.1)=_
 rw [show frz M' (.ms b 0 17 17)=frzC M' (.ms b 0 17 17) from rfl,hp]
 rfl
end Go.Sx
