/- A part of the proof of TopSoundsDescribed (texts Yr): an executor of the program's code, proved sound, and its runs. No condition. -/
import Derived.Test.YtdflipbphcmpoaaGreatDoorP14
set_option linter.unusedSimpArgs false
set_option linter.unusedVariables false
set_option maxRecDepth 100000
namespace Go.Sx
open Go.Proofs
def sndT3:List (Nat × List AV × AV):=(110,[sndF],okF) :: sndT2
theorem sndT3_ok:AllKnown sndT3:=⟨kn110,sndT2_ok⟩
theorem kn19:Known 19 [sndF] okF:=known (t:=sndT3) sndT3_ok (args':=[sndF]) (n:=100000) (by kernel_rfl) (fun M=>by kernel_rfl) rfl
def sndT4:List (Nat × List AV × AV):=(19,[sndF],okF) :: sndT3
theorem sndT4_ok:AllKnown sndT4:=⟨kn19,sndT3_ok⟩
def sndFs0:List AV:=[.int .i64 83]
theorem kn59_0:Known 59 [sndF,.int .i64 0] (.tup [.sl 0 0 1 sndFs0,okF]):=known (t:=sndT4) sndT4_ok (args':=[sndF,.int .i64 0]) (n:=100000) (by kernel_rfl) (fun M=>by kernel_rfl) rfl
def sndFs1:List AV:=[.int .i64 83]
theorem kn59_1:Known 59 [sndF,.int .i64 1] (.tup [.sl 0 0 1 sndFs1,okF]):=known (t:=sndT4) sndT4_ok (args':=[sndF,.int .i64 1]) (n:=100000) (by kernel_rfl) (fun M=>by kernel_rfl) rfl
def sndFs2:List AV:=[.int .i64 0,.int .i64 65,.int .i64 66,.int .i64 67,.int .i64 68,.int .i64 69,.int .i64 70,.int .i64 71,.int .i64 72,.int .i64 73,.int .i64 74,.int .i64 75,.int .i64 76,.int .i64 77,.int .i64 78,.int .i64
 79,.int .i64 80,.int .i64 81,.int .i64 82,.int .i64 83,.int .i64 84,.int .i64 85,.int .i64 86,.int .i64 87,.int .i64 88,.int .i64 89,.int .i64 90]
theorem kn59_2:Known 59 [sndF,.int .i64 2] (.tup [.sl 0 0 27 sndFs2,okF]):=known (t:=sndT4) sndT4_ok (args':=[sndF,.int .i64 2]) (n:=100000) (by kernel_rfl) (fun M=>by kernel_rfl) rfl
def sndFs3:List AV:=[.int .i64 65,.int .i64 66,.int .i64 67,.int .i64 68,.int .i64 69,.int .i64 70,.int .i64 71,.int .i64 72,.int .i64 73,.int .i64 74,.int .i64 75,.int .i64 76,.int .i64 77,.int .i64 78,.int .i64 79,.int .i64
 80,.int .i64 81,.int .i64 82,.int .i64 83,.int .i64 84,.int .i64 85,.int .i64 86,.int .i64 87,.int .i64 88,.int .i64 89,.int .i64 90]
theorem kn59_3:Known 59 [sndF,.int .i64 3] (.tup [.sl 0 0 26 sndFs3,okF]):=known (t:=sndT4) sndT4_ok (args':=[sndF,.int .i64 3]) (n:=100000) (by kernel_rfl) (fun M=>by kernel_rfl) rfl
def sndFs4:List AV:=[.int .i64 70]
theorem kn59_4:Known 59 [sndF,.int .i64 4] (.tup [.sl 0 0 1 sndFs4,okF]):=known (t:=sndT4) sndT4_ok (args':=[sndF,.int .i64 4]) (n:=100000) (by kernel_rfl) (fun M=>by kernel_rfl) rfl
def sndFs5:List AV:=[.int .i64 70]
theorem kn59_5:Known 59 [sndF,.int .i64 5] (.tup [.sl 0 0 1 sndFs5,okF]):=known (t:=sndT4) sndT4_ok (args':=[sndF,.int .i64 5]) (n:=100000) (by kernel_rfl) (fun M=>by kernel_rfl) rfl
def sndFs6:List AV:=[.int .i64 68]
theorem kn59_6:Known 59 [sndF,.int .i64 6] (.tup [.sl 0 0 1 sndFs6,okF]):=known (t:=sndT4) sndT4_ok (args':=[sndF,.int .i64 6]) (n:=100000) (by kernel_rfl) (fun M=>by kernel_rfl) rfl
def sndFs7:List AV:=[.int .i64 68]
theorem kn59_7:Known 59 [sndF,.int .i64 7] (.tup [.sl 0 0 1 sndFs7,okF]):=known (t:=sndT4) sndT4_ok (args':=[sndF,.int .i64 7]) (n:=100000) (by kernel_rfl) (fun M=>by kernel_rfl) rfl
def sndFs8:List AV:=[.int .i64 65,.int .i64 66,.int .i64 67]
theorem kn59_8:Known 59 [sndF,.int .i64 8] (.tup [.sl 0 0 3 sndFs8,okF]):=known (t:=sndT4) sndT4_ok (args':=[sndF,.int .i64 8]) (n:=100000) (by kernel_rfl) (fun M=>by kernel_rfl) rfl
def sndFs9:List AV:=[.int .i64 69]
theorem kn59_9:Known 59 [sndF,.int .i64 9] (.tup [.sl 0 0 1 sndFs9,okF]):=known (t:=sndT4) sndT4_ok (args':=[sndF,.int .i64 9]) (n:=100000) (by kernel_rfl) (fun M=>by kernel_rfl) rfl
def sndFs10:List AV:=[.int .i64 71,.int .i64 72,.int .i64 73,.int .i64 74,.int .i64 75,.int .i64 76,.int .i64 77,.int .i64 78,.int .i64 79,.int .i64 80,.int .i64 81,.int .i64 82,.int .i64 83,.int .i64 84,.int .i64 85,.int .i64
 86,.int .i64 87,.int .i64 88,.int .i64 89,.int .i64 90]
theorem kn59_10:Known 59 [sndF,.int .i64 10] (.tup [.sl 0 0 20 sndFs10,okF]):=known (t:=sndT4) sndT4_ok (args':=[sndF,.int .i64 10]) (n:=100000) (by kernel_rfl) (fun M=>by kernel_rfl) rfl
def sndFs11:List AV:=[.int .i64 65,.int .i64 66,.int .i64 67]
theorem kn59_11:Known 59 [sndF,.int .i64 11] (.tup [.sl 0 0 3 sndFs11,okF]):=known (t:=sndT4) sndT4_ok (args':=[sndF,.int .i64 11]) (n:=100000) (by kernel_rfl) (fun M=>by kernel_rfl) rfl
def sndFs12:List AV:=[.int .i64 69]
theorem kn59_12:Known 59 [sndF,.int .i64 12] (.tup [.sl 0 0 1 sndFs12,okF]):=known (t:=sndT4) sndT4_ok (args':=[sndF,.int .i64 12]) (n:=100000) (by kernel_rfl) (fun M=>by kernel_rfl) rfl
def sndFs13:List AV:=[.int .i64 71,.int .i64 72,.int .i64 73,.int .i64 74,.int .i64 75,.int .i64 76,.int .i64 77,.int .i64 78,.int .i64 79,.int .i64 80,.int .i64 81,.int .i64 82,.int .i64 83,.int .i64 84,.int .i64 85,.int .i64
 86,.int .i64 87,.int .i64 88,.int .i64 89,.int .i64 90]
theorem kn59_13:Known 59 [sndF,.int .i64 13] (.tup [.sl 0 0 20 sndFs13,okF]):=known (t:=sndT4) sndT4_ok (args':=[sndF,.int .i64 13]) (n:=100000) (by kernel_rfl) (fun M=>by kernel_rfl) rfl
def sndFs14:List AV:=[.int .i64 0,.int .i64 1,.int .i64 2,.int .i64 3,.int .i64 4,.int .i64 5,.int .i64 6,.int .i64 7,.int .i64 8,.int .i64 9,.int .i64 10,.int .i64 11,.int .i64 12,.int .i64 13,.int .i64 14,.int .i64 15,.int
 .i64 16,.int .i64 17,.int .i64 18,.int .i64 19,.int .i64 20,.int .i64 21,.int .i64 22,.int .i64 23,.int .i64 24,.int .i64 25,.int .i64 26,.int .i64 27,.int .i64 28,.int .i64 29,.int .i64 30,.int .i64 31,
 .int .i64 32,.int .i64 33,.int .i64 34,.int .i64 35,.int .i64 36,.int .i64 37,.int .i64 38,.int .i64 39,.int .i64 40,.int .i64 41,.int .i64 42,.int .i64 43,.int .i64 44,.int .i64 45,.int .i64 46,.int .i64
 47,.int .i64 48,.int .i64 49,.int .i64 50,.int .i64 51,.int .i64 52,.int .i64 53,.int .i64 54,.int .i64 55,.int .i64 56,.int .i64 57,.int .i64 58,.int .i64 59,.int .i64 60,.int .i64 61,.int .i64 62,.int
 .i64 63,.int .i64 64,.int .i64 65,.int .i64 66,.int .i64 67,.int .i64 68,.int .i64 69,.int .i64 70,.int .i64 71,.int .i64 72,.int .i64 73,.int .i64 74,.int .i64 75,.int .i64 76,.int .i64 77,.int .i64 78,
 .int .i64 79,.int .i64 80,.int .i64 81,.int .i64 82,.int .i64 83,.int .i64 84,.int .i64 85,.int .i64 86,.int .i64 87,.int .i64 88,.int .i64 89,.int .i64 90,.int .i64 91,.int .i64 92,.int .i64 93,.int .i64
 94,.int .i64 95,.int .i64 96,.int .i64 97,.int .i64 98,.int .i64 99,.int .i64 100,.int .i64 101,.int .i64 102,.int .i64 103,.int .i64 104,.int .i64 105,.int .i64 106,.int .i64 107,.int .i64 108,.int .i64
 109,.int .i64 110,.int .i64 111,.int .i64 112,.int .i64 113,.int .i64 114,.int .i64 115,.int .i64 116,.int .i64 117,.int .i64 118,.int .i64 119,.int .i64 120,.int .i64 121,.int .i64 122,.int .i64 123,.int
 .i64 124,.int .i64 125,.int .i64 126,.int .i64 127,.int .i64 128,.int .i64 129,.int .i64 130,.int .i64 131,.int .i64 132,.int .i64 133,.int .i64 134,.int .i64 135,.int .i64 136,.int .i64 137,.int .i64 138,
 .int .i64 139,.int .i64 140,.int .i64 141,.int .i64 142,.int .i64 143,.int .i64 144,.int .i64 145,.int .i64 146,.int .i64 147,.int .i64 148,.int .i64 149,.int .i64 150,.int .i64 151,.int .i64 152,.int .i64
 153,.int .i64 154,.int .i64 155,.int .i64 156,.int .i64 157,.int .i64 158,.int .i64 159,.int .i64 160,.int .i64 161,.int .i64 162,.int .i64 163,.int .i64 164,.int .i64 165,.int .i64 166,.int .i64 167,.int
 .i64 168,.int .i64 169,.int .i64 170,.int .i64 171,.int .i64 172,.int .i64 173,.int .i64 174,.int .i64 175,.int .i64 176,.int .i64 177,.int .i64 178,.int .i64 179,.int .i64 180,.int .i64 181,.int .i64 182,
 .int .i64 183,.int .i64 184,.int .i64 185,.int .i64 186,.int .i64 187,.int .i64 188,.int .i64 189,.int .i64 190,.int .i64 191,.int .i64 192,.int .i64 193,.int .i64 194,.int .i64 195,.int .i64 196,.int .i64
 197,.int .i64 198,.int .i64 199,.int .i64 200,.int .i64 201,.int .i64 202,.int .i64 203,.int .i64 204,.int .i64 205,.int .i64 206,.int .i64 207,.int .i64 208,.int .i64 209,.int .i64 210,.int .i64 211,.int
 .i64 212,.int .i64 213,.int .i64 214,.int .i64 215,.int .i64 216,.int .i64 217,.int .i64 218,.int .i64 219,.int .i64 220,.int .i64 221,.int .i64 222,.int .i64 223,.int .i64 224,.int .i64 225,.int .i64 226,
 .int .i64 227,.int .i64 228,.int .i64 229,.int .i64 230,.int .i64 231,.int .i64 232,.int .i64 233,.int .i64 234,.int .i64 235,.int .i64 236,.int .i64 237,.int .i64 238,.int .i64 239,.int .i64 240,.int .i64
 241,.int .i64 242,.int .i64 243,.int .i64 244,.int .i64 245,.int .i64 246,.int .i64 247,.int .i64 248,.int .i64 249,.int .i64 250,.int .i64 251,.int .i64 252,.int .i64 253,.int .i64 254,.int .i64 255]
theorem kn59_14:Known 59 [sndF,.int .i64 14] (.tup [.sl 0 0 256 sndFs14,okF]):=known (t:=sndT4) sndT4_ok (args':=[sndF,.int .i64 14]) (n:=100000) (by kernel_rfl) (fun M=>by kernel_rfl) rfl
def sndFs15:List AV:=[.int .i64 0,.int .i64 1,.int .i64 2,.int .i64 3,.int .i64 4,.int .i64 5,.int .i64 6,.int .i64 7,.int .i64 8,.int .i64 9,.int .i64 10,.int .i64 11,.int .i64 12,.int .i64 13,.int .i64 14,.int .i64 15,.int
 .i64 16,.int .i64 17,.int .i64 18,.int .i64 19,.int .i64 20,.int .i64 21,.int .i64 22,.int .i64 23,.int .i64 24,.int .i64 25,.int .i64 26,.int .i64 27,.int .i64 28,.int .i64 29,.int .i64 30,.int .i64 31,
 .int .i64 32,.int .i64 33,.int .i64 34,.int .i64 35,.int .i64 36,.int .i64 37,.int .i64 38,.int .i64 39,.int .i64 40,.int .i64 41,.int .i64 42,.int .i64 43,.int .i64 44,.int .i64 45,.int .i64 46,.int .i64
 47,.int .i64 48,.int .i64 49,.int .i64 50,.int .i64 51,.int .i64 52,.int .i64 53,.int .i64 54,.int .i64 55,.int .i64 56,.int .i64 57,.int .i64 58,.int .i64 59,.int .i64 60,.int .i64 61,.int .i64 62,.int
 .i64 63,.int .i64 64,.int .i64 65,.int .i64 66,.int .i64 67,.int .i64 68,.int .i64 69,.int .i64 70,.int .i64 71,.int .i64 72,.int .i64 73,.int .i64 74,.int .i64 75,.int .i64 76,.int .i64 77,.int .i64 78,
 .int .i64 79,.int .i64 80,.int .i64 81,.int .i64 82,.int .i64 83,.int .i64 84,.int .i64 85,.int .i64 86,.int .i64 87,.int .i64 88,.int .i64 89,.int .i64 90,.int .i64 91,.int .i64 92,.int .i64 93,.int .i64
 94,.int .i64 95,.int .i64 96,.int .i64 97,.int .i64 98,.int .i64 99,.int .i64 100,.int .i64 101,.int .i64 102,.int .i64 103,.int .i64 104,.int .i64 105,.int .i64 106,.int .i64 107,.int .i64 108,.int .i64
 109,.int .i64 110,.int .i64 111,.int .i64 112,.int .i64 113,.int .i64 114,.int .i64 115,.int .i64 116,.int .i64 117,.int .i64 118,.int .i64 119,.int .i64 120,.int .i64 121,.int .i64 122,.int .i64 123,.int
 .i64 124,.int .i64 125,.int .i64 126,.int .i64 127,.int .i64 128,.int .i64 129,.int .i64 130,.int .i64 131,.int .i64 132,.int .i64 133,.int .i64 134,.int .i64 135,.int .i64 136,.int .i64 137,.int .i64 138,
 .int .i64 139,.int .i64 140,.int .i64 141,.int .i64 142,.int .i64 143,.int .i64 144,.int .i64 145,.int .i64 146,.int .i64 147,.int .i64 148,.int .i64 149,.int .i64 150,.int .i64 151,.int .i64 152,.int .i64
 153,.int .i64 154,.int .i64 155,.int .i64 156,.int .i64 157,.int .i64 158,.int .i64 159,.int .i64 160,.int .i64 161,.int .i64 162,.int .i64 163,.int .i64 164,.int .i64 165,.int .i64 166,.int .i64 167,.int
 .i64 168,.int .i64 169,.int .i64 170,.int .i64 171,.int .i64 172,.int .i64 173,.int .i64 174,.int .i64 175,.int .i64 176,.int .i64 177,.int .i64 178,.int .i64 179,.int .i64 180,.int .i64 181,.int .i64 182,
 .int .i64 183,.int .i64 184,.int .i64 185,.int .i64 186,.int .i64 187,.int .i64 188,.int .i64 189,.int .i64 190,.int .i64 191,.int .i64 192,.int .i64 193,.int .i64 194,.int .i64 195,.int .i64 196,.int .i64
 197,.int .i64 198,.int .i64 199,.int .i64 200,.int .i64 201,.int .i64 202,.int .i64 203,.int .i64 204,.int .i64 205,.int .i64 206,.int .i64 207,.int .i64 208,.int .i64 209,.int .i64 210,.int .i64 211,.int
 .i64 212,.int .i64 213,.int .i64 214,.int .i64 215,.int .i64 216,.int .i64 217,.int .i64 218,.int .i64 219,.int .i64 220,.int .i64 221,.int .i64 222,.int .i64 223,.int .i64 224,.int .i64 225,.int .i64 226,
 .int .i64 227,.int .i64 228,.int .i64 229,.int .i64 230,.int .i64 231,.int .i64 232,.int .i64 233,.int .i64 234,.int .i64 235,.int .i64 236,.int .i64 237,.int .i64 238,.int .i64 239,.int .i64 240,.int .i64
 241,.int .i64 242,.int .i64 243,.int .i64 244,.int .i64 245,.int .i64 246,.int .i64 247,.int .i64 248,.int .i64 249,.int .i64 250,.int .i64 251,.int .i64 252,.int .i64 253,.int .i64 254,.int .i64 255]
theorem kn59_15:Known 59 [sndF,.int .i64 15] (.tup [.sl 0 0 256 sndFs15,okF]):=known (t:=sndT4) sndT4_ok (args':=[sndF,.int .i64 15]) (n:=100000) (by kernel_rfl) (fun M=>by kernel_rfl) rfl
def sndFs16:List AV:=[.int .i64 0,.int .i64 1,.int .i64 2,.int .i64 3,.int .i64 4,.int .i64 5,.int .i64 6,.int .i64 7,.int .i64 8,.int .i64 9,.int .i64 10,.int .i64 11,.int .i64 12,.int .i64 13,.int .i64 14,.int .i64 15,.int
 .i64 16,.int .i64 17,.int .i64 18,.int .i64 19,.int .i64 20,.int .i64 21,.int .i64 22,.int .i64 23,.int .i64 24,.int .i64 25,.int .i64 26,.int .i64 27,.int .i64 28,.int .i64 29,.int .i64 30,.int .i64 31,
 .int .i64 32,.int .i64 33,.int .i64 34,.int .i64 35,.int .i64 36,.int .i64 37,.int .i64 38,.int .i64 39,.int .i64 40,.int .i64 41,.int .i64 42,.int .i64 43,.int .i64 44,.int .i64 45,.int .i64 46,.int .i64
 47,.int .i64 48,.int .i64 49,.int .i64 50,.int .i64 51,.int .i64 52,.int .i64 53,.int .i64 54,.int .i64 55,.int .i64 56,.int .i64 57,.int .i64 58,.int .i64 59,.int .i64 60,.int .i64 61,.int .i64 62,.int
 .i64 63,.int .i64 64,.int .i64 65,.int .i64 66,.int .i64 67,.int .i64 68,.int .i64 69,.int .i64 70,.int .i64 71,.int .i64 72,.int .i64 73,.int .i64 74,.int .i64 75,.int .i64 76,.int .i64 77,.int .i64 78,
 .int .i64 79,.int .i64 80,.int .i64 81,.int .i64 82,.int .i64 83,.int .i64 84,.int .i64 85,.int .i64 86,.int .i64 87,.int .i64 88,.int .i64 89,.int .i64 90,.int .i64 91,.int .i64 92,.int .i64 93,.int .i64
 94,.int .i64 95,.int .i64 96,.int .i64 97,.int .i64 98,.int .i64 99,.int .i64 100,.int .i64 101,.int .i64 102,.int .i64 103,.int .i64 104,.int .i64 105,.int .i64 106,.int .i64 107,.int .i64 108,.int .i64
 109,.int .i64 110,.int .i64 111,.int .i64 112,.int .i64 113,.int .i64 114,.int .i64 115,.int .i64 116,.int .i64 117,.int .i64 118,.int .i64 119,.int .i64 120,.int .i64 121,.int .i64 122,.int .i64 123,.int
 .i64 124,.int .i64 125,.int .i64 126,.int .i64 127,.int .i64 128,.int .i64 129,.int .i64 130,.int .i64 131,.int .i64 132,.int .i64 133,.int .i64 134,.int .i64 135,.int .i64 136,.int .i64 137,.int .i64 138,
 .int .i64 139,.int .i64 140,.int .i64 141,.int .i64 142,.int .i64 143,.int .i64 144,.int .i64 145,.int .i64 146,.int .i64 147,.int .i64 148,.int .i64 149,.int .i64 150,.int .i64 151,.int .i64 152,.int .i64
 153,.int .i64 154,.int .i64 155,.int .i64 156,.int .i64 157,.int .i64 158,.int .i64 159,.int .i64 160,.int .i64 161,.int .i64 162,.int .i64 163,.int .i64 164,.int .i64 165,.int .i64 166,.int .i64 167,.int
 .i64 168,.int .i64 169,.int .i64 170,.int .i64 171,.int .i64 172,.int .i64 173,.int .i64 174,.int .i64 175,.int .i64 176,.int .i64 177,.int .i64 178,.int .i64 179,.int .i64 180,.int .i64 181,.int .i64 182,
 .int .i64 183,.int .i64 184,.int .i64 185,.int .i64 186,.int .i64 187,.int .i64 188,.int .i64 189,.int .i64 190,.int .i64 191,.int .i64 192,.int .i64 193,.int .i64 194,.int .i64 195,.int .i64 196,.int .i64
 197,.int .i64 198,.int .i64 199,.int .i64 200,.int .i64 201,.int .i64 202,.int .i64 203,.int .i64 204,.int .i64 205,.int .i64 206,.int .i64 207,.int .i64 208,.int .i64 209,.int .i64 210,.int .i64 211,.int
 .i64 212,.int .i64 213,.int .i64 214,.int .i64 215,.int .i64 216,.int .i64 217,.int .i64 218,.int .i64 219,.int .i64 220,.int .i64 221,.int .i64 222,.int .i64 223,.int .i64 224,.int .i64 225,.int .i64 226,
 .int .i64 227,.int .i64 228,.int .i64 229,.int .i64 230,.int .i64 231,.int .i64 232,.int .i64 233,.int .i64 234,.int .i64 235,.int .i64 236,.int .i64 237,.int .i64 238,.int .i64 239,.int .i64 240,.int .i64
 241,.int .i64 242,.int .i64 243,.int .i64 244,.int .i64 245,.int .i64 246,.int .i64 247,.int .i64 248,.int .i64 249,.int .i64 250,.int .i64 251,.int .i64 252,.int .i64 253,.int .i64 254,.int .i64 255]
theorem kn59_16:Known 59 [sndF,.int .i64 16] (.tup [.sl 0 0 256 sndFs16,okF]):=known (t:=sndT4) sndT4_ok (args':=[sndF,.int .i64 16]) (n:=100000) (by kernel_rfl) (fun M=>by kernel_rfl) rfl
def sndFs:AV:=.sl 0 0 17 [.sl 0 0 1 sndFs0,.sl 0 0 1 sndFs1,.sl 0 0 27 sndFs2,.sl 0 0 26 sndFs3,.sl 0 0 1 sndFs4,.sl 0 0 1 sndFs5,.sl 0 0 1 sndFs6,.sl 0 0 1 sndFs7,.sl 0 0 3 sndFs8,.sl 0 0 1 sndFs9,.sl 0 0 20 sndFs10,.sl 0 0 3 sndFs11,.sl 0 0 1 sndFs12,.sl 0 0 20 sndFs13,.sl 0 0 256 sndFs14,.sl 0 0 256 sndFs15,.sl 0 0 256 sndFs16]
def sndT5:List (Nat × List AV × AV):=(59,[sndF,.int .i64 0],.tup [.sl 0 0 1 sndFs0,okF]) :: (59,[sndF,.int .i64 1],.tup [.sl 0 0 1 sndFs1,okF]) :: (59,[sndF,.int .i64 2],.tup [.sl 0 0 27 sndFs2,okF]) :: (59,[sndF,.int .i64 3],.tup [.sl 0 0 26
 sndFs3,okF]) :: (59,[sndF,.int .i64 4],.tup [.sl 0 0 1 sndFs4,okF]) :: (59,[sndF,.int .i64 5],.tup [.sl 0 0 1 sndFs5,okF]) :: (59,[sndF,.int .i64 6],.tup [.sl 0 0 1 sndFs6,okF]) :: (59,[sndF,.int .i64 7],
 .tup [.sl 0 0 1 sndFs7,okF]) :: (59,[sndF,.int .i64 8],.tup [.sl 0 0 3 sndFs8,okF]) :: (59,[sndF,.int .i64 9],.tup [.sl 0 0 1 sndFs9,okF]) :: (59,[sndF,.int .i64 10],.tup [.sl 0 0 20 sndFs10,okF]) :: (59,
 [sndF,.int .i64 11],.tup [.sl 0 0 3 sndFs11,okF]) :: (59,[sndF,.int .i64 12],.tup [.sl 0 0 1 sndFs12,okF]) :: (59,[sndF,.int .i64 13],.tup [.sl 0 0 20 sndFs13,okF]) :: (59,[sndF,.int .i64 14],.tup [.sl 0 0
 256 sndFs14,okF]) :: (59,[sndF,.int .i64 15],.tup [.sl 0 0 256 sndFs15,okF]) :: (59,[sndF,.int .i64 16],.tup [.sl 0 0 256 sndFs16,okF]) :: sndT4
theorem sndT5_ok:AllKnown sndT5:=⟨kn59_0,kn59_1,kn59_2,kn59_3,kn59_4,kn59_5,kn59_6,kn59_7,kn59_8,kn59_9,kn59_10,kn59_11,kn59_12,kn59_13,kn59_14,kn59_15,kn59_16,sndT4_ok⟩
theorem kn22:Known 22 [sndF] sndFs:=known (t:=sndT5) sndT5_ok (args':=[sndF]) (n:=100000) (by kernel_rfl) (fun M=>by kernel_rfl) rfl
theorem kn6:Known 6 [] sndTxt:=known (t:=[]) trivial (args':=[]) (n:=1000) (by kernel_rfl) (fun M=>by kernel_rfl) rfl
theorem kn5:Known 5 [sndTxt] (.tup [sndF,okF]):=known (t:=sndT4) sndT4_ok (args':=[sndTxt]) (n:=100000) (by kernel_rfl) (fun M=>by kernel_rfl) rfl
end Go.Sx
