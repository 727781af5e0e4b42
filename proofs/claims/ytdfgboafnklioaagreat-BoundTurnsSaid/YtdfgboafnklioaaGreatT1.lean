/- The bodies of functions of this cut, gone through by Lean itself. No condition. -/
import Derived.Test.YtdfgboafnklioaaGreatT0
set_option linter.all false
set_option maxRecDepth 100000
set_option maxHeartbeats 0
namespace Go.Proofs.Tryz
open Go.cO
noncomputable section
open Int renaming ofNat_eq_natCast → n1, cast_ofNat_Int → n2
def a4:=W [(10,[0,2,4,6,8,10,12,14,18,20,22,24,28,16,1,25,26,30])] [8,14] func4
def a6:=W [(17,[0,2,4,6,8,10,12,14,16,18,20,22,24,26,28,30,32,34,36,38,40,42,44,48,46,50]),(18,[0,2,4,6,8,10,12,14,16,18,15,20,22]),(26,[0,2,4,6,8,10,12,14,16,18,20,22,24,26,28,30,32,34,36,38,42,40,44,46,48,50,52,56,54,58,60,62,64,66,70,68,72,74,76,78])] [4,15] func6
def a9:=W [] [2,114] func9
def u9 (v:List AV):=(show a9 v=_ from by show a9.1 v=_;unfold a9;unfold W;dsimp only)
def a10:=W [] [2] func10
def u10 (v:List AV):=(show a10 v=_ from by show a10.1 v=_;unfold a10;unfold W;dsimp only)
def a12:=W [] [2,3] func12
def u12 (v:List AV):=(show a12 v=_ from by show a12.1 v=_;unfold a12;unfold W;dsimp only)
def a13:=W [] [2,3] func13
def u13 (v:List AV):=(show a13 v=_ from by show a13.1 v=_;unfold a13;unfold W;dsimp only)
def a14:=W [] [31] func14
def a15:=W [] [4] func15
def a16:=W [] [] func16
def u16 (v:List AV):=(show a16 v=_ from by show a16.1 v=_;unfold a16;unfold W;dsimp only)
def a17:=W [] [] func17
def u17 (v:List AV):=(show a17 v=_ from by show a17.1 v=_;unfold a17;unfold W;dsimp only)
def a18:=W [] [4,0] func18
def a19:=W [(3,[0,2,4,6,8,12,14,16,18,20,10,13,17,21,22,24,26]),(5,[0,2,4,6,10,12,14,16,8,11,17,18,20,22]),(7,[0,2,6,8,4,7,10,12,14]),(9,[0,2,4,6,10,12,14,16,8,11,17,18,20,22]),(10,[0,2,6,8,4,7,10,12,14])] [] func19
def a20:=W [] [4] func20
def a21:=W [] [4] func21
def a22:=W [(1,[0,2,4,6,8,10,14,16,12,17,18,20,22,24,26,30,32,28,33,34,36,38,40,42,44,48,50,46,51,52,54,56,58,60,62,66,68,64,69,70,72,74,76,78])] [] func22
def a23:=W [] [] func23
def a24:=W [] [] func24
def a25:=W [] [2] func25
def a26:=W [] [] func26
def a27:=W [] [5,6] func27
def a28:=W [] [2,31] func28
def u28 (v:List AV):=(show a28 v=_ from by show a28.1 v=_;unfold a28;unfold W;dsimp only)
def a29:=W [] [] func29
def a30:=W [(24,[0,2,4,6,8,5,10,12])] [3,4] func30
def u30 (v:List AV):=(show a30 v=_ from by show a30.1 v=_;unfold a30;unfold W;dsimp only)
def a31:=W [] [0] func31
def a32:=W [] [6,7,12] func32
def a33:=W [] [8] func33
def a34:=W [] [8] func34
def a35:=W [] [4,15] func35
def a36:=W [] [4,5] func36
def a39:=W [(12,[0,2,4,6,3,8]),(22,[0,2,4,3,6])] [30] func39
def a40:=W [(17,[0,2,4,6,3,8])] [9,11,15,16] func40
def a41:=W [] [2] func41
def a42:=W [] [] func42
def a43:=W [] [2,3] func43
def a44:=W [(4,[0,4,2,5,6,8,10])] [0] func44
def a45:=W [] [4,6] func45
def a46:=W [(8,[0,2,4,6,10,12,14,18,20,8,15,21,16,21,22,24,26,28,21,30,32,34,36,21,38,40,42,44]),(9,[0,2,4,6,8,10,14,18,20,12,21,16,21,22,24,26,21,28,30,32,21,34,36,38]),(11,[0,2,4,6,10,12,14,18,20,8,15,21,16,21,22,24,26,21,28,30,32,21,34,36,38]),(13,[0,2,4,6,8,10,3,12,14,16,18,20,22]),(15,[0,2,4,6,10,12,14,8,13,16,18,20,13,22,24,26]),(16,[0,2,4,8,10,12,6,13,14,16,18,20,22,24,26]),(17,[0,4,6,8,12,14,2,9,15,10,15,16,18,20,22,15,24,26,28,30,15,32,34,36,38]),(18,[0,2,4,6,8,10,12,16,18,20,22,14,19,23,24,26,28,19,23,30,32,34,23,36,38,40]),(19,[0,2,4,8,10,12,16,18,6,13,19,14,19,20,22,24,19,26,28,30,19,32,34,36]),(21,[0,2,4,3,6,8])] [3,4] func46
def u46 (v:List AV):=(show a46 v=_ from by show a46.1 v=_;unfold a46;unfold W;dsimp only)
def a47:=W [] [2] func47
def a48:=W [] [] func48
def a49:=W [] [8,9] func49
def a50:=W [] [10,8,9] func50
def a51:=W [] [5,6] func51
def a61:=W [] [6] func61
def u61 (v:List AV):=(show a61 v=_ from by show a61.1 v=_;unfold a61;unfold W;dsimp only)
def a62:=W [] [2,11] func62
def u62 (v:List AV):=(show a62 v=_ from by show a62.1 v=_;unfold a62;unfold W;dsimp only)
def a63:=W [] [] func63
def u63 (v:List AV):=(show a63 v=_ from by show a63.1 v=_;unfold a63;unfold W;dsimp only)
def a64:=W [] [2,3] func64
def u64 (v:List AV):=(show a64 v=_ from by show a64.1 v=_;unfold a64;unfold W;dsimp only)
def a65:=W [] [] func65
def u65 (v:List AV):=(show a65 v=_ from by show a65.1 v=_;unfold a65;unfold W;dsimp only)
def a67:=W [] [14] func67
def a68:=W [] [] func68
def a69:=W [(6,[0,2,4,6,8,10,12,5,14])] [15] func69
def a70:=W [] [] func70
def a71:=W [] [10] func71
def a72:=W [] [4] func72
def a73:=W [] [4] func73
def a74:=W [(6,[0,2,4,6,8,10,5,12])] [4] func74
def a75:=W [] [4] func75
def a76:=W [] [4] func76
def a77:=W [] [4] func77
def u77 (v:List AV):=(show a77 v=_ from by show a77.1 v=_;unfold a77;unfold W;dsimp only)
def a78:=W [] [] func78
def u78 (v:List AV):=(show a78 v=_ from by show a78.1 v=_;unfold a78;unfold W;dsimp only)
def a79:=W [] [] func79
def u79 (v:List AV):=(show a79 v=_ from by show a79.1 v=_;unfold a79;unfold W;dsimp only)
def a80:=W [] [] func80
def u80 (v:List AV):=(show a80 v=_ from by show a80.1 v=_;unfold a80;unfold W;dsimp only)
def a81:=W [] [] func81
def a82:=W [] [] func82
def a83:=W [] [] func83
def a84:=W [] [] func84
def a85:=W [] [] func85
def a86:=W [] [] func86
def a87:=W [] [] func87
def a88:=W [] [] func88
def a89:=W [] [] func89
def a90:=W [] [] func90
def a91:=W [] [] func91
def a92:=W [(9,[0,2,4,6,8,10,12,14,16,18,20,22,24,26,28,30,32,34,9,36,38,40,42,44])] [] func92
def a93:=W [] [] func93
def a94:=W [] [] func94
def a95:=W [] [] func95
def a96:=W [(24,[0,2,4,6,8,10,12,14,16,18,20,22,24,26,28,30,34,36,38,40,32,11,41,42,44,46,48])] [] func96
def a97:=W [] [] func97
def a98:=W [] [] func98
def a99:=W [] [] func99
def a100:=W [] [] func100
def a101:=W [] [] func101
def a102:=W [] [2] func102
def a103:=W [] [] func103
def a104:=W [] [2] func104
def a105:=W [] [] func105
def a106:=W [] [] func106
def a107:=W [] [2] func107
def a108:=W [] [] func108
def a109:=W [] [] func109
def a110:=W [] [2] func110
def u110 (v:List AV):=(show a110 v=_ from by show a110.1 v=_;unfold a110;unfold W;dsimp only)
def a112:=W [] [2] func112
def a113:=W [] [5,14] func113
def a114:=W [] [] func114
def a115:=W [] [4] func115
def u115 (v:List AV):=(show a115 v=_ from by show a115.1 v=_;unfold a115;unfold W;dsimp only)
def a116:=W [] [4,5] func116
def a118:=W [] [] func118
def a119:=W [] [] func119
def a120:=W [] [2] func120
def a121:=W [(3,[0,2,4,8,10,12,6,1,13,14,1,16,18]),(5,[0,2,4,8,10,12,6,1,13,14,1,16,18])] [8] func121
def a123:=W [] [1] func123
def a124:=W [] [2] func124
def a125:=W [] [2] func125
def a126:=W [] [2] func126
def a127:=W [] [] func127
def a128:=W [] [2,8] func128
def u128 (v:List AV):=(show a128 v=_ from by show a128.1 v=_;unfold a128;unfold W;dsimp only)
def a129:=W [] [] func129
def u129 (v:List AV):=(show a129 v=_ from by show a129.1 v=_;unfold a129;unfold W;dsimp only)
def a130:=W [] [2] func130
def u130 (v:List AV):=(show a130 v=_ from by show a130.1 v=_;unfold a130;unfold W;dsimp only)
def a131:=W [] [] func131
def a132:=W [] [3,4] func132
def a133:=W [] [] func133
def u133 (v:List AV):=(show a133 v=_ from by show a133.1 v=_;unfold a133;unfold W;dsimp only)
def a136:=W [] [] func136
def u136 (v:List AV):=(show a136 v=_ from by show a136.1 v=_;unfold a136;unfold W;dsimp only)
def a137:=W [] [] func137
def u137 (v:List AV):=(show a137 v=_ from by show a137.1 v=_;unfold a137;unfold W;dsimp only)
def a138:=W [] [] func138
def a140:=W [] [] func140
def a141:=W [] [] func141
def a143:=W [] [] func143
def a149:=W [(3,[0,2,4,6,8,10,18,12,3,14,16,20,22])] [6] func149
def u149 (v:List AV):=(show a149 v=_ from by show a149.1 v=_;unfold a149;unfold W;dsimp only)
def a150:=W [] [] func150
def u150 (v:List AV):=(show a150 v=_ from by show a150.1 v=_;unfold a150;unfold W;dsimp only)
def a151:=W [(3,[0,2,4,6,8,10,18,12,3,14,16,20,22])] [6] func151
def a152:=W [] [3,2] func152
def u152 (v:List AV):=(show a152 v=_ from by show a152.1 v=_;unfold a152;unfold W;dsimp only)
def a153:=W [] [2,3] func153
def u153 (v:List AV):=(show a153 v=_ from by show a153.1 v=_;unfold a153;unfold W;dsimp only)
def a157:=W [] [13] func157
def a158:=W [] [] func158
def a159:=W [(2,[0,2,4,6,5,8]),(9,[0,2,4,6,8,10,12,5,14])] [16,5] func159
def a160:=W [] [] func160
def a161:=W [] [] func161
def a162:=W [] [] func162
def a163:=W [] [18] func163
def a164:=W [] [4] func164
def a165:=W [] [] func165
def a166:=W [] [4] func166
def a167:=W [] [] func167
def a168:=W [] [] func168
def a169:=W [] [4] func169
def a170:=W [] [] func170
def a171:=W [] [] func171
def a172:=W [] [] func172
def u172 (v:List AV):=(show a172 v=_ from by show a172.1 v=_;unfold a172;unfold W;dsimp only)
def a173:=W [] [] func173
def a174:=W [] [6] func174
def a175:=W [] [] func175
def a176:=W [] [8] func176
def a177:=W [] [] func177
def a178:=W [(1,[0,2,4,6,8,10,12,14,16,26,18,20,22,24,28,30])] [] func178
def a179:=W [] [] func179
def a180:=W [] [5] func180
def a181:=W [] [2] func181
def a182:=W [] [] func182
def a183:=W [] [] func183
def a184:=W [] [] func184
def a185:=W [] [] func185
def a186:=W [] [] func186
def a187:=W [] [] func187
def a188:=W [] [] func188
def u188 (v:List AV):=(show a188 v=_ from by show a188.1 v=_;unfold a188;unfold W;dsimp only)
def a189:=W [] [6,7,4,5] func189
def u189 (v:List AV):=(show a189 v=_ from by show a189.1 v=_;unfold a189;unfold W;dsimp only)
def a190:=W [] [] func190
def a191:=W [] [] func191
def a192:=W [(18,[0,2,4,6,8,10,12,14,16,18,20,22,24,26,28,30,32,11,19,29,34])] [] func192
def a193:=W [] [] func193
def a194:=W [] [] func194
def a195:=W [(1,[0,2,4,6,1,8,10,12])] [] func195
def a196:=W [] [2] func196
def a197:=W [] [2,3] func197
def a198:=W [] [] func198
def u198 (v:List AV):=(show a198 v=_ from by show a198.1 v=_;unfold a198;unfold W;dsimp only)
def a199:=W [] [] func199
def a200:=W [] [2,3] func200
def a201:=W [] [] func201
def a202:=W [] [] func202
def a203:=W [] [7,6] func203
def a204:=W [] [4] func204
def a205:=W [] [] func205
def a206:=W [] [2] func206
def a207:=W [] [] func207
def a208:=W [(1,[0,2,4,6,8,10,12,14,16,18,20,22,24,7,26,28])] [] func208
def a209:=W [] [] func209
def a210:=W [] [2,3] func210
def a211:=W [] [3] func211
def a212:=W [] [] func212
def a213:=W [] [11] func213
def a214:=W [] [16] func214
def a215:=W [(4,[0,2,4,6,8,10,12,14,16,26,18,20,22,24,28,30]),(5,[0,2,4,6,8,10,12,3,14,16,18,20])] [] func215
def a216:=W [(3,[0,2,4,6,8,10,12,14,16,20,22,24,26,28,30,32,34,18,27,35,36,38,40,42,44])] [] func216
def a217:=W [] [4] func217
def a218:=W [] [] func218
def a219:=W [] [2] func219
def a220:=W [] [6,21] func220
def a221:=W [(8,[0,2,4,6,8,1,3,10,1,12,1,14,16,18])] [4] func221
def a222:=W [] [6] func222
def a223:=W [] [10,17] func223
def a224:=W [] [] func224
def a227:=W [] [] func227
def a228:=W [] [] func228
def a229:=W [] [] func229
def a230:=W [] [] func230
def u230 (v:List AV):=(show a230 v=_ from by show a230.1 v=_;unfold a230;unfold W;dsimp only)
def a231:=W [] [14,5,7,8] func231
def a232:=W [] [4,5,6] func232
def a233:=W [] [] func233
def a237:=W [] [] func237
def a243:=W [] [19] func243
def a244:=W [] [] func244
def a245:=W [] [] func245
def a246:=W [] [6] func246
def a247:=W [] [] func247
def a248:=W [] [7] func248
def a249:=W [] [] func249
def a250:=W [] [4] func250
def a251:=W [] [4] func251
def a252:=W [] [] func252
def a253:=W [] [] func253
def a254:=W [] [] func254
def a255:=W [] [] func255
def a256:=W [] [8] func256
def a257:=W [] [] func257
def a258:=W [] [2] func258
def a259:=W [] [] func259
def a260:=W [] [] func260
def a261:=W [] [] func261
def a262:=W [(1,[0,2,4,6,8,1,10,12,14])] [] func262
def a263:=W [(1,[0,2,4,6,8,1,3,10,12,14,16,3,18,20,22])] [] func263
def a264:=W [] [2,3] func264
end
end Go.Proofs.Tryz
