import Derived.Test.YtkedjpkkhbnklaaGreatDoorEvB
import Derived.KernelRfl
import Derived.Test.YtkedjpkkhbnklaaGreatDoorChecked
set_option linter.all false
namespace Go.Ev
noncomputable section
noncomputable def Pr : Program := Go.Proofs.Tryz.prog
noncomputable def AR0 (l : List AV) (k : Ans) : Ans := lcase l (k ) fun _ _ => .no
noncomputable def AR1 (l : List AV) (k : AV → Ans) : Ans := lcase l .no fun x0 l => lcase l (k x0) fun _ _ => .no
noncomputable def AR2 (l : List AV) (k : AV → AV → Ans) : Ans := lcase l .no fun x0 l => lcase l .no fun x1 l => lcase l (k x0 x1) fun _ _ => .no
noncomputable def AR3 (l : List AV) (k : AV → AV → AV → Ans) : Ans := lcase l .no fun x0 l => lcase l .no fun x1 l => lcase l .no fun x2 l => lcase l (k x0 x1 x2) fun _ _ => .no
noncomputable def AR4 (l : List AV) (k : AV → AV → AV → AV → Ans) : Ans := lcase l .no fun x0 l => lcase l .no fun x1 l => lcase l .no fun x2 l => lcase l .no fun x3 l => lcase l (k x0 x1 x2 x3) fun _ _ => .no
noncomputable def AR5 (l : List AV) (k : AV → AV → AV → AV → AV → Ans) : Ans := lcase l .no fun x0 l => lcase l .no fun x1 l => lcase l .no fun x2 l => lcase l .no fun x3 l => lcase l .no fun x4 l => lcase l (k x0 x1 x2 x3 x4) fun _ _ => .no
noncomputable def AR6 (l : List AV) (k : AV → AV → AV → AV → AV → AV → Ans) : Ans := lcase l .no fun x0 l => lcase l .no fun x1 l => lcase l .no fun x2 l => lcase l .no fun x3 l => lcase l .no fun x4 l => lcase l .no fun x5 l => lcase l (k x0 x1 x2 x3 x4 x5) fun _ _ => .no
noncomputable def AR7 (l : List AV) (k : AV → AV → AV → AV → AV → AV → AV → Ans) : Ans := lcase l .no fun x0 l => lcase l .no fun x1 l => lcase l .no fun x2 l => lcase l .no fun x3 l => lcase l .no fun x4 l => lcase l .no fun x5 l => lcase l .no fun x6 l => lcase l (k x0 x1 x2 x3 x4 x5 x6) fun _ _ => .no
noncomputable def AR8 (l : List AV) (k : AV → AV → AV → AV → AV → AV → AV → AV → Ans) : Ans := lcase l .no fun x0 l => lcase l .no fun x1 l => lcase l .no fun x2 l => lcase l .no fun x3 l => lcase l .no fun x4 l => lcase l .no fun x5 l => lcase l .no fun x6 l => lcase l .no fun x7 l => lcase l (k x0 x1 x2 x3 x4 x5 x6 x7) fun _ _ => .no
noncomputable def AR9 (l : List AV) (k : AV → AV → AV → AV → AV → AV → AV → AV → AV → Ans) : Ans := lcase l .no fun x0 l => lcase l .no fun x1 l => lcase l .no fun x2 l => lcase l .no fun x3 l => lcase l .no fun x4 l => lcase l .no fun x5 l => lcase l .no fun x6 l => lcase l .no fun x7 l => lcase l .no fun x8 l => lcase l (k x0 x1 x2 x3 x4 x5 x6 x7 x8) fun _ _ => .no
def n0 : Nat := nat_lit 0
def n1 : Nat := nat_lit 1
def n2 : Nat := nat_lit 2
def n3 : Nat := nat_lit 3
def n4 : Nat := nat_lit 4
def n5 : Nat := nat_lit 5
def n6 : Nat := nat_lit 6
def n7 : Nat := nat_lit 7
def n8 : Nat := nat_lit 8
def n9 : Nat := nat_lit 9
def n10 : Nat := nat_lit 10
def n11 : Nat := nat_lit 11
def n12 : Nat := nat_lit 12
def n13 : Nat := nat_lit 13
def n14 : Nat := nat_lit 14
def n15 : Nat := nat_lit 15
def n16 : Nat := nat_lit 16
def n17 : Nat := nat_lit 17
def n18 : Nat := nat_lit 18
def n19 : Nat := nat_lit 19
def n20 : Nat := nat_lit 20
def n21 : Nat := nat_lit 21
def n22 : Nat := nat_lit 22
def n23 : Nat := nat_lit 23
def n24 : Nat := nat_lit 24
def n25 : Nat := nat_lit 25
def n26 : Nat := nat_lit 26
def n27 : Nat := nat_lit 27
def n28 : Nat := nat_lit 28
def n29 : Nat := nat_lit 29
def n30 : Nat := nat_lit 30
def n31 : Nat := nat_lit 31
def n32 : Nat := nat_lit 32
def n33 : Nat := nat_lit 33
def n34 : Nat := nat_lit 34
def n35 : Nat := nat_lit 35
def n36 : Nat := nat_lit 36
def n37 : Nat := nat_lit 37
def n38 : Nat := nat_lit 38
def n39 : Nat := nat_lit 39
def n40 : Nat := nat_lit 40
def n41 : Nat := nat_lit 41
def n42 : Nat := nat_lit 42
def n43 : Nat := nat_lit 43
def n44 : Nat := nat_lit 44
def n45 : Nat := nat_lit 45
def n46 : Nat := nat_lit 46
def n47 : Nat := nat_lit 47
def n48 : Nat := nat_lit 48
def n49 : Nat := nat_lit 49
def n50 : Nat := nat_lit 50
def n51 : Nat := nat_lit 51
def n52 : Nat := nat_lit 52
def n53 : Nat := nat_lit 53
def n55 : Nat := nat_lit 55
def n56 : Nat := nat_lit 56
def n57 : Nat := nat_lit 57
def n58 : Nat := nat_lit 58
def n59 : Nat := nat_lit 59
def n60 : Nat := nat_lit 60
def n61 : Nat := nat_lit 61
def n62 : Nat := nat_lit 62
def n63 : Nat := nat_lit 63
def n64 : Nat := nat_lit 64
def n65 : Nat := nat_lit 65
def n66 : Nat := nat_lit 66
def n67 : Nat := nat_lit 67
def n68 : Nat := nat_lit 68
def n69 : Nat := nat_lit 69
def n70 : Nat := nat_lit 70
def n71 : Nat := nat_lit 71
def n72 : Nat := nat_lit 72
def n73 : Nat := nat_lit 73
def n74 : Nat := nat_lit 74
def n75 : Nat := nat_lit 75
def n76 : Nat := nat_lit 76
def n77 : Nat := nat_lit 77
def n78 : Nat := nat_lit 78
def n79 : Nat := nat_lit 79
def n80 : Nat := nat_lit 80
def n81 : Nat := nat_lit 81
def n82 : Nat := nat_lit 82
def n83 : Nat := nat_lit 83
def n84 : Nat := nat_lit 84
def n85 : Nat := nat_lit 85
def n86 : Nat := nat_lit 86
def n87 : Nat := nat_lit 87
def n89 : Nat := nat_lit 89
def n90 : Nat := nat_lit 90
def n91 : Nat := nat_lit 91
def n92 : Nat := nat_lit 92
def n93 : Nat := nat_lit 93
def n94 : Nat := nat_lit 94
def n95 : Nat := nat_lit 95
def n96 : Nat := nat_lit 96
def n97 : Nat := nat_lit 97
def n98 : Nat := nat_lit 98
def n99 : Nat := nat_lit 99
def n100 : Nat := nat_lit 100
def n101 : Nat := nat_lit 101
def n102 : Nat := nat_lit 102
def n103 : Nat := nat_lit 103
def n104 : Nat := nat_lit 104
def n105 : Nat := nat_lit 105
def n106 : Nat := nat_lit 106
def n107 : Nat := nat_lit 107
def n108 : Nat := nat_lit 108
def n109 : Nat := nat_lit 109
def n110 : Nat := nat_lit 110
def n111 : Nat := nat_lit 111
def n112 : Nat := nat_lit 112
def n113 : Nat := nat_lit 113
def n114 : Nat := nat_lit 114
def n115 : Nat := nat_lit 115
def n116 : Nat := nat_lit 116
def n117 : Nat := nat_lit 117
def n118 : Nat := nat_lit 118
def n119 : Nat := nat_lit 119
def n120 : Nat := nat_lit 120
def n121 : Nat := nat_lit 121
def n122 : Nat := nat_lit 122
def n123 : Nat := nat_lit 123
def n124 : Nat := nat_lit 124
def n125 : Nat := nat_lit 125
def n126 : Nat := nat_lit 126
def n127 : Nat := nat_lit 127
def n128 : Nat := nat_lit 128
def n129 : Nat := nat_lit 129
def n130 : Nat := nat_lit 130
def n131 : Nat := nat_lit 131
def n132 : Nat := nat_lit 132
def n133 : Nat := nat_lit 133
def n135 : Nat := nat_lit 135
def n136 : Nat := nat_lit 136
def n137 : Nat := nat_lit 137
def n138 : Nat := nat_lit 138
def n139 : Nat := nat_lit 139
def n140 : Nat := nat_lit 140
def n141 : Nat := nat_lit 141
def n142 : Nat := nat_lit 142
def n143 : Nat := nat_lit 143
def n144 : Nat := nat_lit 144
def n145 : Nat := nat_lit 145
def n146 : Nat := nat_lit 146
def n147 : Nat := nat_lit 147
def n148 : Nat := nat_lit 148
def n149 : Nat := nat_lit 149
def n150 : Nat := nat_lit 150
def n151 : Nat := nat_lit 151
def n152 : Nat := nat_lit 152
def n153 : Nat := nat_lit 153
def n154 : Nat := nat_lit 154
def n155 : Nat := nat_lit 155
def n156 : Nat := nat_lit 156
def n157 : Nat := nat_lit 157
def n158 : Nat := nat_lit 158
def n159 : Nat := nat_lit 159
def n165 : Nat := nat_lit 165
def n166 : Nat := nat_lit 166
def n167 : Nat := nat_lit 167
def n168 : Nat := nat_lit 168
def n169 : Nat := nat_lit 169
def n170 : Nat := nat_lit 170
def n171 : Nat := nat_lit 171
def n172 : Nat := nat_lit 172
def n173 : Nat := nat_lit 173
def n174 : Nat := nat_lit 174
def n175 : Nat := nat_lit 175
def n176 : Nat := nat_lit 176
def n177 : Nat := nat_lit 177
def n178 : Nat := nat_lit 178
def n179 : Nat := nat_lit 179
def n180 : Nat := nat_lit 180
def n183 : Nat := nat_lit 183
def n184 : Nat := nat_lit 184
def n185 : Nat := nat_lit 185
def n186 : Nat := nat_lit 186
def n187 : Nat := nat_lit 187
def n189 : Nat := nat_lit 189
def n190 : Nat := nat_lit 190
def n191 : Nat := nat_lit 191
def n192 : Nat := nat_lit 192
def n193 : Nat := nat_lit 193
def n194 : Nat := nat_lit 194
def n195 : Nat := nat_lit 195
def n197 : Nat := nat_lit 197
def n198 : Nat := nat_lit 198
def n199 : Nat := nat_lit 199
def n200 : Nat := nat_lit 200
def n201 : Nat := nat_lit 201
def n202 : Nat := nat_lit 202
def n203 : Nat := nat_lit 203
def n204 : Nat := nat_lit 204
def n205 : Nat := nat_lit 205
def n206 : Nat := nat_lit 206
def n209 : Nat := nat_lit 209
def n210 : Nat := nat_lit 210
def n211 : Nat := nat_lit 211
def n212 : Nat := nat_lit 212
def n213 : Nat := nat_lit 213
def n214 : Nat := nat_lit 214
def n215 : Nat := nat_lit 215
def n216 : Nat := nat_lit 216
def n217 : Nat := nat_lit 217
def n218 : Nat := nat_lit 218
def n219 : Nat := nat_lit 219
def n220 : Nat := nat_lit 220
def n221 : Nat := nat_lit 221
def n222 : Nat := nat_lit 222
def n223 : Nat := nat_lit 223
def n224 : Nat := nat_lit 224
def n225 : Nat := nat_lit 225
def n226 : Nat := nat_lit 226
def n227 : Nat := nat_lit 227
def n228 : Nat := nat_lit 228
def n230 : Nat := nat_lit 230
def n232 : Nat := nat_lit 232
def n235 : Nat := nat_lit 235
def n236 : Nat := nat_lit 236
def n237 : Nat := nat_lit 237
def n238 : Nat := nat_lit 238
def n239 : Nat := nat_lit 239
def n241 : Nat := nat_lit 241
def n243 : Nat := nat_lit 243
def n244 : Nat := nat_lit 244
def n246 : Nat := nat_lit 246
def n247 : Nat := nat_lit 247
def n248 : Nat := nat_lit 248
def n249 : Nat := nat_lit 249
def n250 : Nat := nat_lit 250
def n252 : Nat := nat_lit 252
def n253 : Nat := nat_lit 253
def n254 : Nat := nat_lit 254
def n255 : Nat := nat_lit 255
def n256 : Nat := nat_lit 256
def n257 : Nat := nat_lit 257
def n259 : Nat := nat_lit 259
def n260 : Nat := nat_lit 260
def n261 : Nat := nat_lit 261
def n264 : Nat := nat_lit 264
def n265 : Nat := nat_lit 265
def n266 : Nat := nat_lit 266
def n269 : Nat := nat_lit 269
def n270 : Nat := nat_lit 270
def n271 : Nat := nat_lit 271
def n272 : Nat := nat_lit 272
def n273 : Nat := nat_lit 273
def n287 : Nat := nat_lit 287
def n289 : Nat := nat_lit 289
def n292 : Nat := nat_lit 292
def n296 : Nat := nat_lit 296
def n297 : Nat := nat_lit 297
def n306 : Nat := nat_lit 306
def n307 : Nat := nat_lit 307
def n316 : Nat := nat_lit 316
def n317 : Nat := nat_lit 317
def n318 : Nat := nat_lit 318
def n319 : Nat := nat_lit 319
def n320 : Nat := nat_lit 320
def n323 : Nat := nat_lit 323
def n325 : Nat := nat_lit 325
def n326 : Nat := nat_lit 326
def n327 : Nat := nat_lit 327
def n340 : Nat := nat_lit 340
def n341 : Nat := nat_lit 341
def n342 : Nat := nat_lit 342
def n347 : Nat := nat_lit 347
def n358 : Nat := nat_lit 358
def n361 : Nat := nat_lit 361
def n369 : Nat := nat_lit 369
def n372 : Nat := nat_lit 372
def n373 : Nat := nat_lit 373
def n374 : Nat := nat_lit 374
def n375 : Nat := nat_lit 375
def n376 : Nat := nat_lit 376
def n377 : Nat := nat_lit 377
def n379 : Nat := nat_lit 379
def n381 : Nat := nat_lit 381
def n382 : Nat := nat_lit 382
def n383 : Nat := nat_lit 383
def n384 : Nat := nat_lit 384
def n500 : Nat := nat_lit 500
def n800 : Nat := nat_lit 800
def n3000 : Nat := nat_lit 3000
def n4000 : Nat := nat_lit 4000
def n8233 : Nat := nat_lit 8233
def n8236 : Nat := nat_lit 8236
def n8251 : Nat := nat_lit 8251
def n8315 : Nat := nat_lit 8315
def n8488 : Nat := nat_lit 8488
def n9766 : Nat := nat_lit 9766
def B3x86 (x68 : AV) (kr : KR) (cl : CL) (kp : KP) (x71 : AV) (h72 : Heap) : Ans := JO (fun x73 h74 =>
 SEL x68 x73 (.bool false) fun x75 =>
 JO (fun x76 h77 =>
 SEL x75 x76 (.bool false) fun x78 =>
 kr x78 h77) fun j79 =>
 GW true x75 (cl n10 [] h74 (fun x80 h81 =>
 j79 x80 h81) kp)
 (j79 undefA h74)) fun j84 =>
 GW true x68 (EQL Pr 3 true x71 (.int .i64 n7) fun x85 =>
 j84 x85 h72)
 (j84 undefA h72)
def B3x93 (x61 : AV) (kr : KR) (cl : CL) (kp : KP) (x47 : AV) (x64 : AV) (h65 : Heap) : Ans := JO (fun x66 h67 =>
 SEL x61 x66 (.bool false) fun x68 =>
 JO (fun x69 h70 =>
 JO (fun x71 h72 =>
 B3x86 x68 kr cl kp x71 h72) fun j87 =>
 GW true x68 (LD x69 h70 fun x88 =>
 j87 x88 h70)
 (j87 undefA h70)) fun j89 =>
 GW true x68 (FA n0 x47 fun x90 =>
 j89 x90 h67)
 (j89 undefA h67)) fun j91 =>
 GW true x61 (EQL Pr 3 true x64 (.int .i64 n8) fun x92 =>
 j91 x92 h65)
 (j91 undefA h65)
def B3x100 (x52 : AV) (kr : KR) (cl : CL) (kp : KP) (x47 : AV) (x36 : AV) (x55 : AV) (x57 : AV) (h58 : Heap) : Ans := JO (fun x59 h60 =>
 SEL x52 x59 (.bool false) fun x61 =>
 JO (fun x62 h63 =>
 JO (fun x64 h65 =>
 B3x93 x61 kr cl kp x47 x64 h65) fun j94 =>
 GW true x61 (LD x62 h63 fun x95 =>
 j94 x95 h63)
 (j94 undefA h63)) fun j96 =>
 GW true x61 (FA n0 x36 fun x97 =>
 j96 x97 h60)
 (j96 undefA h60)) fun j98 =>
 GW true x52 (EQL Pr 9 false x55 x57 fun x99 =>
 j98 x99 h58)
 (j98 undefA h58)
def B3x106 (cl : CL) (h27 : Heap) (x23 : AV) (kr : KR) (kp : KP) (x26 : AV) : Ans := cl n9 [(.str n50 (nat_lit 1262134173551082729028796040690050811932617675452814150838110289668399511499785339879735725243749725110193741780086113602))] h27 (fun x28 h29 =>
 cl n8 [x28, (.str n0 n0), (.int .i64 n500)] h29 (fun x32 h33 =>
 NEWC (.n (some (.int .i64 n0)) (.n (some (.int .i64 n0)) (.n (some (.int .i64 n0)) .e .e) (.n (some (.nilslice)) .e .e)) (.n (some (.str n0 n0)) (.n (some (.nilslice)) .e .e) .e)) n6 28 h33 fun x36 h37 =>
 ST n6 x36 x32 h37 fun h38 =>
 cl n9 [(.str n30 (nat_lit 863587245276501294895967775150662787960426182349846873916856370261869890))] h38 (fun x39 h40 =>
 cl n8 [x39, (.str n0 n0), (.int .i64 n500)] h40 (fun x43 h44 =>
 NEWC (.n (some (.int .i64 n0)) (.n (some (.int .i64 n0)) (.n (some (.int .i64 n0)) .e .e) (.n (some (.nilslice)) .e .e)) (.n (some (.str n0 n0)) (.n (some (.nilslice)) .e .e) .e)) n6 28 h44 fun x47 h48 =>
 ST n6 x47 x43 h48 fun h49 =>
 FA n0 x23 fun x50 =>
 LD x50 h49 fun x51 =>
 EQL Pr 3 true x51 (.int .i64 n0) fun x52 =>
 JO (fun x53 h54 =>
 JO (fun x55 h56 =>
 JO (fun x57 h58 =>
 B3x100 x52 kr cl kp x47 x36 x55 x57 h58) fun j101 =>
 GW true x52 (j101 x26 h56)
 (j101 undefA h56)) fun j102 =>
 GW true x52 (LD x53 h54 fun x103 =>
 j102 x103 h54)
 (j102 undefA h54)) fun j104 =>
 GW true x52 (FA n2 x23 fun x105 =>
 j104 x105 h49)
 (j104 undefA h49)) kp) kp) kp) kp
def F3 (fu : Nat) (oR : Orc) (cl : CL) (args : List AV) (h1 : Heap) (kr : KR) (kp : KP) : Ans := AR1 args fun x0 =>
 cl n7 [x0, (.int .i64 n1)] h1 (fun x2 h3 =>
 BOP Pr .mul 3 true x2 (.int .i64 (nat_lit 1000000)) fun x6 =>
 cl n6 [x6] h3 (fun x7 h8 =>
 ADD Pr 9 true (.str n25 (nat_lit 572813161835890004067791450605279320122431789700054702835010)) x7 fun x11 =>
 ADD Pr 9 true x11 (.str n70 (nat_lit 1347234035710564722226075974084702301438218543005184471460335845395527330737927051410582450163985339285197442611992214757052278905155098535821347075298526148295858859101)) fun x12 =>
 ADD Pr 9 false x12 x7 fun x13 =>
 ADD Pr 9 true x13 (.str n8 (nat_lit 9016271561945849949)) fun x14 =>
 cl n9 [x14] h8 (fun x15 h16 =>
 cl n8 [x15, (.str n0 n0), (.int .i64 n500)] h16 (fun x19 h20 =>
 NEWC (.n (some (.int .i64 n0)) (.n (some (.int .i64 n0)) (.n (some (.int .i64 n0)) .e .e) (.n (some (.nilslice)) .e .e)) (.n (some (.str n0 n0)) (.n (some (.nilslice)) .e .e) .e)) n6 28 h20 fun x23 h24 =>
 ST n6 x23 x19 h24 fun h25 =>
 JO (fun x26 h27 =>
 B3x106 cl h27 x23 kr kp x26) fun j107 =>
 EQL Pr 9 true x7 (.str n1 n49) fun x108 =>
 IFB x108 (j107 (.str n5 (nat_lit 43773861943)) h25)
 (j107 (.str n5 (nat_lit 43757084727)) h25)) kp) kp) kp) kp

theorem eqF3 : F3 = fun fu oR => compF Pr fu oR 3 1 := by kernel_rfl

def B6x39 (x26 : AV) (x25 : AV) (cl : CL) (h28 : Heap) (x27 : AV) (j29 : AV → AV → AV → Heap → Ans) (kp : KP) (kr : KR) : Ans := GTR Pr 3 true x26 (.int .i64 n0) fun x30 =>
 IFB x30 (BOP Pr .quo 3 false x26 x25 fun x31 =>
 cl n18 [x31] h28 (fun x32 h33 =>
 ADD Pr 9 false x27 x32 fun x36 =>
 BOP Pr .rem 3 false x26 x25 fun x37 =>
 BOP Pr .quo 3 true x25 (.int .i64 n10) fun x38 =>
 j29 x38 x37 x36 h33) kp)
 (kr x27 h28)
def B6x40 (cl : CL) (x0 : AV) (h17 : Heap) (kr : KR) (x16 : AV) (fu : Nat) (kp : KP) : Ans := cl n19 [x0] h17 (fun x18 h19 =>
 BOP Pr .rem 3 true x18 (.int .i64 (nat_lit 1000000)) fun x22 =>
 EQL Pr 3 true x22 (.int .i64 n0) fun x23 =>
 IFB x23 (kr x16 h19)
 (ADD Pr 9 true x16 (.str n1 n46) fun x24 =>
 LP fu (fun _ _ _ _ => Ans.no) (fun j29 x25 x26 x27 h28 =>
 B6x39 x26 x25 cl h28 x27 j29 kp kr) (.int .i64 (nat_lit 100000)) x22 x24 h19)) kp
def B6x44 (cl : CL) (x0 : AV) (h3 : Heap) (kr : KR) (fu : Nat) (kp : KP) : Ans := cl n19 [x0] h3 (fun x7 h8 =>
 BOP Pr .quo 3 true x7 (.int .i64 (nat_lit 1000000)) fun x11 =>
 cl n18 [x11] h8 (fun x12 h13 =>
 JO (fun x16 h17 =>
 B6x40 cl x0 h17 kr x16 fu kp) fun j41 =>
 LSS Pr 3 true x0 (.int .i64 n0) fun x42 =>
 IFB x42 (ADD Pr 9 true (.str n1 n45) x12 fun x43 =>
 j41 x43 h13)
 (j41 x12 h13)) kp) kp
def F6 (fu : Nat) (oR : Orc) (cl : CL) (args : List AV) (h1 : Heap) (kr : KR) (kp : KP) : Ans := AR1 args fun x0 =>
 cl n17 [x0] h1 (fun x2 h3 =>
 OV (unOpA .not x2) fun x6 =>
 IFB x6 (kr (.str n0 n0) h3)
 (B6x44 cl x0 h3 kr fu kp)) kp

theorem eqF6 : F6 = fun fu oR => compF Pr fu oR 6 1 := by kernel_rfl

def F7 (fu : Nat) (oR : Orc) (cl : CL) (args : List AV) (h2 : Heap) (kr : KR) (kp : KP) : Ans := AR2 args fun x0 x1 =>
 LENS x0 fun x3 =>
 EQL Pr 3 true x3 (.int .i64 n0) fun x4 =>
 IFB x4 (kr (.int .i64 n0) h2)
 (LENS x0 fun x5 =>
 BOP Pr .rem 3 false x1 x5 fun x6 =>
 SA n1 x0 x6 fun x7 =>
 LD x7 h2 fun x8 =>
 OV (convV Pr h2 5 3 x8) fun x9 =>
 kr x9 h2)

theorem eqF7 : F7 = fun fu oR => compF Pr fu oR 7 2 := by kernel_rfl

def B8x74 (x46 : AV) (h52 : Heap) (cl : CL) (x4 : AV) (x51 : AV) (j53 : AV → Heap → Ans) (kp : KP) : Ans := NC x46 fun x55 =>
 FA n2 x55 fun x56 =>
 LD x56 h52 fun x57 =>
 cl n25 [x4, x51] h52 (fun x58 h59 =>
 LD x56 h59 fun x62 =>
 EQV x57 x62 <|
 BSL n61 n5 [(.int .i64 n0), (.str n0 n0), (.nilslice), (.int .i64 n0), (.int .i64 n0)] n1 [(n0, x58)] h59 fun x63 h64 =>
 LD x56 h64 fun x65 =>
 EQV x57 x65 <|
 GEN (builtinF .append Pr [31, 31] [x57, x63] h64) cl (fun x66 h67 =>
 NC x46 fun x70 =>
 FA n2 x70 fun x71 =>
 ST n1 x71 x66 h67 fun h72 =>
 ADD Pr 3 true x51 (.int .i64 n1) fun x73 =>
 j53 x73 h72) kp) kp
def B8x132 (h104 : Heap) (x99 : AV) (x46 : AV) (cl : CL) (j102 : Heap → Ans) (kp : KP) : Ans := OV (entryA h104 x99) fun x108 =>
 EX n0 x108 fun x109 =>
 EX n1 x108 fun x110 =>
 NEWC (.n (some (.str n0 n0)) (.n (some (.str n0 n0)) (.n (some (.int .i64 n0)) .e .e) .e) (.n (some (.int .i64 n0)) .e .e)) n4 65 h104 fun x111 h112 =>
 ST n4 x111 x109 h112 fun h113 =>
 FA n3 x111 fun x114 =>
 ST n1 x114 x110 h113 fun h115 =>
 NC x46 fun x116 =>
 FA n12 x116 fun x117 =>
 FA n4 x117 fun x118 =>
 LD x118 h115 fun x119 =>
 LDN n4 x111 h115 fun x120 =>
 BSL n65 n4 [(.str n0 n0), (.str n0 n0), (.int .i64 n0), (.int .i64 n0)] n1 [(n0, x120)] h115 fun x121 h122 =>
 LD x118 h122 fun x123 =>
 EQV x119 x123 <|
 GEN (builtinF .append Pr [25, 25] [x119, x121] h122) cl (fun x124 h125 =>
 NC x46 fun x128 =>
 FA n12 x128 fun x129 =>
 FA n4 x129 fun x130 =>
 ST n1 x130 x124 h125 fun h131 =>
 j102  h131) kp
def B8x146 (x46 : AV) (h104 : Heap) (cl : CL) (x6 : AV) (kr : KR) (kp : KP) : Ans := NC x46 fun x133 =>
 FA n12 x133 fun x134 =>
 FA n4 x134 fun x135 =>
 LD x135 h104 fun x136 =>
 cl n27 [x136] h104 (fun x137 h138 =>
 NC x46 fun x141 =>
 FA n12 x141 fun x142 =>
 LDN n6 x142 h138 fun x143 =>
 ST n6 x6 x143 h138 fun h144 =>
 LDN n6 x6 h144 fun x145 =>
 kr x145 h144) kp
def B8x147 (x4 : AV) (h52 : Heap) (x46 : AV) (x2 : AV) (cl : CL) (x8 : AV) (fu : Nat) (kp : KP) (x6 : AV) (kr : KR) : Ans := FA n0 x4 fun x75 =>
 LD x75 h52 fun x76 =>
 LENS x76 fun x77 =>
 OVH (makeSliceA Pr h52 26 x77 x77) fun x78 h79 =>
 NEWB h52 h79 fun b80 i81 h82 =>
 NC x46 fun x83 =>
 FA n12 x83 fun x84 =>
 FA n3 x84 fun x85 =>
 ST n1 x85 x2 h82 fun h86 =>
 NC x46 fun x87 =>
 FA n12 x87 fun x88 =>
 FA n5 x88 fun x89 =>
 SETB h86 i81 b80 fun h90 =>
 ST n1 x89 x78 h90 fun h91 =>
 cl n26 [x46, x8] h91 (fun x92 h93 =>
 NC x46 fun x96 =>
 FA n5 x96 fun x97 =>
 LD x97 h93 fun x98 =>
 OVH (rangeA Pr h93 56 x98) fun x99 h100 =>
 LP fu (fun _ => Ans.no) (fun j102 h101 =>
 GEN (nextA h101 x99 false) cl (fun x103 h104 =>
 EX n0 x103 fun x107 =>
 IFB x107 (B8x132 h104 x99 x46 cl j102 kp)
 (B8x146 x46 h104 cl x6 kr kp)) kp)  h100) kp
def B8x148 (x4 : AV) (h35 : Heap) (fu : Nat) (cl : CL) (kp : KP) (x2 : AV) (x8 : AV) (x6 : AV) (kr : KR) : Ans := LDN n2 x4 h35 fun x40 =>
 OPVH (newMap Pr 55 h35) fun x41 h42 =>
 OPVH (newMap Pr 56 h42) fun x43 h44 =>
 OV (buildA Pr 59 [(n0, x40), (n2, x41), (n4, x43)]) fun x45 =>
 BOX 59 x45 h44 fun x46 h47 =>
 FA n0 x4 fun x48 =>
 LD x48 h47 fun x49 =>
 LENS x49 fun x50 =>
 LP fu (fun _ _ => Ans.no) (fun j53 x51 h52 =>
 LSS Pr 3 false x51 x50 fun x54 =>
 IFB x54 (B8x74 x46 h52 cl x4 x51 j53 kp)
 (B8x147 x4 h52 x46 x2 cl x8 fu kp x6 kr)) (.int .i64 n0) h47
def B8x151 (x29 : AV) (x6 : AV) (kr : KR) (x4 : AV) (fu : Nat) (cl : CL) (kp : KP) (x2 : AV) (x8 : AV) (x32 : AV) (h33 : Heap) : Ans := JO (fun x34 h35 =>
 SEL x29 (.bool true) x34 fun x36 =>
 IFB x36 (OV (buildA Pr 28 [(n0, (.int .i64 n13))]) fun x37 =>
 ST n6 x6 x37 h35 fun h38 =>
 LDN n6 x6 h38 fun x39 =>
 kr x39 h38)
 (B8x148 x4 h35 fu cl kp x2 x8 x6 kr)) fun j149 =>
 GW false x29 (OV (unOpA .not x32) fun x150 =>
 j149 x150 h33)
 (j149 undefA h33)
def B8x158 (x24 : AV) (x27 : AV) (x6 : AV) (kr : KR) (x4 : AV) (fu : Nat) (cl : CL) (kp : KP) (x2 : AV) (x8 : AV) (h28 : Heap) : Ans := SEL x24 (.bool true) x27 fun x29 =>
 JO (fun x30 h31 =>
 JO (fun x32 h33 =>
 B8x151 x29 x6 kr x4 fu cl kp x2 x8 x32 h33) fun j152 =>
 GW false x29 (cl n24 [x30, (.int .i64 n0), (.int .i64 (nat_lit 20000))] h31 (fun x153 h154 =>
 j152 x153 h154) kp)
 (j152 undefA h31)) fun j157 =>
 GW false x29 (j157 x2 h28)
 (j157 undefA h28)
def B8x165 (x17 : AV) (x22 : AV) (x6 : AV) (kr : KR) (x4 : AV) (fu : Nat) (cl : CL) (kp : KP) (x2 : AV) (x8 : AV) (h23 : Heap) : Ans := SEL x17 (.bool true) x22 fun x24 =>
 JO (fun x25 h26 =>
 JO (fun x27 h28 =>
 B8x158 x24 x27 x6 kr x4 fu cl kp x2 x8 h28) fun j159 =>
 GW false x24 (cl n22 [x25, (.func (.func 23) [] [])] h26 (fun x160 h161 =>
 j159 x160 h161) kp)
 (j159 undefA h26)) fun j164 =>
 GW false x24 (j164 x8 h23)
 (j164 undefA h23)
def F8 (fu : Nat) (oR : Orc) (cl : CL) (args : List AV) (h3 : Heap) (kr : KR) (kp : KP) : Ans := AR3 args fun x0 x1 x2 =>
 BOX 33 x0 h3 fun x4 h5 =>
 NEWC (.n (some (.int .i64 n0)) (.n (some (.int .i64 n0)) (.n (some (.int .i64 n0)) .e .e) (.n (some (.nilslice)) .e .e)) (.n (some (.str n0 n0)) (.n (some (.nilslice)) .e .e) .e)) n6 28 h5 fun x6 h7 =>
 cl n20 [x1] h7 (fun x8 h9 =>
 LDN n2 x4 h9 fun x12 =>
 cl n21 [x12] h9 (fun x13 h14 =>
 OV (unOpA .not x13) fun x17 =>
 JO (fun x18 h19 =>
 JO (fun x20 h21 =>
 JO (fun x22 h23 =>
 B8x165 x17 x22 x6 kr x4 fu cl kp x2 x8 h23) fun j166 =>
 GW false x17 (GTR Pr 3 true x20 (.int .i64 n3000) fun x167 =>
 j166 x167 h21)
 (j166 undefA h21)) fun j168 =>
 GW false x17 (LENT x18 fun x169 =>
 j168 x169 h19)
 (j168 undefA h19)) fun j170 =>
 GW false x17 (j170 x1 h14)
 (j170 undefA h14)) kp) kp

theorem eqF8 : F8 = fun fu oR => compF Pr fu oR 8 3 := by kernel_rfl

def F9 (fu : Nat) (oR : Orc) (cl : CL) (args : List AV) (h1 : Heap) (kr : KR) (kp : KP) : Ans := AR1 args fun x0 =>
 NEWC (.n (some (.nilslice)) (.n (some (.nilslice)) .e .e) .e) n2 33 h1 fun x2 h3 =>
 cl n28 [x0] h3 (fun x4 h5 =>
 EX n0 x4 fun x8 =>
 EX n1 x4 fun x9 =>
 NEWC (.n (some (.nilslice)) (.n (some (.nilslice)) .e .e) .e) n2 33 h5 fun x10 h11 =>
 ST n2 x10 x8 h11 fun h12 =>
 LDN n2 x10 h12 fun x13 =>
 ST n2 x2 x13 h12 fun h14 =>
 LDN n2 x2 h14 fun x15 =>
 kr x15 h14) kp

theorem eqF9 : F9 = fun fu oR => compF Pr fu oR 9 1 := by kernel_rfl

def B10x57 (x37 : AV) (kr : KR) (x42 : AV) (h43 : Heap) : Ans := JO (fun x44 h45 =>
 JO (fun x46 h47 =>
 JO (fun x48 h49 =>
 SEL x37 x48 (.bool false) fun x50 =>
 kr x50 h49) fun j51 =>
 GW true x37 (EQL Pr 3 true x46 (.int .i64 n3) fun x52 =>
 j51 x52 h47)
 (j51 undefA h47)) fun j53 =>
 GW true x37 (LD x44 h45 fun x54 =>
 j53 x54 h45)
 (j53 undefA h45)) fun j55 =>
 GW true x37 (FA n3 x42 fun x56 =>
 j55 x56 h43)
 (j55 undefA h43)
def B10x64 (x28 : AV) (x35 : AV) (kr : KR) (x9 : AV) (h36 : Heap) : Ans := SEL x28 x35 (.bool false) fun x37 =>
 JO (fun x38 h39 =>
 JO (fun x40 h41 =>
 JO (fun x42 h43 =>
 B10x57 x37 kr x42 h43) fun j58 =>
 GW true x37 (SA n4 x40 (.int .i64 n0) fun x59 =>
 j58 x59 h41)
 (j58 undefA h41)) fun j60 =>
 GW true x37 (LD x38 h39 fun x61 =>
 j60 x61 h39)
 (j60 undefA h39)) fun j62 =>
 GW true x37 (FA n4 x9 fun x63 =>
 j62 x63 h36)
 (j62 undefA h36)
def B10x71 (x28 : AV) (kr : KR) (x9 : AV) (x29 : AV) (h30 : Heap) : Ans := JO (fun x31 h32 =>
 JO (fun x33 h34 =>
 JO (fun x35 h36 =>
 B10x64 x28 x35 kr x9 h36) fun j65 =>
 GW true x28 (EQL Pr 3 true x33 (.int .i64 n1) fun x66 =>
 j65 x66 h34)
 (j65 undefA h34)) fun j67 =>
 GW true x28 (LENS x31 fun x68 =>
 j67 x68 h32)
 (j67 undefA h32)) fun j69 =>
 GW true x28 (LD x29 h30 fun x70 =>
 j69 x70 h30)
 (j69 undefA h30)
def B10x78 (x21 : AV) (kr : KR) (x9 : AV) (x22 : AV) (h23 : Heap) : Ans := JO (fun x24 h25 =>
 JO (fun x26 h27 =>
 SEL x21 x26 (.bool false) fun x28 =>
 JO (fun x29 h30 =>
 B10x71 x28 kr x9 x29 h30) fun j72 =>
 GW true x28 (FA n4 x9 fun x73 =>
 j72 x73 h27)
 (j72 undefA h27)) fun j74 =>
 GW true x21 (GTR Pr 3 true x24 (.int .i64 n0) fun x75 =>
 j74 x75 h25)
 (j74 undefA h25)) fun j76 =>
 GW true x21 (LD x22 h23 fun x77 =>
 j76 x77 h23)
 (j76 undefA h23)
def B10x83 (x14 : AV) (kr : KR) (x9 : AV) (x17 : AV) (h18 : Heap) : Ans := JO (fun x19 h20 =>
 SEL x14 x19 (.bool false) fun x21 =>
 JO (fun x22 h23 =>
 B10x78 x21 kr x9 x22 h23) fun j79 =>
 GW true x21 (FA n3 x9 fun x80 =>
 j79 x80 h20)
 (j79 undefA h20)) fun j81 =>
 GW true x14 (EQL Pr 9 true x17 (.str n6 (nat_lit 11210404998707)) fun x82 =>
 j81 x82 h18)
 (j81 undefA h18)
def F10 (fu : Nat) (oR : Orc) (cl : CL) (args : List AV) (h0 : Heap) (kr : KR) (kp : KP) : Ans := AR0 args <|
 cl n9 [(.str n33 (nat_lit 14488589977845475424764176761743833233575297252101149920416841758886978143527035))] h0 (fun x1 h2 =>
 cl n8 [x1, (.str n10 (nat_lit 48204671023283088466017)), (.int .i64 n500)] h2 (fun x5 h6 =>
 NEWC (.n (some (.int .i64 n0)) (.n (some (.int .i64 n0)) (.n (some (.int .i64 n0)) .e .e) (.n (some (.nilslice)) .e .e)) (.n (some (.str n0 n0)) (.n (some (.nilslice)) .e .e) .e)) n6 28 h6 fun x9 h10 =>
 ST n6 x9 x5 h10 fun h11 =>
 FA n0 x9 fun x12 =>
 LD x12 h11 fun x13 =>
 EQL Pr 3 true x13 (.int .i64 n0) fun x14 =>
 JO (fun x15 h16 =>
 JO (fun x17 h18 =>
 B10x83 x14 kr x9 x17 h18) fun j84 =>
 GW true x14 (LD x15 h16 fun x85 =>
 j84 x85 h16)
 (j84 undefA h16)) fun j86 =>
 GW true x14 (FA n2 x9 fun x87 =>
 j86 x87 h11)
 (j86 undefA h11)) kp) kp

theorem eqF10 : F10 = fun fu oR => compF Pr fu oR 10 0 := by kernel_rfl

def F17 (fu : Nat) (oR : Orc) (cl : CL) (args : List AV) (h1 : Heap) (kr : KR) (kp : KP) : Ans := AR1 args fun x0 =>
 GEQ Pr 3 true x0 (.int .i64 (nat_lit 18446735073709551616)) fun x2 =>
 JO (fun x3 h4 =>
 JO (fun x5 h6 =>
 SEL x2 x5 (.bool false) fun x7 =>
 kr x7 h6) fun j8 =>
 GW true x2 (LEQ Pr 3 true x3 (.int .i64 (nat_lit 9000000000000)) fun x9 =>
 j8 x9 h4)
 (j8 undefA h4)) fun j10 =>
 GW true x2 (j10 x0 h1)
 (j10 undefA h1)

theorem eqF17 : F17 = fun fu oR => compF Pr fu oR 17 1 := by kernel_rfl

def F18 (fu : Nat) (oR : Orc) (cl : CL) (args : List AV) (h1 : Heap) (kr : KR) (kp : KP) : Ans := AR1 args fun x0 =>
 BOP Pr .rem 3 true x0 (.int .i64 n10) fun x2 =>
 ADD Pr 3 true (.int .i64 n48) x2 fun x3 =>
 OV (convV Pr h1 3 5 x3) fun x4 =>
 BSL n5 n1 [(.int .u8 n0)] n1 [(n0, x4)] h1 fun x5 h6 =>
 OV (convV Pr h6 22 9 x5) fun x7 =>
 LSS Pr 3 true x0 (.int .i64 n10) fun x8 =>
 IFB x8 (kr x7 h6)
 (BOP Pr .quo 3 true x0 (.int .i64 n10) fun x9 =>
 cl n18 [x9] h6 (fun x10 h11 =>
 ADD Pr 9 false x10 x7 fun x14 =>
 kr x14 h11) kp)

theorem eqF18 : F18 = fun fu oR => compF Pr fu oR 18 1 := by kernel_rfl

def F19 (fu : Nat) (oR : Orc) (cl : CL) (args : List AV) (h1 : Heap) (kr : KR) (kp : KP) : Ans := AR1 args fun x0 =>
 LSS Pr 3 true x0 (.int .i64 n0) fun x2 =>
 IFB x2 (OV (unOpA .neg x0) fun x3 =>
 kr x3 h1)
 (kr x0 h1)

theorem eqF19 : F19 = fun fu oR => compF Pr fu oR 19 1 := by kernel_rfl

def F20 (fu : Nat) (oR : Orc) (cl : CL) (args : List AV) (h1 : Heap) (kr : KR) (kp : KP) : Ans := AR1 args fun x0 =>
 LENT x0 fun x2 =>
 GTR Pr 3 true x2 (.int .i64 n3000) fun x3 =>
 IFB x3 (kr (.nilslice) h1)
 (cl n36 [x0] h1 (fun x4 h5 =>
 kr x4 h5) kp)

theorem eqF20 : F20 = fun fu oR => compF Pr fu oR 20 1 := by kernel_rfl

def B21x38 (cl : CL) (x9 : AV) (h6 : Heap) (kr : KR) (kp : KP) (x2 : AV) : Ans := cl n38 [x9] h6 (fun x12 h13 =>
 EX n0 x12 fun x16 =>
 EX n1 x12 fun x17 =>
 NEWC (.n (some (.nilslice)) (.n (some (.nilslice)) .e .e) .e) n2 33 h13 fun x18 h19 =>
 ST n2 x18 x16 h19 fun h20 =>
 LSS Pr 3 true x17 (.int .i64 n0) fun x21 =>
 JO (fun x22 h23 =>
 JO (fun x24 h25 =>
 JO (fun x26 h27 =>
 SEL x21 x26 (.bool false) fun x28 =>
 kr x28 h27) fun j29 =>
 GW true x21 (cl n39 [x22, x24] h25 (fun x30 h31 =>
 j29 x30 h31) kp)
 (j29 undefA h25)) fun j34 =>
 GW true x21 (LDN n2 x18 h23 fun x35 =>
 j34 x35 h23)
 (j34 undefA h23)) fun j36 =>
 GW true x21 (LDN n2 x2 h20 fun x37 =>
 j36 x37 h20)
 (j36 undefA h20)) kp
def F21 (fu : Nat) (oR : Orc) (cl : CL) (args : List AV) (h1 : Heap) (kr : KR) (kp : KP) : Ans := AR1 args fun x0 =>
 BOX 33 x0 h1 fun x2 h3 =>
 LDN n2 x2 h3 fun x4 =>
 cl n37 [x4] h3 (fun x5 h6 =>
 EX n0 x5 fun x9 =>
 EX n1 x5 fun x10 =>
 OV (unOpA .not x10) fun x11 =>
 IFB x11 (kr (.bool false) h6)
 (B21x38 cl x9 h6 kr kp x2)) kp

theorem eqF21 : F21 = fun fu oR => compF Pr fu oR 21 1 := by kernel_rfl

def F22 (fu : Nat) (oR : Orc) (cl : CL) (args : List AV) (h2 : Heap) (kr : KR) (kp : KP) : Ans := AR2 args fun x0 x1 =>
 cl n40 [x0, x1] h2 (fun x3 h4 =>
 GEQ Pr 3 true x3 (.int .i64 n0) fun x7 =>
 kr x7 h4) kp

theorem eqF22 : F22 = fun fu oR => compF Pr fu oR 22 2 := by kernel_rfl

def F23 (fu : Nat) (oR : Orc) (cl : CL) (args : List AV) (h1 : Heap) (kr : KR) (kp : KP) : Ans := AR1 args fun x0 =>
 LENT x0 fun x2 =>
 GTR Pr 3 true x2 (.int .i64 n500) fun x3 =>
 kr x3 h1

theorem eqF23 : F23 = fun fu oR => compF Pr fu oR 23 1 := by kernel_rfl

def F24 (fu : Nat) (oR : Orc) (cl : CL) (args : List AV) (h3 : Heap) (kr : KR) (kp : KP) : Ans := AR3 args fun x0 x1 x2 =>
 GEQ Pr 3 false x0 x1 fun x4 =>
 JO (fun x5 h6 =>
 JO (fun x7 h8 =>
 JO (fun x9 h10 =>
 SEL x4 x9 (.bool false) fun x11 =>
 kr x11 h10) fun j12 =>
 GW true x4 (LEQ Pr 3 false x5 x7 fun x13 =>
 j12 x13 h8)
 (j12 undefA h8)) fun j14 =>
 GW true x4 (j14 x2 h6)
 (j14 undefA h6)) fun j15 =>
 GW true x4 (j15 x0 h3)
 (j15 undefA h3)

theorem eqF24 : F24 = fun fu oR => compF Pr fu oR 24 3 := by kernel_rfl

def F25 (fu : Nat) (oR : Orc) (cl : CL) (args : List AV) (h2 : Heap) (kr : KR) (kp : KP) : Ans := AR2 args fun x0 x1 =>
 BOX 3 x1 h2 fun x3 h4 =>
 NEWC (.n (some (.int .i64 n0)) (.n (some (.str n0 n0)) (.n (some (.int .i64 n0)) .e .e) .e) (.n (some (.nilslice)) (.n (some (.int .i64 n0)) .e .e) .e)) n5 61 h4 fun x5 h6 =>
 NC x0 fun x7 =>
 FA n1 x7 fun x8 =>
 LD x8 h6 fun x9 =>
 NC x0 fun x10 =>
 FA n1 x10 fun x11 =>
 LD x11 h6 fun x12 =>
 cl n41 [x12, (.func (.func 42) [] [x3])] h6 (fun x13 h14 =>
 LD x8 h14 fun x17 =>
 EQV x9 x17 <|
 SA n5 x9 x13 fun x18 =>
 LDN n5 x18 h14 fun x19 =>
 ST n5 x5 x19 h14 fun h20 =>
 LDN n5 x5 h20 fun x21 =>
 kr x21 h20) kp

theorem eqF25 : F25 = fun fu oR => compF Pr fu oR 25 2 := by kernel_rfl

def B26x54 (x1 : AV) (x16 : AV) (h17 : Heap) (x3 : AV) (cl : CL) (d18 : Dfr) (kr : KR) (oR : Orc) (kp : KP) (j19 : AV → Heap → Dfr → Ans) : Ans := SA n1 x1 x16 fun x21 =>
 LD x21 h17 fun x22 =>
 LD x3 h17 fun x23 =>
 NC x23 fun x24 =>
 FA n8 x24 fun x25 =>
 LD x25 h17 fun x26 =>
 ADD Pr 3 true x26 (.int .i64 n1) fun x27 =>
 NC x23 fun x28 =>
 FA n8 x28 fun x29 =>
 ST n1 x29 x27 h17 fun h30 =>
 LD x3 h30 fun x31 =>
 LD x3 h30 fun x32 =>
 cl n45 [x22] h30 (fun x33 h34 =>
 LD x3 h34 fun x37 =>
 EQV x32 x37 <|
 LD x3 h34 fun x38 =>
 EQV x31 x38 <|
 NC x31 fun x39 =>
 FA n6 x39 fun x40 =>
 ST n1 x40 x22 h34 fun h41 =>
 LD x3 h41 fun x42 =>
 EQV x32 x42 <|
 NC x32 fun x43 =>
 FA n7 x43 fun x44 =>
 ST n1 x44 x33 h41 fun h45 =>
 LD x3 h45 fun x46 =>
 BSL n3 n1 [(.int .i64 n0), (.int .i64 n0)] n2 [(n0, (.int .i64 n2)), (n1, (.int .i64 n3))] h45 fun x47 h48 =>
 cl n44 [x46, x47] h48 (fun x49 h50 =>
 IFB x49 (ENDD d18 (kr (.tuple []) h50)
 (SLOW Pr oR 26 [] d18 .returning h50 kr kp))
 (ADD Pr 3 true x16 (.int .i64 n1) fun x53 =>
 j19 x53 h50 d18)) (fun c51 h52 => ENDD d18 (kp c51 h52)
 (SLOW Pr oR 26 [] d18 (.panicking c51) h52 kr kp))) (fun c35 h36 => ENDD d18 (kp c35 h36)
 (Ans.no))
def B26x62 (x3 : AV) (h17 : Heap) (cl : CL) (d18 : Dfr) (kr : KR) (oR : Orc) (kp : KP) : Ans := LD x3 h17 fun x55 =>
 BSL n3 n1 [(.int .i64 n0)] n1 [(n0, (.int .i64 n1))] h17 fun x56 h57 =>
 cl n44 [x55, x56] h57 (fun x58 h59 =>
 ENDD d18 (kr (.tuple []) h59)
 (SLOW Pr oR 26 [] d18 .returning h59 kr kp)) (fun c60 h61 => ENDD d18 (kp c60 h61)
 (SLOW Pr oR 26 [] d18 (.panicking c60) h61 kr kp))
def F26 (fu : Nat) (oR : Orc) (cl : CL) (args : List AV) (h2 : Heap) (kr : KR) (kp : KP) : Ans := AR2 args fun x0 x1 =>
 BOX 54 x0 h2 fun x3 h4 =>
 GDF (dfrV (some (.func (.func 43) [] [x3])) [] h4) fun i5 a6 h7 =>
 LD x3 h7 fun x8 =>
 BSL n3 n1 [(.int .i64 n0)] n1 [(n0, (.int .i64 n0))] h7 fun x9 h10 =>
 cl n44 [x8, x9] h10 (fun x11 h12 =>
 IFB x11 (ENDD ((i5, a6) :: []) (kr (.tuple []) h12)
 (SLOW Pr oR 26 [] ((i5, a6) :: []) .returning h12 kr kp))
 (LENS x1 fun x15 =>
 LP fu (fun _ _ _ => Ans.no) (fun j19 x16 h17 d18 =>
 LSS Pr 3 false x16 x15 fun x20 =>
 IFB x20 (B26x54 x1 x16 h17 x3 cl d18 kr oR kp j19)
 (B26x62 x3 h17 cl d18 kr oR kp)) (.int .i64 n0) h12 ((i5, a6) :: []))) (fun c13 h14 => ENDD ((i5, a6) :: []) (kp c13 h14)
 (SLOW Pr oR 26 [] ((i5, a6) :: []) (.panicking c13) h14 kr kp))

theorem eqF26 : F26 = fun fu oR => compF Pr fu oR 26 2 := by kernel_rfl

def F27 (fu : Nat) (oR : Orc) (cl : CL) (args : List AV) (h1 : Heap) (kr : KR) (kp : KP) : Ans := AR1 args fun x0 =>
 cl n46 [x0, (.func (.func 47) [] [])] h1 (fun x2 h3 =>
 kr (.tuple []) h3) kp

theorem eqF27 : F27 = fun fu oR => compF Pr fu oR 27 1 := by kernel_rfl

def B28x53 (cl : CL) (x26 : AV) (h27 : Heap) (x0 : AV) (x2 : AV) (kr : KR) (x10 : AV) (kp : KP) : Ans := cl n51 [x26] h27 (fun x36 h37 =>
 EX n0 x36 fun x40 =>
 EX n1 x36 fun x41 =>
 NEWC (.n (some (.nilslice)) (.n (some (.nilslice)) .e .e) .e) n2 33 h37 fun x42 h43 =>
 ST n2 x42 x40 h43 fun h44 =>
 GEQ Pr 3 true x41 (.int .i64 n0) fun x45 =>
 IFB x45 (OV (buildA Pr 33 []) fun x46 =>
 LENT x0 fun x47 =>
 ST n2 x2 x46 h44 fun h48 =>
 LDN n2 x2 h48 fun x49 =>
 kr (.tuple [x49, x47]) h48)
 (LDN n2 x10 h44 fun x50 =>
 ST n2 x2 x50 h44 fun h51 =>
 LDN n2 x2 h51 fun x52 =>
 kr (.tuple [x52, (.int .i64 (nat_lit 18446744073709551615))]) h51)) kp
def B28x54 (x10 : AV) (h12 : Heap) (cl : CL) (x0 : AV) (x2 : AV) (kr : KR) (kp : KP) : Ans := LDN n2 x10 h12 fun x25 =>
 cl n52 [x25] h12 (fun x26 h27 =>
 LENT x26 fun x30 =>
 GTR Pr 3 true x30 (.int .i64 n4000) fun x31 =>
 IFB x31 (OV (buildA Pr 33 []) fun x32 =>
 LENT x0 fun x33 =>
 ST n2 x2 x32 h27 fun h34 =>
 LDN n2 x2 h34 fun x35 =>
 kr (.tuple [x35, x33]) h34)
 (B28x53 cl x26 h27 x0 x2 kr x10 kp)) kp
def B28x55 (x10 : AV) (h12 : Heap) (x0 : AV) (x2 : AV) (kr : KR) (cl : CL) (kp : KP) : Ans := FA n0 x10 fun x17 =>
 LD x17 h12 fun x18 =>
 LENS x18 fun x19 =>
 GTR Pr 3 true x19 (.int .i64 n800) fun x20 =>
 IFB x20 (OV (buildA Pr 33 []) fun x21 =>
 LENT x0 fun x22 =>
 ST n2 x2 x21 h12 fun h23 =>
 LDN n2 x2 h23 fun x24 =>
 kr (.tuple [x24, x22]) h23)
 (B28x54 x10 h12 cl x0 x2 kr kp)
def F28 (fu : Nat) (oR : Orc) (cl : CL) (args : List AV) (h1 : Heap) (kr : KR) (kp : KP) : Ans := AR1 args fun x0 =>
 NEWC (.n (some (.nilslice)) (.n (some (.nilslice)) .e .e) .e) n2 33 h1 fun x2 h3 =>
 cl n51 [x0] h3 (fun x4 h5 =>
 EX n0 x4 fun x8 =>
 EX n1 x4 fun x9 =>
 NEWC (.n (some (.nilslice)) (.n (some (.nilslice)) .e .e) .e) n2 33 h5 fun x10 h11 =>
 ST n2 x10 x8 h11 fun h12 =>
 GEQ Pr 3 true x9 (.int .i64 n0) fun x13 =>
 IFB x13 (OV (buildA Pr 33 []) fun x14 =>
 ST n2 x2 x14 h12 fun h15 =>
 LDN n2 x2 h15 fun x16 =>
 kr (.tuple [x16, x9]) h15)
 (B28x55 x10 h12 x0 x2 kr cl kp)) kp

theorem eqF28 : F28 = fun fu oR => compF Pr fu oR 28 1 := by kernel_rfl

def F36 (fu : Nat) (oR : Orc) (cl : CL) (args : List AV) (h1 : Heap) (kr : KR) (kp : KP) : Ans := AR1 args fun x0 =>
 cl n56 [x0, (.str n1 n10)] h1 (fun x2 h3 =>
 JO (fun x6 h7 =>
 kr x6 h7) fun j8 =>
 LENS x2 fun x9 =>
 SUB Pr 3 true x9 (.int .i64 n1) fun x10 =>
 SA n1 x2 x10 fun x11 =>
 LD x11 h3 fun x12 =>
 EQL Pr 9 true x12 (.str n0 n0) fun x13 =>
 IFB x13 (OV (sliceA Pr 48 x2 none (some x10) none) fun x14 =>
 j8 x14 h3)
 (j8 x2 h3)) kp

theorem eqF36 : F36 = fun fu oR => compF Pr fu oR 36 1 := by kernel_rfl

def B37x29 (x9 : AV) (x11 : AV) (h12 : Heap) (cl : CL) (x6 : AV) (kr : KR) (j13 : AV → Heap → Ans) (kp : KP) : Ans := SA n5 x9 x11 fun x15 =>
 LDN n5 x15 h12 fun x16 =>
 NEWC (.n (some (.int .i64 n0)) (.n (some (.str n0 n0)) (.n (some (.int .i64 n0)) .e .e) .e) (.n (some (.nilslice)) (.n (some (.int .i64 n0)) .e .e) .e)) n5 61 h12 fun x17 h18 =>
 ST n5 x17 x16 h18 fun h19 =>
 LDN n5 x17 h19 fun x20 =>
 cl n57 [x6, x20] h19 (fun x21 h22 =>
 NC x6 fun x25 =>
 FA n4 x25 fun x26 =>
 LD x26 h22 fun x27 =>
 IFB x27 (kr (.tuple [(.str n0 n0), (.bool false)]) h22)
 (ADD Pr 3 true x11 (.int .i64 n1) fun x28 =>
 j13 x28 h22)) kp
def F37 (fu : Nat) (oR : Orc) (cl : CL) (args : List AV) (h1 : Heap) (kr : KR) (kp : KP) : Ans := AR1 args fun x0 =>
 BOX 33 x0 h1 fun x2 h3 =>
 LDN n2 x2 h3 fun x4 =>
 OV (buildA Pr 102 [(n0, x4)]) fun x5 =>
 BOX 102 x5 h3 fun x6 h7 =>
 FA n1 x2 fun x8 =>
 LD x8 h7 fun x9 =>
 LENS x9 fun x10 =>
 LP fu (fun _ _ => Ans.no) (fun j13 x11 h12 =>
 LSS Pr 3 false x11 x10 fun x14 =>
 IFB x14 (B37x29 x9 x11 h12 cl x6 kr j13 kp)
 (NC x6 fun x30 =>
 FA n2 x30 fun x31 =>
 cl n58 [x31] h12 (fun x32 h33 =>
 kr (.tuple [x32, (.bool true)]) h33) kp)) (.int .i64 n0) h7

theorem eqF37 : F37 = fun fu oR => compF Pr fu oR 37 1 := by kernel_rfl

def B38x46 (cl : CL) (x22 : AV) (h19 : Heap) (x0 : AV) (x2 : AV) (kr : KR) (x10 : AV) (kp : KP) : Ans := cl n59 [x22] h19 (fun x29 h30 =>
 EX n0 x29 fun x33 =>
 EX n1 x29 fun x34 =>
 NEWC (.n (some (.nilslice)) (.n (some (.nilslice)) .e .e) .e) n2 33 h30 fun x35 h36 =>
 ST n2 x35 x33 h36 fun h37 =>
 GEQ Pr 3 true x34 (.int .i64 n0) fun x38 =>
 IFB x38 (OV (buildA Pr 33 []) fun x39 =>
 LENT x0 fun x40 =>
 ST n2 x2 x39 h37 fun h41 =>
 LDN n2 x2 h41 fun x42 =>
 kr (.tuple [x42, x40]) h41)
 (LDN n2 x10 h37 fun x43 =>
 ST n2 x2 x43 h37 fun h44 =>
 LDN n2 x2 h44 fun x45 =>
 kr (.tuple [x45, (.int .i64 (nat_lit 18446744073709551615))]) h44)) kp
def B38x47 (x10 : AV) (h12 : Heap) (cl : CL) (x0 : AV) (x2 : AV) (kr : KR) (kp : KP) : Ans := LDN n2 x10 h12 fun x17 =>
 cl n37 [x17] h12 (fun x18 h19 =>
 EX n0 x18 fun x22 =>
 EX n1 x18 fun x23 =>
 OV (unOpA .not x23) fun x24 =>
 IFB x24 (OV (buildA Pr 33 []) fun x25 =>
 LENT x0 fun x26 =>
 ST n2 x2 x25 h19 fun h27 =>
 LDN n2 x2 h27 fun x28 =>
 kr (.tuple [x28, x26]) h27)
 (B38x46 cl x22 h19 x0 x2 kr x10 kp)) kp
def F38 (fu : Nat) (oR : Orc) (cl : CL) (args : List AV) (h1 : Heap) (kr : KR) (kp : KP) : Ans := AR1 args fun x0 =>
 NEWC (.n (some (.nilslice)) (.n (some (.nilslice)) .e .e) .e) n2 33 h1 fun x2 h3 =>
 cl n59 [x0] h3 (fun x4 h5 =>
 EX n0 x4 fun x8 =>
 EX n1 x4 fun x9 =>
 NEWC (.n (some (.nilslice)) (.n (some (.nilslice)) .e .e) .e) n2 33 h5 fun x10 h11 =>
 ST n2 x10 x8 h11 fun h12 =>
 GEQ Pr 3 true x9 (.int .i64 n0) fun x13 =>
 IFB x13 (OV (buildA Pr 33 []) fun x14 =>
 ST n2 x2 x14 h12 fun h15 =>
 LDN n2 x2 h15 fun x16 =>
 kr (.tuple [x16, x9]) h15)
 (B38x47 x10 h12 cl x0 x2 kr kp)) kp

theorem eqF38 : F38 = fun fu oR => compF Pr fu oR 38 1 := by kernel_rfl

def B39x35 (x11 : AV) (kr : KR) (cl : CL) (x17 : AV) (kp : KP) (x5 : AV) (h18 : Heap) : Ans := JO (fun x19 h20 =>
 JO (fun x21 h22 =>
 JO (fun x23 h24 =>
 SEL x11 x23 (.bool false) fun x25 =>
 kr x25 h24) fun j26 =>
 GW true x11 (cl n63 [x17, x21, (.func (.func 64) [] [])] h22 (fun x27 h28 =>
 j26 x27 h28) kp)
 (j26 undefA h22)) fun j31 =>
 GW true x11 (LD x19 h20 fun x32 =>
 j31 x32 h20)
 (j31 undefA h20)) fun j33 =>
 GW true x11 (FA n1 x5 fun x34 =>
 j33 x34 h18)
 (j33 undefA h18)
def F39 (fu : Nat) (oR : Orc) (cl : CL) (args : List AV) (h2 : Heap) (kr : KR) (kp : KP) : Ans := AR2 args fun x0 x1 =>
 BOX 33 x0 h2 fun x3 h4 =>
 BOX 33 x1 h4 fun x5 h6 =>
 FA n0 x3 fun x7 =>
 LD x7 h6 fun x8 =>
 FA n0 x5 fun x9 =>
 LD x9 h6 fun x10 =>
 cl n60 [x8, x10, (.func (.func 61) [] [])] h6 (fun x11 h12 =>
 JO (fun x15 h16 =>
 JO (fun x17 h18 =>
 B39x35 x11 kr cl x17 kp x5 h18) fun j36 =>
 GW true x11 (LD x15 h16 fun x37 =>
 j36 x37 h16)
 (j36 undefA h16)) fun j38 =>
 GW true x11 (FA n1 x3 fun x39 =>
 j38 x39 h12)
 (j38 undefA h12)) kp

theorem eqF39 : F39 = fun fu oR => compF Pr fu oR 39 2 := by kernel_rfl

def F40 (fu : Nat) (oR : Orc) (cl : CL) (args : List AV) (h2 : Heap) (kr : KR) (kp : KP) : Ans := AR2 args fun x0 x1 =>
 LENS x0 fun x3 =>
 LP fu (fun _ _ => Ans.no) (fun j6 x4 h5 =>
 LSS Pr 3 false x4 x3 fun x7 =>
 IFB x7 (SA n1 x0 x4 fun x8 =>
 LD x8 h5 fun x9 =>
 GEN (callV Pr (some x1) [x9] h5) cl (fun x10 h11 =>
 IFB x10 (kr x4 h11)
 (ADD Pr 3 true x4 (.int .i64 n1) fun x14 =>
 j6 x14 h11)) kp)
 (kr (.int .i64 (nat_lit 18446744073709551615)) h5)) (.int .i64 n0) h2

theorem eqF40 : F40 = fun fu oR => compF Pr fu oR 40 2 := by kernel_rfl

def F41 (fu : Nat) (oR : Orc) (cl : CL) (args : List AV) (h2 : Heap) (kr : KR) (kp : KP) : Ans := AR2 args fun x0 x1 =>
 LENS x0 fun x3 =>
 LP fu (fun _ _ => Ans.no) (fun j6 x4 h5 =>
 LSS Pr 3 false x4 x3 fun x7 =>
 IFB x7 (SA n5 x0 x4 fun x8 =>
 LDN n5 x8 h5 fun x9 =>
 GEN (callV Pr (some x1) [x9] h5) cl (fun x10 h11 =>
 IFB x10 (kr x4 h11)
 (ADD Pr 3 true x4 (.int .i64 n1) fun x14 =>
 j6 x14 h11)) kp)
 (kr (.int .i64 (nat_lit 18446744073709551615)) h5)) (.int .i64 n0) h2

theorem eqF41 : F41 = fun fu oR => compF Pr fu oR 41 2 := by kernel_rfl

def F42 (fu : Nat) (oR : Orc) (cl : CL) (args : List AV) (h2 : Heap) (kr : KR) (kp : KP) : Ans := AR2 args fun x0 x1 =>
 BOX 61 x0 h2 fun x3 h4 =>
 FA n4 x3 fun x5 =>
 LD x5 h4 fun x6 =>
 LD x1 h4 fun x7 =>
 GEQ Pr 3 false x6 x7 fun x8 =>
 kr x8 h4

theorem eqF42 : F42 = fun fu oR => compF Pr fu oR 42 2 := by kernel_rfl

def B44x44 (x29 : AV) (kr : KR) (j14 : Heap → Ans) (cl : CL) (kp : KP) (x1 : AV) (h30 : Heap) : Ans := EQL Pr 3 true x29 (.int .i64 n4) fun x32 =>
 JO (fun x33 h34 =>
 JO (fun x35 h36 =>
 SEL x32 x35 (.bool false) fun x37 =>
 IFB x37 (kr (.bool false) h36)
 (j14  h36)) fun j38 =>
 GW true x32 (cl n66 [x33, (.int .i64 n2)] h34 (fun x39 h40 =>
 j38 x39 h40) kp)
 (j38 undefA h34)) fun j43 =>
 GW true x32 (j43 x1 h30)
 (j43 undefA h30)
def B44x53 (kr : KR) (j14 : Heap → Ans) (cl : CL) (kp : KP) (x1 : AV) (x27 : AV) (x17 : AV) (h28 : Heap) (x0 : AV) : Ans := JO (fun x29 h30 =>
 EQL Pr 3 true x29 (.int .i64 n5) fun x31 =>
 IFB x31 (kr (.bool true) h30)
 (B44x44 x29 kr j14 cl kp x1 h30)) fun j45 =>
 EQL Pr 3 true x27 (.int .i64 n0) fun x46 =>
 IFB x46 (FA n4 x17 fun x47 =>
 LD x47 h28 fun x48 =>
 cl n68 [x0, x48] h28 (fun x49 h50 =>
 j45 x49 h50) kp)
 (j45 x27 h28)
def B44x75 (x17 : AV) (h23 : Heap) (cl : CL) (x0 : AV) (j14 : Heap → Ans) (j54 : AV → Heap → Ans) (kp : KP) : Ans := FA n3 x17 fun x58 =>
 LD x58 h23 fun x59 =>
 cl n67 [x0, x59] h23 (fun x60 h61 =>
 EX n0 x60 fun x64 =>
 EX n1 x60 fun x65 =>
 EQL Pr 3 true x65 (.int .i64 n0) fun x66 =>
 JO (fun x67 h68 =>
 JO (fun x69 h70 =>
 SEL x66 x69 (.bool false) fun x71 =>
 IFB x71 (j14  h70)
 (j54 x65 h70)) fun j72 =>
 GW true x66 (OV (unOpA .not x67) fun x73 =>
 j72 x73 h68)
 (j72 undefA h68)) fun j74 =>
 GW true x66 (j74 x64 h61)
 (j74 undefA h61)) kp
def B44x76 (x8 : AV) (j10 : AV → Heap → Ans) (x6 : AV) (h9 : Heap) (cl : CL) (x1 : AV) (kr : KR) (kp : KP) (x0 : AV) : Ans := JO (fun h12 =>
 ADD Pr 3 true x8 (.int .i64 n1) fun x13 =>
 j10 x13 h12) fun j14 =>
 SA n5 x6 x8 fun x15 =>
 LDN n5 x15 h9 fun x16 =>
 NEWC (.n (some (.int .i64 n0)) (.n (some (.str n0 n0)) (.n (some (.int .i64 n0)) .e .e) .e) (.n (some (.nilslice)) (.n (some (.int .i64 n0)) .e .e) .e)) n5 61 h9 fun x17 h18 =>
 ST n5 x17 x16 h18 fun h19 =>
 FA n0 x17 fun x20 =>
 LD x20 h19 fun x21 =>
 cl n66 [x1, x21] h19 (fun x22 h23 =>
 OV (unOpA .not x22) fun x26 =>
 IFB x26 (j14  h23)
 (JO (fun x27 h28 =>
 B44x53 kr j14 cl kp x1 x27 x17 h28 x0) fun j54 =>
 FA n0 x17 fun x55 =>
 LD x55 h23 fun x56 =>
 EQL Pr 3 true x56 (.int .i64 n3) fun x57 =>
 IFB x57 (B44x75 x17 h23 cl x0 j14 j54 kp)
 (j54 (.int .i64 n0) h23))) kp
def F44 (fu : Nat) (oR : Orc) (cl : CL) (args : List AV) (h2 : Heap) (kr : KR) (kp : KP) : Ans := AR2 args fun x0 x1 =>
 NC x0 fun x3 =>
 FA n0 x3 fun x4 =>
 FA n1 x4 fun x5 =>
 LD x5 h2 fun x6 =>
 LENS x6 fun x7 =>
 LP fu (fun _ _ => Ans.no) (fun j10 x8 h9 =>
 LSS Pr 3 false x8 x7 fun x11 =>
 IFB x11 (B44x76 x8 j10 x6 h9 cl x1 kr kp x0)
 (kr (.bool false) h9)) (.int .i64 n0) h2

theorem eqF44 : F44 = fun fu oR => compF Pr fu oR 44 2 := by kernel_rfl

def F45 (fu : Nat) (oR : Orc) (cl : CL) (args : List AV) (h1 : Heap) (kr : KR) (kp : KP) : Ans := AR1 args fun x0 =>
 LENT x0 fun x2 =>
 GTR Pr 3 true x2 (.int .i64 n500) fun x3 =>
 IFB x3 (kr (.nilslice) h1)
 (cl n69 [x0, (.func (.func 70) [] [])] h1 (fun x4 h5 =>
 LENS x4 fun x8 =>
 OPV (builtinF .min Pr [3, 3] [x8, (.int .i64 n50)] h5) fun x9 =>
 OV (sliceA Pr 48 x4 none (some x9) none) fun x10 =>
 kr x10 h5) kp)

theorem eqF45 : F45 = fun fu oR => compF Pr fu oR 45 1 := by kernel_rfl

def F46 (fu : Nat) (oR : Orc) (cl : CL) (args : List AV) (h2 : Heap) (kr : KR) (kp : KP) : Ans := AR2 args fun x0 x1 =>
 LENS x0 fun x3 =>
 OV (convV Pr h2 3 121 x3) fun x4 =>
 cl n72 [x4] h2 (fun x5 h6 =>
 cl n71 [x0, (.int .i64 n0), x3, x5, x1] h6 (fun x9 h10 =>
 kr (.tuple []) h10) kp) kp

theorem eqF46 : F46 = fun fu oR => compF Pr fu oR 46 2 := by kernel_rfl

def F47 (fu : Nat) (oR : Orc) (cl : CL) (args : List AV) (h2 : Heap) (kr : KR) (kp : KP) : Ans := AR2 args fun x0 x1 =>
 BOX 65 x0 h2 fun x3 h4 =>
 BOX 65 x1 h4 fun x5 h6 =>
 FA n0 x3 fun x7 =>
 LD x7 h6 fun x8 =>
 FA n0 x5 fun x9 =>
 LD x9 h6 fun x10 =>
 FA n1 x3 fun x11 =>
 LD x11 h6 fun x12 =>
 FA n1 x5 fun x13 =>
 LD x13 h6 fun x14 =>
 FA n2 x3 fun x15 =>
 LD x15 h6 fun x16 =>
 FA n2 x5 fun x17 =>
 LD x17 h6 fun x18 =>
 cl n49 [x8, x10] h6 (fun x19 h20 =>
 LD x17 h20 fun x23 =>
 EQV x18 x23 <|
 LD x15 h20 fun x24 =>
 EQV x16 x24 <|
 LD x13 h20 fun x25 =>
 EQV x14 x25 <|
 LD x11 h20 fun x26 =>
 EQV x12 x26 <|
 cl n49 [x12, x14] h20 (fun x27 h28 =>
 LD x17 h28 fun x31 =>
 EQV x18 x31 <|
 LD x15 h28 fun x32 =>
 EQV x16 x32 <|
 cl n50 [x16, x18] h28 (fun x33 h34 =>
 BSL n3 n1 [(.int .i64 n0), (.int .i64 n0), (.int .i64 n0)] n3 [(n0, x19), (n1, x27), (n2, x33)] h34 fun x37 h38 =>
 cl n48 [x37] h38 (fun x39 h40 =>
 kr x39 h40) kp) kp) kp) kp

theorem eqF47 : F47 = fun fu oR => compF Pr fu oR 47 2 := by kernel_rfl

def F48 (fu : Nat) (oR : Orc) (cl : CL) (args : List AV) (h1 : Heap) (kr : KR) (kp : KP) : Ans := AR1 args fun x0 =>
 LENS x0 fun x2 =>
 LP fu (fun _ _ => Ans.no) (fun j5 x3 h4 =>
 LSS Pr 3 false x3 x2 fun x6 =>
 IFB x6 (SA n1 x0 x3 fun x7 =>
 LD x7 h4 fun x8 =>
 NEQ Pr 3 false x8 (.int .i64 n0) fun x9 =>
 IFB x9 (kr x8 h4)
 (ADD Pr 3 true x3 (.int .i64 n1) fun x10 =>
 j5 x10 h4))
 (kr (.int .i64 n0) h4)) (.int .i64 n0) h1

theorem eqF48 : F48 = fun fu oR => compF Pr fu oR 48 1 := by kernel_rfl

def F49 (fu : Nat) (oR : Orc) (cl : CL) (args : List AV) (h2 : Heap) (kr : KR) (kp : KP) : Ans := AR2 args fun x0 x1 =>
 cl n73 [x0] h2 (fun x3 h4 =>
 cl n73 [x1] h4 (fun x7 h8 =>
 IFB x3 (IFB x7 (kr (.int .i64 n0) h8)
 (kr (.int .i64 (nat_lit 18446744073709551615)) h8))
 (IFB x7 (kr (.int .i64 n1) h8)
 (LSS Pr 9 false x0 x1 fun x11 =>
 IFB x11 (kr (.int .i64 (nat_lit 18446744073709551615)) h8)
 (GTR Pr 9 false x0 x1 fun x12 =>
 IFB x12 (kr (.int .i64 n1) h8)
 (kr (.int .i64 n0) h8))))) kp) kp

theorem eqF49 : F49 = fun fu oR => compF Pr fu oR 49 2 := by kernel_rfl

def F50 (fu : Nat) (oR : Orc) (cl : CL) (args : List AV) (h2 : Heap) (kr : KR) (kp : KP) : Ans := AR2 args fun x0 x1 =>
 cl n74 [x0] h2 (fun x3 h4 =>
 cl n74 [x1] h4 (fun x7 h8 =>
 IFB x3 (IFB x7 (kr (.int .i64 n0) h8)
 (kr (.int .i64 (nat_lit 18446744073709551615)) h8))
 (IFB x7 (kr (.int .i64 n1) h8)
 (LSS Pr 3 false x0 x1 fun x11 =>
 IFB x11 (kr (.int .i64 (nat_lit 18446744073709551615)) h8)
 (GTR Pr 3 false x0 x1 fun x12 =>
 IFB x12 (kr (.int .i64 n1) h8)
 (kr (.int .i64 n0) h8))))) kp) kp

theorem eqF50 : F50 = fun fu oR => compF Pr fu oR 50 2 := by kernel_rfl

def B51x51 (cl : CL) (x15 : AV) (h29 : Heap) (j19 : Heap → Ans) (kp : KP) : Ans := cl n76 [x15] h29 (fun x31 h32 =>
 NEWC (.n (some (.int .i64 n0)) (.n (some (.str n0 n0)) (.n (some (.int .i64 n0)) .e .e) .e) (.n (some (.nilslice)) (.n (some (.int .i64 n0)) .e .e) .e)) n5 61 h32 fun x35 h36 =>
 ST n5 x35 x31 h36 fun h37 =>
 FA n3 x15 fun x38 =>
 FA n1 x38 fun x39 =>
 LD x39 h37 fun x40 =>
 LDN n5 x35 h37 fun x41 =>
 BSL n61 n5 [(.int .i64 n0), (.str n0 n0), (.nilslice), (.int .i64 n0), (.int .i64 n0)] n1 [(n0, x41)] h37 fun x42 h43 =>
 GEN (builtinF .append Pr [31, 31] [x40, x42] h43) cl (fun x44 h45 =>
 FA n3 x15 fun x48 =>
 FA n1 x48 fun x49 =>
 ST n1 x49 x44 h45 fun h50 =>
 j19  h50) kp) kp
def B51x68 (x15 : AV) (h29 : Heap) (x8 : AV) (x2 : AV) (kr : KR) : Ans := OV (buildA Pr 33 []) fun x58 =>
 FA n1 x15 fun x59 =>
 LD x59 h29 fun x60 =>
 SA n4 x8 x60 fun x61 =>
 FA n3 x61 fun x62 =>
 LD x62 h29 fun x63 =>
 ST n2 x2 x58 h29 fun h64 =>
 LD x62 h64 fun x65 =>
 EQV x63 x65 <|
 LD x59 h64 fun x66 =>
 EQV x60 x66 <|
 LDN n2 x2 h64 fun x67 =>
 kr (.tuple [x67, x63]) h64
def B51x77 (x15 : AV) (h29 : Heap) (x8 : AV) (x2 : AV) (kr : KR) (x0 : AV) : Ans := FA n5 x15 fun x52 =>
 LD x52 h29 fun x53 =>
 IFB x53 (FA n1 x15 fun x54 =>
 LD x54 h29 fun x55 =>
 LENS x8 fun x56 =>
 LSS Pr 3 false x55 x56 fun x57 =>
 IFB x57 (B51x68 x15 h29 x8 x2 kr)
 (OV (buildA Pr 33 []) fun x69 =>
 LENT x0 fun x70 =>
 ST n2 x2 x69 h29 fun h71 =>
 LDN n2 x2 h71 fun x72 =>
 kr (.tuple [x72, x70]) h71))
 (FA n3 x15 fun x73 =>
 LDN n2 x73 h29 fun x74 =>
 ST n2 x2 x74 h29 fun h75 =>
 LDN n2 x2 h75 fun x76 =>
 kr (.tuple [x76, (.int .i64 (nat_lit 18446744073709551615))]) h75)
def B51x82 (x23 : AV) (cl : CL) (x15 : AV) (j19 : Heap → Ans) (kp : KP) (x8 : AV) (x2 : AV) (kr : KR) (x0 : AV) (x24 : AV) (h25 : Heap) : Ans := JO (fun x26 h27 =>
 JO (fun x28 h29 =>
 SEL x23 x28 (.bool false) fun x30 =>
 IFB x30 (B51x51 cl x15 h29 j19 kp)
 (B51x77 x15 h29 x8 x2 kr x0)) fun j78 =>
 GW true x23 (OV (unOpA .not x26) fun x79 =>
 j78 x79 h27)
 (j78 undefA h27)) fun j80 =>
 GW true x23 (LD x24 h25 fun x81 =>
 j80 x81 h25)
 (j80 undefA h25)
def B51x85 (x8 : AV) (h5 : Heap) (fu : Nat) (cl : CL) (kp : KP) (x2 : AV) (kr : KR) (x0 : AV) : Ans := OV (buildA Pr 126 [(n0, x8)]) fun x14 =>
 NEWC (.n (some (.nilslice)) (.n (some (.int .i64 n0)) (.n (some (.nilslice)) .e .e) (.n (some (.bool false)) .e .e)) (.n (some (.int .i64 n0)) (.n (some (.nilslice)) .e .e) .e)) n6 126 h5 fun x15 h16 =>
 ST n6 x15 x14 h16 fun h17 =>
 LP fu (fun _ => Ans.no) (fun j19 h18 =>
 FA n1 x15 fun x20 =>
 LD x20 h18 fun x21 =>
 LENS x8 fun x22 =>
 LSS Pr 3 false x21 x22 fun x23 =>
 JO (fun x24 h25 =>
 B51x82 x23 cl x15 j19 kp x8 x2 kr x0 x24 h25) fun j83 =>
 GW true x23 (FA n5 x15 fun x84 =>
 j83 x84 h18)
 (j83 undefA h18))  h17
def F51 (fu : Nat) (oR : Orc) (cl : CL) (args : List AV) (h1 : Heap) (kr : KR) (kp : KP) : Ans := AR1 args fun x0 =>
 NEWC (.n (some (.nilslice)) (.n (some (.nilslice)) .e .e) .e) n2 33 h1 fun x2 h3 =>
 cl n75 [x0] h3 (fun x4 h5 =>
 EX n0 x4 fun x8 =>
 EX n1 x4 fun x9 =>
 GEQ Pr 3 true x9 (.int .i64 n0) fun x10 =>
 IFB x10 (OV (buildA Pr 33 []) fun x11 =>
 ST n2 x2 x11 h5 fun h12 =>
 LDN n2 x2 h12 fun x13 =>
 kr (.tuple [x13, x9]) h12)
 (B51x85 x8 h5 fu cl kp x2 kr x0)) kp

theorem eqF51 : F51 = fun fu oR => compF Pr fu oR 51 1 := by kernel_rfl

def B52x30 (x2 : AV) (h17 : Heap) (x4 : AV) (cl : CL) (x5 : AV) (j7 : AV → AV → Heap → Ans) (kp : KP) : Ans := LDN n2 x2 h17 fun x19 =>
 FA n1 x2 fun x20 =>
 LD x20 h17 fun x21 =>
 SA n5 x21 x4 fun x22 =>
 LDN n5 x22 h17 fun x23 =>
 cl n77 [x19, x23] h17 (fun x24 h25 =>
 ADD Pr 9 false x5 x24 fun x28 =>
 ADD Pr 3 true x4 (.int .i64 n1) fun x29 =>
 j7 x29 x28 h25) kp
def B52x35 (x11 : AV) (x2 : AV) (x4 : AV) (cl : CL) (x5 : AV) (j7 : AV → AV → Heap → Ans) (kp : KP) (kr : KR) (x12 : AV) (h13 : Heap) : Ans := JO (fun x14 h15 =>
 JO (fun x16 h17 =>
 SEL x11 x16 (.bool false) fun x18 =>
 IFB x18 (B52x30 x2 h17 x4 cl x5 j7 kp)
 (kr x5 h17)) fun j31 =>
 GW true x11 (LEQ Pr 3 true x14 (.int .i64 n4000) fun x32 =>
 j31 x32 h15)
 (j31 undefA h15)) fun j33 =>
 GW true x11 (LENT x12 fun x34 =>
 j33 x34 h13)
 (j33 undefA h13)
def F52 (fu : Nat) (oR : Orc) (cl : CL) (args : List AV) (h1 : Heap) (kr : KR) (kp : KP) : Ans := AR1 args fun x0 =>
 BOX 33 x0 h1 fun x2 h3 =>
 LP fu (fun _ _ _ => Ans.no) (fun j7 x4 x5 h6 =>
 FA n1 x2 fun x8 =>
 LD x8 h6 fun x9 =>
 LENS x9 fun x10 =>
 LSS Pr 3 false x4 x10 fun x11 =>
 JO (fun x12 h13 =>
 B52x35 x11 x2 x4 cl x5 j7 kp kr x12 h13) fun j36 =>
 GW true x11 (j36 x5 h6)
 (j36 undefA h6)) (.int .i64 n0) (.str n0 n0) h3

theorem eqF52 : F52 = fun fu oR => compF Pr fu oR 52 1 := by kernel_rfl

def B53x37 (x10 : AV) (x0 : AV) (x11 : AV) (h23 : Heap) (x9 : AV) (j13 : AV → AV → AV → Heap → Ans) : Ans := BOP Pr .mul 3 true x10 (.int .i64 n10) fun x25 =>
 SAT x0 x11 fun x26 =>
 SUB Pr 5 true x26 (.int .u8 n48) fun x27 =>
 OV (convV Pr h23 5 3 x27) fun x28 =>
 BOP Pr .mul 3 true x28 (.int .i64 (nat_lit 1000000)) fun x29 =>
 ADD Pr 3 false x25 x29 fun x30 =>
 JO (fun x31 h32 =>
 ADD Pr 3 true x9 (.int .i64 n1) fun x33 =>
 ADD Pr 3 true x11 (.int .i64 n1) fun x34 =>
 j13 x33 x31 x34 h32) fun j35 =>
 GTR Pr 3 true x30 (.int .i64 (nat_lit 9000000000000)) fun x36 =>
 IFB x36 (j35 (.int .i64 (nat_lit 9000000000001)) h23)
 (j35 x30 h23)
def B53x51 (x38 : AV) (kr : KR) (h41 : Heap) (x40 : AV) (x6 : AV) (x39 : AV) : Ans := EQL Pr 3 true x38 (.int .i64 n0) fun x42 =>
 IFB x42 (kr (.tuple [(.int .i64 n0), (.int .i64 n0)]) h41)
 (JO (fun x43 h44 =>
 JO (fun x45 h46 =>
 kr (.tuple [x45, x40]) h46) fun j47 =>
 IFB x6 (OV (unOpA .neg x43) fun x48 =>
 j47 x48 h44)
 (j47 x43 h44)) fun j49 =>
 GTR Pr 3 true x39 (.int .i64 (nat_lit 9000000000000)) fun x50 =>
 IFB x50 (j49 (.int .i64 (nat_lit 9000000000000)) h41)
 (j49 x39 h41))
def B53x123 (x0 : AV) (x101 : AV) (h113 : Heap) (x98 : AV) (x100 : AV) (x99 : AV) (j103 : AV → AV → AV → AV → Heap → Ans) : Ans := SAT x0 x101 fun x115 =>
 SUB Pr 5 true x115 (.int .u8 n48) fun x116 =>
 OV (convV Pr h113 5 3 x116) fun x117 =>
 BOP Pr .mul 3 false x117 x98 fun x118 =>
 ADD Pr 3 false x100 x118 fun x119 =>
 BOP Pr .quo 3 true x98 (.int .i64 n10) fun x120 =>
 ADD Pr 3 true x99 (.int .i64 n1) fun x121 =>
 ADD Pr 3 true x101 (.int .i64 n1) fun x122 =>
 j103 x120 x121 x119 x122 h113
def B53x131 (x105 : AV) (x0 : AV) (x101 : AV) (x98 : AV) (x100 : AV) (x99 : AV) (j103 : AV → AV → AV → AV → Heap → Ans) (j52 : AV → AV → AV → Heap → Ans) (cl : CL) (kp : KP) (x106 : AV) (x108 : AV) (h109 : Heap) : Ans := JO (fun x110 h111 =>
 JO (fun x112 h113 =>
 SEL x105 x112 (.bool false) fun x114 =>
 IFB x114 (B53x123 x0 x101 h113 x98 x100 x99 j103)
 (j52 x99 x100 x101 h113)) fun j124 =>
 GW true x105 (cl n55 [x110] h111 (fun x125 h126 =>
 j124 x125 h126) kp)
 (j124 undefA h111)) fun j129 =>
 GW true x105 (SAT x106 x108 fun x130 =>
 j129 x130 h109)
 (j129 undefA h109)
def B53x134 (x11 : AV) (fu : Nat) (x0 : AV) (j52 : AV → AV → AV → Heap → Ans) (cl : CL) (kp : KP) (x9 : AV) (x10 : AV) (h95 : Heap) : Ans := ADD Pr 3 true x11 (.int .i64 n1) fun x97 =>
 LP fu (fun _ _ _ _ _ => Ans.no) (fun j103 x98 x99 x100 x101 h102 =>
 LENT x0 fun x104 =>
 LSS Pr 3 false x101 x104 fun x105 =>
 JO (fun x106 h107 =>
 JO (fun x108 h109 =>
 B53x131 x105 x0 x101 x98 x100 x99 j103 j52 cl kp x106 x108 h109) fun j132 =>
 GW true x105 (j132 x101 h107)
 (j132 undefA h107)) fun j133 =>
 GW true x105 (j133 x0 h102)
 (j133 undefA h102)) (.int .i64 (nat_lit 100000)) x9 x10 x97 h95
def B53x139 (x63 : AV) (x11 : AV) (fu : Nat) (x0 : AV) (j52 : AV → AV → AV → Heap → Ans) (cl : CL) (kp : KP) (x9 : AV) (x10 : AV) (x68 : AV) (x80 : AV) (x90 : AV) (h91 : Heap) : Ans := JO (fun x92 h93 =>
 JO (fun x94 h95 =>
 SEL x63 x94 (.bool false) fun x96 =>
 IFB x96 (B53x134 x11 fu x0 j52 cl kp x9 x10 h95)
 (j52 x9 x10 x11 h95)) fun j135 =>
 GW true x63 (SEL x68 (.bool true) x92 fun x136 =>
 j135 x136 h93)
 (j135 undefA h93)) fun j137 =>
 GW false x68 (SEL x80 x90 (.bool false) fun x138 =>
 j137 x138 h91)
 (j137 undefA h91)
def B53x149 (x63 : AV) (x11 : AV) (fu : Nat) (x0 : AV) (j52 : AV → AV → AV → Heap → Ans) (cl : CL) (kp : KP) (x9 : AV) (x10 : AV) (x68 : AV) (x80 : AV) (x82 : AV) (x84 : AV) (h85 : Heap) : Ans := JO (fun x86 h87 =>
 JO (fun x88 h89 =>
 JO (fun x90 h91 =>
 B53x139 x63 x11 fu x0 j52 cl kp x9 x10 x68 x80 x90 h91) fun j140 =>
 GW true x80 (cl n55 [x88] h89 (fun x141 h142 =>
 j140 x141 h142) kp)
 (j140 undefA h89)) fun j145 =>
 GW true x80 (SAT x82 x86 fun x146 =>
 j145 x146 h87)
 (j145 undefA h87)) fun j147 =>
 GW true x80 (ADD Pr 3 true x84 (.int .i64 n1) fun x148 =>
 j147 x148 h85)
 (j147 undefA h85)
def B53x155 (x63 : AV) (x11 : AV) (fu : Nat) (x0 : AV) (j52 : AV → AV → AV → Heap → Ans) (cl : CL) (kp : KP) (x9 : AV) (x10 : AV) (x68 : AV) (x72 : AV) (x76 : AV) (h77 : Heap) : Ans := JO (fun x78 h79 =>
 JO (fun x80 h81 =>
 JO (fun x82 h83 =>
 JO (fun x84 h85 =>
 B53x149 x63 x11 fu x0 j52 cl kp x9 x10 x68 x80 x82 x84 h85) fun j150 =>
 GW true x80 (j150 x11 h83)
 (j150 undefA h83)) fun j151 =>
 GW true x80 (j151 x0 h81)
 (j151 undefA h81)) fun j152 =>
 GW false x68 (j152 x78 h79)
 (j152 undefA h79)) fun j153 =>
 GW false x68 (LSS Pr 3 false x72 x76 fun x154 =>
 j153 x154 h77)
 (j153 undefA h77)
def B53x161 (x63 : AV) (x11 : AV) (fu : Nat) (x0 : AV) (j52 : AV → AV → AV → Heap → Ans) (cl : CL) (kp : KP) (x9 : AV) (x10 : AV) (x68 : AV) (x70 : AV) (h71 : Heap) : Ans := JO (fun x72 h73 =>
 JO (fun x74 h75 =>
 JO (fun x76 h77 =>
 B53x155 x63 x11 fu x0 j52 cl kp x9 x10 x68 x72 x76 h77) fun j156 =>
 GW false x68 (LENT x74 fun x157 =>
 j156 x157 h75)
 (j156 undefA h75)) fun j158 =>
 GW false x68 (j158 x0 h73)
 (j158 undefA h73)) fun j159 =>
 GW false x68 (ADD Pr 3 true x70 (.int .i64 n1) fun x160 =>
 j159 x160 h71)
 (j159 undefA h71)
def B53x166 (x63 : AV) (x11 : AV) (fu : Nat) (x0 : AV) (j52 : AV → AV → AV → Heap → Ans) (cl : CL) (kp : KP) (x9 : AV) (x10 : AV) (x64 : AV) (h65 : Heap) : Ans := JO (fun x66 h67 =>
 JO (fun x68 h69 =>
 JO (fun x70 h71 =>
 B53x161 x63 x11 fu x0 j52 cl kp x9 x10 x68 x70 h71) fun j162 =>
 GW false x68 (j162 x11 h69)
 (j162 undefA h69)) fun j163 =>
 GW true x63 (j163 x66 h67)
 (j163 undefA h67)) fun j164 =>
 GW true x63 (GTR Pr 3 true x64 (.int .i64 n0) fun x165 =>
 j164 x165 h65)
 (j164 undefA h65)
def B53x172 (x54 : AV) (x11 : AV) (fu : Nat) (x0 : AV) (j52 : AV → AV → AV → Heap → Ans) (cl : CL) (kp : KP) (x9 : AV) (x10 : AV) (x55 : AV) (x57 : AV) (h58 : Heap) : Ans := JO (fun x59 h60 =>
 JO (fun x61 h62 =>
 SEL x54 x61 (.bool false) fun x63 =>
 JO (fun x64 h65 =>
 B53x166 x63 x11 fu x0 j52 cl kp x9 x10 x64 h65) fun j167 =>
 GW true x63 (j167 x9 h62)
 (j167 undefA h62)) fun j168 =>
 GW true x54 (EQL Pr 5 true x59 (.int .u8 n46) fun x169 =>
 j168 x169 h60)
 (j168 undefA h60)) fun j170 =>
 GW true x54 (SAT x55 x57 fun x171 =>
 j170 x171 h58)
 (j170 undefA h58)
def B53x175 (kr : KR) (x6 : AV) (x0 : AV) (x11 : AV) (fu : Nat) (cl : CL) (kp : KP) (x9 : AV) (x10 : AV) (h23 : Heap) : Ans := JO (fun x38 x39 x40 h41 =>
 B53x51 x38 kr h41 x40 x6 x39) fun j52 =>
 LENT x0 fun x53 =>
 LSS Pr 3 false x11 x53 fun x54 =>
 JO (fun x55 h56 =>
 JO (fun x57 h58 =>
 B53x172 x54 x11 fu x0 j52 cl kp x9 x10 x55 x57 h58) fun j173 =>
 GW true x54 (j173 x11 h56)
 (j173 undefA h56)) fun j174 =>
 GW true x54 (j174 x0 h23)
 (j174 undefA h23)
def B53x183 (x15 : AV) (x10 : AV) (x0 : AV) (x11 : AV) (x9 : AV) (j13 : AV → AV → AV → Heap → Ans) (kr : KR) (x6 : AV) (fu : Nat) (cl : CL) (kp : KP) (x16 : AV) (x18 : AV) (h19 : Heap) : Ans := JO (fun x20 h21 =>
 JO (fun x22 h23 =>
 SEL x15 x22 (.bool false) fun x24 =>
 IFB x24 (B53x37 x10 x0 x11 h23 x9 j13)
 (B53x175 kr x6 x0 x11 fu cl kp x9 x10 h23)) fun j176 =>
 GW true x15 (cl n55 [x20] h21 (fun x177 h178 =>
 j176 x177 h178) kp)
 (j176 undefA h21)) fun j181 =>
 GW true x15 (SAT x16 x18 fun x182 =>
 j181 x182 h19)
 (j181 undefA h19)
def B53x186 (fu : Nat) (x0 : AV) (kr : KR) (x6 : AV) (cl : CL) (kp : KP) (x7 : AV) (h8 : Heap) : Ans := LP fu (fun _ _ _ _ => Ans.no) (fun j13 x9 x10 x11 h12 =>
 LENT x0 fun x14 =>
 LSS Pr 3 false x11 x14 fun x15 =>
 JO (fun x16 h17 =>
 JO (fun x18 h19 =>
 B53x183 x15 x10 x0 x11 x9 j13 kr x6 fu cl kp x16 x18 h19) fun j184 =>
 GW true x15 (j184 x11 h17)
 (j184 undefA h17)) fun j185 =>
 GW true x15 (j185 x0 h12)
 (j185 undefA h12)) (.int .i64 n0) (.int .i64 n0) x7 h8
def B53x216 (x189 : AV) (x0 : AV) (x2 : AV) (j187 : AV → AV → Heap → Ans) (x198 : AV) (x206 : AV) (h207 : Heap) : Ans := JO (fun x208 h209 =>
 SEL x189 x208 (.bool false) fun x210 =>
 IFB x210 (SAT x0 x2 fun x211 =>
 EQL Pr 5 true x211 (.int .u8 n45) fun x212 =>
 ADD Pr 3 true x2 (.int .i64 n1) fun x213 =>
 j187 x212 x213 h209)
 (j187 (.bool false) x2 h209)) fun j214 =>
 GW true x189 (SEL x198 (.bool true) x206 fun x215 =>
 j214 x215 h207)
 (j214 undefA h207)
def B53x222 (x189 : AV) (x0 : AV) (x2 : AV) (j187 : AV → AV → Heap → Ans) (x198 : AV) (x200 : AV) (h201 : Heap) : Ans := JO (fun x202 h203 =>
 JO (fun x204 h205 =>
 JO (fun x206 h207 =>
 B53x216 x189 x0 x2 j187 x198 x206 h207) fun j217 =>
 GW false x198 (EQL Pr 5 true x204 (.int .u8 n45) fun x218 =>
 j217 x218 h205)
 (j217 undefA h205)) fun j219 =>
 GW false x198 (SAT x200 x202 fun x220 =>
 j219 x220 h203)
 (j219 undefA h203)) fun j221 =>
 GW false x198 (j221 x2 h201)
 (j221 undefA h201)
def B53x227 (x189 : AV) (x0 : AV) (x2 : AV) (j187 : AV → AV → Heap → Ans) (x194 : AV) (h195 : Heap) : Ans := JO (fun x196 h197 =>
 JO (fun x198 h199 =>
 JO (fun x200 h201 =>
 B53x222 x189 x0 x2 j187 x198 x200 h201) fun j223 =>
 GW false x198 (j223 x0 h199)
 (j223 undefA h199)) fun j224 =>
 GW true x189 (j224 x196 h197)
 (j224 undefA h197)) fun j225 =>
 GW true x189 (EQL Pr 5 true x194 (.int .u8 n43) fun x226 =>
 j225 x226 h195)
 (j225 undefA h195)
def F53 (fu : Nat) (oR : Orc) (cl : CL) (args : List AV) (h1 : Heap) (kr : KR) (kp : KP) : Ans := AR1 args fun x0 =>
 cl n78 [x0, (.int .i64 n0)] h1 (fun x2 h3 =>
 JO (fun x6 x7 h8 =>
 B53x186 fu x0 kr x6 cl kp x7 h8) fun j187 =>
 LENT x0 fun x188 =>
 LSS Pr 3 false x2 x188 fun x189 =>
 JO (fun x190 h191 =>
 JO (fun x192 h193 =>
 JO (fun x194 h195 =>
 B53x227 x189 x0 x2 j187 x194 h195) fun j228 =>
 GW true x189 (SAT x190 x192 fun x229 =>
 j228 x229 h193)
 (j228 undefA h193)) fun j230 =>
 GW true x189 (j230 x2 h191)
 (j230 undefA h191)) fun j231 =>
 GW true x189 (j231 x0 h3)
 (j231 undefA h3)) kp

theorem eqF53 : F53 = fun fu oR => compF Pr fu oR 53 1 := by kernel_rfl

def F55 (fu : Nat) (oR : Orc) (cl : CL) (args : List AV) (h1 : Heap) (kr : KR) (kp : KP) : Ans := AR1 args fun x0 =>
 GEQ Pr 5 true x0 (.int .u8 n48) fun x2 =>
 JO (fun x3 h4 =>
 JO (fun x5 h6 =>
 SEL x2 x5 (.bool false) fun x7 =>
 kr x7 h6) fun j8 =>
 GW true x2 (LEQ Pr 5 true x3 (.int .u8 n57) fun x9 =>
 j8 x9 h4)
 (j8 undefA h4)) fun j10 =>
 GW true x2 (j10 x0 h1)
 (j10 undefA h1)

theorem eqF55 : F55 = fun fu oR => compF Pr fu oR 55 1 := by kernel_rfl

def F56 (fu : Nat) (oR : Orc) (cl : CL) (args : List AV) (h2 : Heap) (kr : KR) (kp : KP) : Ans := AR2 args fun x0 x1 =>
 cl n79 [x0, x1, (.int .i64 n0), (.int .i64 (nat_lit 18446744073709551615))] h2 (fun x3 h4 =>
 kr x3 h4) kp

theorem eqF56 : F56 = fun fu oR => compF Pr fu oR 56 2 := by kernel_rfl

def B57x25 (x3 : AV) (h12 : Heap) (cl : CL) (x0 : AV) (kr : KR) (kp : KP) : Ans := FA n4 x3 fun x13 =>
 LD x13 h12 fun x14 =>
 cl n83 [x0, x14] h12 (fun x15 h16 =>
 BSL n9 n1 [(.str n0 n0)] n1 [(n0, (.str n1 n10))] h16 fun x19 h20 =>
 cl n80 [x0, x19] h20 (fun x21 h22 =>
 kr (.tuple []) h22) kp) kp
def B57x71 (x3 : AV) (h6 : Heap) (cl : CL) (x0 : AV) (j26 : Heap → Ans) (kp : KP) : Ans := FA n1 x3 fun x56 =>
 LD x56 h6 fun x57 =>
 FA n2 x3 fun x58 =>
 LD x58 h6 fun x59 =>
 cl n82 [x59, (.str n2 n8236)] h6 (fun x60 h61 =>
 LD x56 h61 fun x64 =>
 EQV x57 x64 <|
 BSL n9 n1 [(.str n0 n0), (.str n0 n0), (.str n0 n0), (.str n0 n0), (.str n0 n0)] n5 [(n0, (.str n9 (nat_lit 598253505373897913702))), (n1, x57), (n2, (.str n1 n40)), (n3, x60), (n4, (.str n2 n8233))] h61 fun x65 h66 =>
 cl n80 [x0, x65] h66 (fun x67 h68 =>
 j26  h68) kp) kp
def B57x75 (x11 : AV) (x3 : AV) (h6 : Heap) (cl : CL) (x0 : AV) (j26 : Heap → Ans) (kp : KP) : Ans := EQL Pr 3 true x11 (.int .i64 n3) fun x42 =>
 IFB x42 (FA n3 x3 fun x43 =>
 LD x43 h6 fun x44 =>
 cl n81 [x0, x44] h6 (fun x45 h46 =>
 BSL n9 n1 [(.str n0 n0)] n1 [(n0, (.str n1 n32))] h46 fun x49 h50 =>
 cl n80 [x0, x49] h50 (fun x51 h52 =>
 j26  h52) kp) kp)
 (EQL Pr 3 true x11 (.int .i64 n4) fun x55 =>
 IFB x55 (B57x71 x3 h6 cl x0 j26 kp)
 (NC x0 fun x72 =>
 FA n4 x72 fun x73 =>
 ST n1 x73 (.bool true) h6 fun h74 =>
 j26  h74))
def B57x76 (x11 : AV) (h6 : Heap) (cl : CL) (x0 : AV) (j26 : Heap → Ans) (kp : KP) (x3 : AV) : Ans := EQL Pr 3 true x11 (.int .i64 n1) fun x34 =>
 IFB x34 (BSL n9 n1 [(.str n0 n0)] n1 [(n0, (.str n4 (nat_lit 541347397)))] h6 fun x35 h36 =>
 cl n80 [x0, x35] h36 (fun x37 h38 =>
 j26  h38) kp)
 (EQL Pr 3 true x11 (.int .i64 n2) fun x41 =>
 IFB x41 (j26  h6)
 (B57x75 x11 x3 h6 cl x0 j26 kp))
def B57x77 (x3 : AV) (h6 : Heap) (cl : CL) (x0 : AV) (kr : KR) (kp : KP) : Ans := FA n0 x3 fun x10 =>
 LD x10 h6 fun x11 =>
 JO (fun h12 =>
 B57x25 x3 h12 cl x0 kr kp) fun j26 =>
 EQL Pr 3 true x11 (.int .i64 n0) fun x27 =>
 IFB x27 (BSL n9 n1 [(.str n0 n0)] n1 [(n0, (.str n6 (nat_lit 35520608945474)))] h6 fun x28 h29 =>
 cl n80 [x0, x28] h29 (fun x30 h31 =>
 j26  h31) kp)
 (B57x76 x11 h6 cl x0 j26 kp x3)
def B57x134 (x114 : AV) (j78 : AV → Heap → Ans) (x119 : AV) (x123 : AV) (h124 : Heap) : Ans := JO (fun x125 h126 =>
 JO (fun x127 h128 =>
 SEL x114 (.bool true) x127 fun x129 =>
 j78 x129 h128) fun j130 =>
 GW false x114 (NEQ Pr 4 false x119 x125 fun x131 =>
 j130 x131 h126)
 (j130 undefA h126)) fun j132 =>
 GW false x114 (EQL Pr 3 true x123 (.int .i64 n3) fun x133 =>
 j132 x133 h124)
 (j132 undefA h124)
def B57x141 (x114 : AV) (j78 : AV → Heap → Ans) (x3 : AV) (x117 : AV) (h118 : Heap) : Ans := JO (fun x119 h120 =>
 JO (fun x121 h122 =>
 JO (fun x123 h124 =>
 B57x134 x114 j78 x119 x123 h124) fun j135 =>
 GW false x114 (LD x121 h122 fun x136 =>
 j135 x136 h122)
 (j135 undefA h122)) fun j137 =>
 GW false x114 (FA n0 x3 fun x138 =>
 j137 x138 h120)
 (j137 undefA h120)) fun j139 =>
 GW false x114 (GEQ Pr 3 true x117 (.int .i64 n0) fun x140 =>
 j139 x140 h118)
 (j139 undefA h118)
def B57x148 (x91 : AV) (j78 : AV → Heap → Ans) (x3 : AV) (x110 : AV) (h111 : Heap) : Ans := JO (fun x112 h113 =>
 SEL x91 (.bool true) x112 fun x114 =>
 JO (fun x115 h116 =>
 JO (fun x117 h118 =>
 B57x141 x114 j78 x3 x117 h118) fun j142 =>
 GW false x114 (LD x115 h116 fun x143 =>
 j142 x143 h116)
 (j142 undefA h116)) fun j144 =>
 GW false x114 (FA n3 x3 fun x145 =>
 j144 x145 h113)
 (j144 undefA h113)) fun j146 =>
 GW false x91 (OV (unOpA .not x110) fun x147 =>
 j146 x147 h111)
 (j146 undefA h111)
def B57x156 (x91 : AV) (j78 : AV → Heap → Ans) (x3 : AV) (cl : CL) (x94 : AV) (kp : KP) (x106 : AV) (h107 : Heap) : Ans := JO (fun x108 h109 =>
 JO (fun x110 h111 =>
 B57x148 x91 j78 x3 x110 h111) fun j149 =>
 GW false x91 (cl n24 [x94, (.int .i64 (nat_lit 18446744073709551615)), x108] h109 (fun x150 h151 =>
 j149 x150 h151) kp)
 (j149 undefA h109)) fun j154 =>
 GW false x91 (SUB Pr 3 true x106 (.int .i64 n1) fun x155 =>
 j154 x155 h107)
 (j154 undefA h107)
def B57x163 (x91 : AV) (j78 : AV → Heap → Ans) (x3 : AV) (cl : CL) (x94 : AV) (kp : KP) (x100 : AV) (h101 : Heap) : Ans := JO (fun x102 h103 =>
 JO (fun x104 h105 =>
 JO (fun x106 h107 =>
 B57x156 x91 j78 x3 cl x94 kp x106 h107) fun j157 =>
 GW false x91 (LENS x104 fun x158 =>
 j157 x158 h105)
 (j157 undefA h105)) fun j159 =>
 GW false x91 (LD x102 h103 fun x160 =>
 j159 x160 h103)
 (j159 undefA h103)) fun j161 =>
 GW false x91 (FA n0 x100 fun x162 =>
 j161 x162 h101)
 (j161 undefA h101)
def B57x169 (x91 : AV) (j78 : AV → Heap → Ans) (x3 : AV) (cl : CL) (x94 : AV) (kp : KP) (x0 : AV) (h95 : Heap) : Ans := JO (fun x96 h97 =>
 JO (fun x98 h99 =>
 JO (fun x100 h101 =>
 B57x163 x91 j78 x3 cl x94 kp x100 h101) fun j164 =>
 GW false x91 (FA n0 x98 fun x165 =>
 j164 x165 h99)
 (j164 undefA h99)) fun j166 =>
 GW false x91 (NC x96 fun x167 =>
 j166 x167 h97)
 (j166 undefA h97)) fun j168 =>
 GW false x91 (j168 x0 h95)
 (j168 undefA h95)
def F57 (fu : Nat) (oR : Orc) (cl : CL) (args : List AV) (h2 : Heap) (kr : KR) (kp : KP) : Ans := AR2 args fun x0 x1 =>
 BOX 61 x1 h2 fun x3 h4 =>
 JO (fun x5 h6 =>
 IFB x5 (NC x0 fun x7 =>
 FA n4 x7 fun x8 =>
 ST n1 x8 (.bool true) h6 fun h9 =>
 kr (.tuple []) h9)
 (B57x77 x3 h6 cl x0 kr kp)) fun j78 =>
 FA n4 x3 fun x79 =>
 LD x79 h4 fun x80 =>
 NC x0 fun x81 =>
 FA n0 x81 fun x82 =>
 FA n0 x82 fun x83 =>
 LD x83 h4 fun x84 =>
 LENS x84 fun x85 =>
 SUB Pr 3 true x85 (.int .i64 n1) fun x86 =>
 cl n24 [x80, (.int .i64 n0), x86] h4 (fun x87 h88 =>
 OV (unOpA .not x87) fun x91 =>
 JO (fun x92 h93 =>
 JO (fun x94 h95 =>
 B57x169 x91 j78 x3 cl x94 kp x0 h95) fun j170 =>
 GW false x91 (LD x92 h93 fun x171 =>
 j170 x171 h93)
 (j170 undefA h93)) fun j172 =>
 GW false x91 (FA n3 x3 fun x173 =>
 j172 x173 h88)
 (j172 undefA h88)) kp

theorem eqF57 : F57 = fun fu oR => compF Pr fu oR 57 2 := by kernel_rfl

def F58 (fu : Nat) (oR : Orc) (cl : CL) (args : List AV) (h1 : Heap) (kr : KR) (kp : KP) : Ans := AR1 args fun x0 =>
 NC x0 fun x2 =>
 FA n1 x2 fun x3 =>
 LD x3 h1 fun x4 =>
 OPV (builtinF .unsafeSliceData Pr [22] [x4] h1) fun x5 =>
 NC x0 fun x6 =>
 FA n1 x6 fun x7 =>
 LD x7 h1 fun x8 =>
 LENS x8 fun x9 =>
 GEN (builtinF .unsafeString Pr [137, 3] [x5, x9] h1) cl (fun x10 h11 =>
 kr x10 h11) kp

theorem eqF58 : F58 = fun fu oR => compF Pr fu oR 58 1 := by kernel_rfl

def B59x41 (x0 : AV) (x2 : AV) (h26 : Heap) (x4 : AV) (i22 : Nat) (a23 : List AV) (kr : KR) (oR : Orc) (kp : KP) : Ans := OV (buildA Pr 33 []) fun x35 =>
 LENT x0 fun x36 =>
 ST n2 x2 x35 h26 fun h37 =>
 ST n1 x4 x36 h37 fun h38 =>
 ENDD ((i22, a23) :: []) (LDN n2 x2 h38 fun x39 =>
 LD x4 h38 fun x40 =>
 kr (.tuple [x39, x40]) h38)
 (SLOW Pr oR 59 [(2, x2), (3, x4)] ((i22, a23) :: []) .returning h38 kr kp)
def B59x49 (x20 : AV) (h26 : Heap) (x2 : AV) (x4 : AV) (i22 : Nat) (a23 : List AV) (kr : KR) (oR : Orc) (kp : KP) : Ans := NC x20 fun x42 =>
 FA n4 x42 fun x43 =>
 LDN n2 x43 h26 fun x44 =>
 ST n2 x2 x44 h26 fun h45 =>
 ST n1 x4 (.int .i64 (nat_lit 18446744073709551615)) h45 fun h46 =>
 ENDD ((i22, a23) :: []) (LDN n2 x2 h46 fun x47 =>
 LD x4 h46 fun x48 =>
 kr (.tuple [x47, x48]) h46)
 (SLOW Pr oR 59 [(2, x2), (3, x4)] ((i22, a23) :: []) .returning h46 kr kp)
def B59x50 (x0 : AV) (x10 : AV) (h7 : Heap) (x2 : AV) (x4 : AV) (cl : CL) (kr : KR) (oR : Orc) (kp : KP) : Ans := LENT x0 fun x18 =>
 OV (buildA Pr 140 [(n0, x10), (n2, x18)]) fun x19 =>
 BOX 140 x19 h7 fun x20 h21 =>
 GDF (dfrV (some (.func (.func 85) [] [x2, x4])) [] h21) fun i22 a23 h24 =>
 cl n86 [x20] h24 (fun x25 h26 =>
 NC x20 fun x29 =>
 FA n4 x29 fun x30 =>
 FA n0 x30 fun x31 =>
 LD x31 h26 fun x32 =>
 LENS x32 fun x33 =>
 GTR Pr 3 true x33 (.int .i64 n800) fun x34 =>
 IFB x34 (B59x41 x0 x2 h26 x4 i22 a23 kr oR kp)
 (B59x49 x20 h26 x2 x4 i22 a23 kr oR kp)) (fun c27 h28 => ENDD ((i22, a23) :: []) (kp c27 h28)
 (SLOW Pr oR 59 [(2, x2), (3, x4)] ((i22, a23) :: []) (.panicking c27) h28 kr kp))
def F59 (fu : Nat) (oR : Orc) (cl : CL) (args : List AV) (h1 : Heap) (kr : KR) (kp : KP) : Ans := AR1 args fun x0 =>
 NEWC (.n (some (.nilslice)) (.n (some (.nilslice)) .e .e) .e) n2 33 h1 fun x2 h3 =>
 NEWC (.n (some (.int .i64 n0)) .e .e) n1 3 h3 fun x4 h5 =>
 cl n84 [x0] h5 (fun x6 h7 =>
 EX n0 x6 fun x10 =>
 EX n1 x6 fun x11 =>
 GEQ Pr 3 true x11 (.int .i64 n0) fun x12 =>
 IFB x12 (OV (buildA Pr 33 []) fun x13 =>
 ST n2 x2 x13 h7 fun h14 =>
 ST n1 x4 x11 h14 fun h15 =>
 LDN n2 x2 h15 fun x16 =>
 LD x4 h15 fun x17 =>
 kr (.tuple [x16, x17]) h15)
 (B59x50 x0 x10 h7 x2 x4 cl kr oR kp)) kp

theorem eqF59 : F59 = fun fu oR => compF Pr fu oR 59 1 := by kernel_rfl

def B60x30 (x0 : AV) (x8 : AV) (h9 : Heap) (x1 : AV) (x2 : AV) (cl : CL) (kr : KR) (j10 : AV → Heap → Ans) (kp : KP) : Ans := SA n5 x0 x8 fun x12 =>
 LDN n5 x12 h9 fun x13 =>
 NEWC (.n (some (.int .i64 n0)) (.n (some (.str n0 n0)) (.n (some (.int .i64 n0)) .e .e) .e) (.n (some (.str n0 n0)) (.n (some (.nilslice)) .e .e) .e)) n5 108 h9 fun x14 h15 =>
 ST n5 x14 x13 h15 fun h16 =>
 SA n5 x1 x8 fun x17 =>
 LDN n5 x17 h16 fun x18 =>
 NEWC (.n (some (.int .i64 n0)) (.n (some (.str n0 n0)) (.n (some (.int .i64 n0)) .e .e) .e) (.n (some (.str n0 n0)) (.n (some (.nilslice)) .e .e) .e)) n5 108 h16 fun x19 h20 =>
 ST n5 x19 x18 h20 fun h21 =>
 LDN n5 x14 h21 fun x22 =>
 LDN n5 x19 h21 fun x23 =>
 GEN (callV Pr (some x2) [x22, x23] h21) cl (fun x24 h25 =>
 OV (unOpA .not x24) fun x28 =>
 IFB x28 (kr (.bool false) h25)
 (ADD Pr 3 true x8 (.int .i64 n1) fun x29 =>
 j10 x29 h25)) kp
def F60 (fu : Nat) (oR : Orc) (cl : CL) (args : List AV) (h3 : Heap) (kr : KR) (kp : KP) : Ans := AR3 args fun x0 x1 x2 =>
 LENS x0 fun x4 =>
 LENS x1 fun x5 =>
 NEQ Pr 3 false x4 x5 fun x6 =>
 IFB x6 (kr (.bool false) h3)
 (LENS x0 fun x7 =>
 LP fu (fun _ _ => Ans.no) (fun j10 x8 h9 =>
 LSS Pr 3 false x8 x7 fun x11 =>
 IFB x11 (B60x30 x0 x8 h9 x1 x2 cl kr j10 kp)
 (kr (.bool true) h9)) (.int .i64 n0) h3)

theorem eqF60 : F60 = fun fu oR => compF Pr fu oR 60 3 := by kernel_rfl

def B61x65 (x44 : AV) (kr : KR) (cl : CL) (x47 : AV) (kp : KP) (x5 : AV) (h48 : Heap) : Ans := JO (fun x49 h50 =>
 JO (fun x51 h52 =>
 JO (fun x53 h54 =>
 SEL x44 x53 (.bool false) fun x55 =>
 kr x55 h54) fun j56 =>
 GW true x44 (cl n62 [x47, x51] h52 (fun x57 h58 =>
 j56 x57 h58) kp)
 (j56 undefA h52)) fun j61 =>
 GW true x44 (LD x49 h50 fun x62 =>
 j61 x62 h50)
 (j61 undefA h50)) fun j63 =>
 GW true x44 (FA n4 x5 fun x64 =>
 j63 x64 h48)
 (j63 undefA h48)
def B61x72 (x33 : AV) (kr : KR) (cl : CL) (kp : KP) (x5 : AV) (x3 : AV) (x36 : AV) (x40 : AV) (h41 : Heap) : Ans := JO (fun x42 h43 =>
 SEL x33 x42 (.bool false) fun x44 =>
 JO (fun x45 h46 =>
 JO (fun x47 h48 =>
 B61x65 x44 kr cl x47 kp x5 h48) fun j66 =>
 GW true x44 (LD x45 h46 fun x67 =>
 j66 x67 h46)
 (j66 undefA h46)) fun j68 =>
 GW true x44 (FA n4 x3 fun x69 =>
 j68 x69 h43)
 (j68 undefA h43)) fun j70 =>
 GW true x33 (EQL Pr 3 false x36 x40 fun x71 =>
 j70 x71 h41)
 (j70 undefA h41)
def B61x79 (x33 : AV) (kr : KR) (cl : CL) (kp : KP) (x5 : AV) (x3 : AV) (x34 : AV) (h35 : Heap) : Ans := JO (fun x36 h37 =>
 JO (fun x38 h39 =>
 JO (fun x40 h41 =>
 B61x72 x33 kr cl kp x5 x3 x36 x40 h41) fun j73 =>
 GW true x33 (LD x38 h39 fun x74 =>
 j73 x74 h39)
 (j73 undefA h39)) fun j75 =>
 GW true x33 (FA n3 x5 fun x76 =>
 j75 x76 h37)
 (j75 undefA h37)) fun j77 =>
 GW true x33 (LD x34 h35 fun x78 =>
 j77 x78 h35)
 (j77 undefA h35)
def B61x86 (x22 : AV) (kr : KR) (cl : CL) (kp : KP) (x5 : AV) (x3 : AV) (x25 : AV) (x27 : AV) (h28 : Heap) : Ans := JO (fun x29 h30 =>
 JO (fun x31 h32 =>
 SEL x22 x31 (.bool false) fun x33 =>
 JO (fun x34 h35 =>
 B61x79 x33 kr cl kp x5 x3 x34 h35) fun j80 =>
 GW true x33 (FA n3 x3 fun x81 =>
 j80 x81 h32)
 (j80 undefA h32)) fun j82 =>
 GW true x22 (EQL Pr 9 false x25 x29 fun x83 =>
 j82 x83 h30)
 (j82 undefA h30)) fun j84 =>
 GW true x22 (LD x27 h28 fun x85 =>
 j84 x85 h28)
 (j84 undefA h28)
def B61x93 (x11 : AV) (x20 : AV) (kr : KR) (cl : CL) (kp : KP) (x5 : AV) (x3 : AV) (h21 : Heap) : Ans := SEL x11 x20 (.bool false) fun x22 =>
 JO (fun x23 h24 =>
 JO (fun x25 h26 =>
 JO (fun x27 h28 =>
 B61x86 x22 kr cl kp x5 x3 x25 x27 h28) fun j87 =>
 GW true x22 (FA n2 x5 fun x88 =>
 j87 x88 h26)
 (j87 undefA h26)) fun j89 =>
 GW true x22 (LD x23 h24 fun x90 =>
 j89 x90 h24)
 (j89 undefA h24)) fun j91 =>
 GW true x22 (FA n2 x3 fun x92 =>
 j91 x92 h21)
 (j91 undefA h21)
def B61x100 (x11 : AV) (kr : KR) (cl : CL) (kp : KP) (x5 : AV) (x3 : AV) (x14 : AV) (h15 : Heap) : Ans := JO (fun x16 h17 =>
 JO (fun x18 h19 =>
 JO (fun x20 h21 =>
 B61x93 x11 x20 kr cl kp x5 x3 h21) fun j94 =>
 GW true x11 (EQL Pr 9 false x14 x18 fun x95 =>
 j94 x95 h19)
 (j94 undefA h19)) fun j96 =>
 GW true x11 (LD x16 h17 fun x97 =>
 j96 x97 h17)
 (j96 undefA h17)) fun j98 =>
 GW true x11 (FA n1 x5 fun x99 =>
 j98 x99 h15)
 (j98 undefA h15)
def F61 (fu : Nat) (oR : Orc) (cl : CL) (args : List AV) (h2 : Heap) (kr : KR) (kp : KP) : Ans := AR2 args fun x0 x1 =>
 BOX 108 x0 h2 fun x3 h4 =>
 BOX 108 x1 h4 fun x5 h6 =>
 FA n0 x3 fun x7 =>
 LD x7 h6 fun x8 =>
 FA n0 x5 fun x9 =>
 LD x9 h6 fun x10 =>
 EQL Pr 3 false x8 x10 fun x11 =>
 JO (fun x12 h13 =>
 JO (fun x14 h15 =>
 B61x100 x11 kr cl kp x5 x3 x14 h15) fun j101 =>
 GW true x11 (LD x12 h13 fun x102 =>
 j101 x102 h13)
 (j101 undefA h13)) fun j103 =>
 GW true x11 (FA n1 x3 fun x104 =>
 j103 x104 h6)
 (j103 undefA h6)

theorem eqF61 : F61 = fun fu oR => compF Pr fu oR 61 2 := by kernel_rfl

def B62x17 (x0 : AV) (fu : Nat) (x1 : AV) (kr : KR) (h2 : Heap) : Ans := LENS x0 fun x6 =>
 LP fu (fun _ _ => Ans.no) (fun j9 x7 h8 =>
 LSS Pr 3 false x7 x6 fun x10 =>
 IFB x10 (SA n1 x0 x7 fun x11 =>
 LD x11 h8 fun x12 =>
 SA n1 x1 x7 fun x13 =>
 LD x13 h8 fun x14 =>
 NEQ Pr 3 false x12 x14 fun x15 =>
 IFB x15 (kr (.bool false) h8)
 (ADD Pr 3 true x7 (.int .i64 n1) fun x16 =>
 j9 x16 h8))
 (kr (.bool true) h8)) (.int .i64 n0) h2
def F62 (fu : Nat) (oR : Orc) (cl : CL) (args : List AV) (h2 : Heap) (kr : KR) (kp : KP) : Ans := AR2 args fun x0 x1 =>
 LENS x0 fun x3 =>
 LENS x1 fun x4 =>
 NEQ Pr 3 false x3 x4 fun x5 =>
 IFB x5 (kr (.bool false) h2)
 (B62x17 x0 fu x1 kr h2)

theorem eqF62 : F62 = fun fu oR => compF Pr fu oR 62 2 := by kernel_rfl

def B63x30 (x0 : AV) (x8 : AV) (h9 : Heap) (x1 : AV) (x2 : AV) (cl : CL) (kr : KR) (j10 : AV → Heap → Ans) (kp : KP) : Ans := SA n5 x0 x8 fun x12 =>
 LDN n5 x12 h9 fun x13 =>
 NEWC (.n (some (.int .i64 n0)) (.n (some (.str n0 n0)) (.n (some (.int .i64 n0)) .e .e) .e) (.n (some (.nilslice)) (.n (some (.int .i64 n0)) .e .e) .e)) n5 61 h9 fun x14 h15 =>
 ST n5 x14 x13 h15 fun h16 =>
 SA n5 x1 x8 fun x17 =>
 LDN n5 x17 h16 fun x18 =>
 NEWC (.n (some (.int .i64 n0)) (.n (some (.str n0 n0)) (.n (some (.int .i64 n0)) .e .e) .e) (.n (some (.nilslice)) (.n (some (.int .i64 n0)) .e .e) .e)) n5 61 h16 fun x19 h20 =>
 ST n5 x19 x18 h20 fun h21 =>
 LDN n5 x14 h21 fun x22 =>
 LDN n5 x19 h21 fun x23 =>
 GEN (callV Pr (some x2) [x22, x23] h21) cl (fun x24 h25 =>
 OV (unOpA .not x24) fun x28 =>
 IFB x28 (kr (.bool false) h25)
 (ADD Pr 3 true x8 (.int .i64 n1) fun x29 =>
 j10 x29 h25)) kp
def F63 (fu : Nat) (oR : Orc) (cl : CL) (args : List AV) (h3 : Heap) (kr : KR) (kp : KP) : Ans := AR3 args fun x0 x1 x2 =>
 LENS x0 fun x4 =>
 LENS x1 fun x5 =>
 NEQ Pr 3 false x4 x5 fun x6 =>
 IFB x6 (kr (.bool false) h3)
 (LENS x0 fun x7 =>
 LP fu (fun _ _ => Ans.no) (fun j10 x8 h9 =>
 LSS Pr 3 false x8 x7 fun x11 =>
 IFB x11 (B63x30 x0 x8 h9 x1 x2 cl kr j10 kp)
 (kr (.bool true) h9)) (.int .i64 n0) h3)

theorem eqF63 : F63 = fun fu oR => compF Pr fu oR 63 3 := by kernel_rfl

def B64x62 (x44 : AV) (kr : KR) (x47 : AV) (x5 : AV) (h48 : Heap) : Ans := JO (fun x49 h50 =>
 JO (fun x51 h52 =>
 JO (fun x53 h54 =>
 SEL x44 x53 (.bool false) fun x55 =>
 kr x55 h54) fun j56 =>
 GW true x44 (EQL Pr 3 false x47 x51 fun x57 =>
 j56 x57 h52)
 (j56 undefA h52)) fun j58 =>
 GW true x44 (LD x49 h50 fun x59 =>
 j58 x59 h50)
 (j58 undefA h50)) fun j60 =>
 GW true x44 (FA n4 x5 fun x61 =>
 j60 x61 h48)
 (j60 undefA h48)
def B64x69 (x33 : AV) (kr : KR) (x5 : AV) (x3 : AV) (x36 : AV) (x40 : AV) (h41 : Heap) : Ans := JO (fun x42 h43 =>
 SEL x33 x42 (.bool false) fun x44 =>
 JO (fun x45 h46 =>
 JO (fun x47 h48 =>
 B64x62 x44 kr x47 x5 h48) fun j63 =>
 GW true x44 (LD x45 h46 fun x64 =>
 j63 x64 h46)
 (j63 undefA h46)) fun j65 =>
 GW true x44 (FA n4 x3 fun x66 =>
 j65 x66 h43)
 (j65 undefA h43)) fun j67 =>
 GW true x33 (EQL Pr 3 false x36 x40 fun x68 =>
 j67 x68 h41)
 (j67 undefA h41)
def B64x76 (x33 : AV) (kr : KR) (x5 : AV) (x3 : AV) (x34 : AV) (h35 : Heap) : Ans := JO (fun x36 h37 =>
 JO (fun x38 h39 =>
 JO (fun x40 h41 =>
 B64x69 x33 kr x5 x3 x36 x40 h41) fun j70 =>
 GW true x33 (LD x38 h39 fun x71 =>
 j70 x71 h39)
 (j70 undefA h39)) fun j72 =>
 GW true x33 (FA n3 x5 fun x73 =>
 j72 x73 h37)
 (j72 undefA h37)) fun j74 =>
 GW true x33 (LD x34 h35 fun x75 =>
 j74 x75 h35)
 (j74 undefA h35)
def B64x86 (x22 : AV) (kr : KR) (x5 : AV) (x3 : AV) (cl : CL) (x25 : AV) (kp : KP) (x27 : AV) (h28 : Heap) : Ans := JO (fun x29 h30 =>
 JO (fun x31 h32 =>
 SEL x22 x31 (.bool false) fun x33 =>
 JO (fun x34 h35 =>
 B64x76 x33 kr x5 x3 x34 h35) fun j77 =>
 GW true x33 (FA n3 x3 fun x78 =>
 j77 x78 h32)
 (j77 undefA h32)) fun j79 =>
 GW true x22 (cl n65 [x25, x29] h30 (fun x80 h81 =>
 j79 x80 h81) kp)
 (j79 undefA h30)) fun j84 =>
 GW true x22 (LD x27 h28 fun x85 =>
 j84 x85 h28)
 (j84 undefA h28)
def B64x93 (x11 : AV) (x20 : AV) (kr : KR) (x5 : AV) (x3 : AV) (cl : CL) (kp : KP) (h21 : Heap) : Ans := SEL x11 x20 (.bool false) fun x22 =>
 JO (fun x23 h24 =>
 JO (fun x25 h26 =>
 JO (fun x27 h28 =>
 B64x86 x22 kr x5 x3 cl x25 kp x27 h28) fun j87 =>
 GW true x22 (FA n2 x5 fun x88 =>
 j87 x88 h26)
 (j87 undefA h26)) fun j89 =>
 GW true x22 (LD x23 h24 fun x90 =>
 j89 x90 h24)
 (j89 undefA h24)) fun j91 =>
 GW true x22 (FA n2 x3 fun x92 =>
 j91 x92 h21)
 (j91 undefA h21)
def B64x100 (x11 : AV) (kr : KR) (x5 : AV) (x3 : AV) (cl : CL) (kp : KP) (x14 : AV) (h15 : Heap) : Ans := JO (fun x16 h17 =>
 JO (fun x18 h19 =>
 JO (fun x20 h21 =>
 B64x93 x11 x20 kr x5 x3 cl kp h21) fun j94 =>
 GW true x11 (EQL Pr 9 false x14 x18 fun x95 =>
 j94 x95 h19)
 (j94 undefA h19)) fun j96 =>
 GW true x11 (LD x16 h17 fun x97 =>
 j96 x97 h17)
 (j96 undefA h17)) fun j98 =>
 GW true x11 (FA n1 x5 fun x99 =>
 j98 x99 h15)
 (j98 undefA h15)
def F64 (fu : Nat) (oR : Orc) (cl : CL) (args : List AV) (h2 : Heap) (kr : KR) (kp : KP) : Ans := AR2 args fun x0 x1 =>
 BOX 61 x0 h2 fun x3 h4 =>
 BOX 61 x1 h4 fun x5 h6 =>
 FA n0 x3 fun x7 =>
 LD x7 h6 fun x8 =>
 FA n0 x5 fun x9 =>
 LD x9 h6 fun x10 =>
 EQL Pr 3 false x8 x10 fun x11 =>
 JO (fun x12 h13 =>
 JO (fun x14 h15 =>
 B64x100 x11 kr x5 x3 cl kp x14 h15) fun j101 =>
 GW true x11 (LD x12 h13 fun x102 =>
 j101 x102 h13)
 (j101 undefA h13)) fun j103 =>
 GW true x11 (FA n1 x3 fun x104 =>
 j103 x104 h6)
 (j103 undefA h6)

theorem eqF64 : F64 = fun fu oR => compF Pr fu oR 64 2 := by kernel_rfl

def B65x17 (x0 : AV) (fu : Nat) (x1 : AV) (kr : KR) (h2 : Heap) : Ans := LENS x0 fun x6 =>
 LP fu (fun _ _ => Ans.no) (fun j9 x7 h8 =>
 LSS Pr 3 false x7 x6 fun x10 =>
 IFB x10 (SA n1 x0 x7 fun x11 =>
 LD x11 h8 fun x12 =>
 SA n1 x1 x7 fun x13 =>
 LD x13 h8 fun x14 =>
 NEQ Pr 9 false x12 x14 fun x15 =>
 IFB x15 (kr (.bool false) h8)
 (ADD Pr 3 true x7 (.int .i64 n1) fun x16 =>
 j9 x16 h8))
 (kr (.bool true) h8)) (.int .i64 n0) h2
def F65 (fu : Nat) (oR : Orc) (cl : CL) (args : List AV) (h2 : Heap) (kr : KR) (kp : KP) : Ans := AR2 args fun x0 x1 =>
 LENS x0 fun x3 =>
 LENS x1 fun x4 =>
 NEQ Pr 3 false x3 x4 fun x5 =>
 IFB x5 (kr (.bool false) h2)
 (B65x17 x0 fu x1 kr h2)

theorem eqF65 : F65 = fun fu oR => compF Pr fu oR 65 2 := by kernel_rfl

def F66 (fu : Nat) (oR : Orc) (cl : CL) (args : List AV) (h2 : Heap) (kr : KR) (kp : KP) : Ans := AR2 args fun x0 x1 =>
 cl n87 [x0, x1] h2 (fun x3 h4 =>
 GEQ Pr 3 true x3 (.int .i64 n0) fun x7 =>
 kr x7 h4) kp

theorem eqF66 : F66 = fun fu oR => compF Pr fu oR 66 2 := by kernel_rfl

def F68 (fu : Nat) (oR : Orc) (cl : CL) (args : List AV) (h2 : Heap) (kr : KR) (kp : KP) : Ans := AR2 args fun x0 x1 =>
 BOX 54 x0 h2 fun x3 h4 =>
 NEWC (.n (some (.int .i64 n0)) .e .e) n1 3 h4 fun x5 h6 =>
 GDF (dfrV (some (.func (.func 91) [] [x3, x5])) [] h6) fun i7 a8 h9 =>
 LD x3 h9 fun x10 =>
 cl n92 [x10, x1] h9 (fun x11 h12 =>
 ST n1 x5 x11 h12 fun h15 =>
 ENDD ((i7, a8) :: []) (LD x5 h15 fun x16 =>
 kr x16 h15)
 (SLOW Pr oR 68 [(4, x5)] ((i7, a8) :: []) .returning h15 kr kp)) (fun c13 h14 => ENDD ((i7, a8) :: []) (kp c13 h14)
 (SLOW Pr oR 68 [(4, x5)] ((i7, a8) :: []) (.panicking c13) h14 kr kp))

theorem eqF68 : F68 = fun fu oR => compF Pr fu oR 68 2 := by kernel_rfl

def B69x35 (x7 : AV) (x20 : AV) (h23 : Heap) (x8 : AV) (cl : CL) (j19 : AV → AV → Heap → Ans) (kp : KP) : Ans := OV (buildA Pr 147 [(n0, x7), (n1, x20)]) fun x27 =>
 BSL n147 n2 [(.int .i64 n0), (.int .i64 n0)] n1 [(n0, x27)] h23 fun x28 h29 =>
 GEN (builtinF .append Pr [145, 145] [x8, x28] h29) cl (fun x30 h31 =>
 OV (unOpA .xor x7) fun x34 =>
 j19 x34 x30 h31) kp
def B69x37 (j10 : AV → AV → Heap → Ans) (x11 : AV) (x1 : AV) (h12 : Heap) (cl : CL) (x7 : AV) (x8 : AV) (kp : KP) : Ans := JO (fun x16 x17 h18 =>
 j10 x16 x17 h18) fun j19 =>
 EX n1 x11 fun x20 =>
 EX n2 x11 fun x21 =>
 GEN (callV Pr (some x1) [x21] h12) cl (fun x22 h23 =>
 IFB x22 (GEQ Pr 3 true x7 (.int .i64 n0) fun x26 =>
 IFB x26 (B69x35 x7 x20 h23 x8 cl j19 kp)
 (j19 x7 x8 h23))
 (LSS Pr 3 true x7 (.int .i64 n0) fun x36 =>
 IFB x36 (j19 x20 x8 h23)
 (j19 x7 x8 h23))) kp
def B69x61 (x38 : AV) (x44 : AV) (h45 : Heap) (x0 : AV) (x41 : AV) (j46 : AV → Heap → Ans) : Ans := SA n2 x38 x44 fun x48 =>
 LDN n2 x48 h45 fun x49 =>
 NEWC (.n (some (.int .i64 n0)) (.n (some (.int .i64 n0)) .e .e) .e) n2 147 h45 fun x50 h51 =>
 ST n2 x50 x49 h51 fun h52 =>
 FA n0 x50 fun x53 =>
 LD x53 h52 fun x54 =>
 FA n1 x50 fun x55 =>
 LD x55 h52 fun x56 =>
 OV (sliceA Pr 9 x0 (some x54) (some x56) none) fun x57 =>
 SA n1 x41 x44 fun x58 =>
 ST n1 x58 x57 h52 fun h59 =>
 ADD Pr 3 true x44 (.int .i64 n1) fun x60 =>
 j46 x60 h59
def B69x72 (x0 : AV) (x7 : AV) (h12 : Heap) (x8 : AV) (cl : CL) (j62 : AV → Heap → Ans) (kp : KP) : Ans := LENT x0 fun x64 =>
 OV (buildA Pr 147 [(n0, x7), (n1, x64)]) fun x65 =>
 BSL n147 n2 [(.int .i64 n0), (.int .i64 n0)] n1 [(n0, x65)] h12 fun x66 h67 =>
 GEN (builtinF .append Pr [145, 145] [x8, x66] h67) cl (fun x68 h69 =>
 j62 x68 h69) kp
def B69x73 (fu : Nat) (x0 : AV) (kr : KR) (x7 : AV) (h12 : Heap) (x8 : AV) (cl : CL) (kp : KP) : Ans := JO (fun x38 h39 =>
 LENS x38 fun x40 =>
 OVH (makeSliceA Pr h39 48 x40 x40) fun x41 h42 =>
 LENS x38 fun x43 =>
 LP fu (fun _ _ => Ans.no) (fun j46 x44 h45 =>
 LSS Pr 3 false x44 x43 fun x47 =>
 IFB x47 (B69x61 x38 x44 h45 x0 x41 j46)
 (kr x41 h45)) (.int .i64 n0) h42) fun j62 =>
 GEQ Pr 3 true x7 (.int .i64 n0) fun x63 =>
 IFB x63 (B69x72 x0 x7 h12 x8 cl j62 kp)
 (j62 x8 h12)
def F69 (fu : Nat) (oR : Orc) (cl : CL) (args : List AV) (h2 : Heap) (kr : KR) (kp : KP) : Ans := AR2 args fun x0 x1 =>
 OVH (makeSliceA Pr h2 145 (.int .i64 n0) (.int .i64 n32)) fun x3 h4 =>
 OVH (rangeA Pr h4 9 x0) fun x5 h6 =>
 LP fu (fun _ _ _ => Ans.no) (fun j10 x7 x8 h9 =>
 GEN (nextA h9 x5 true) cl (fun x11 h12 =>
 EX n0 x11 fun x15 =>
 IFB x15 (B69x37 j10 x11 x1 h12 cl x7 x8 kp)
 (B69x73 fu x0 kr x7 h12 x8 cl kp)) kp) (.int .i64 (nat_lit 18446744073709551615)) x3 h6

theorem eqF69 : F69 = fun fu oR => compF Pr fu oR 69 2 := by kernel_rfl

def B70x18 (x2 : AV) (kr : KR) (x0 : AV) (x3 : AV) (h4 : Heap) : Ans := JO (fun x5 h6 =>
 SEL x2 (.bool true) x5 fun x7 =>
 JO (fun x8 h9 =>
 JO (fun x10 h11 =>
 SEL x7 (.bool true) x10 fun x12 =>
 kr x12 h11) fun j13 =>
 GW false x7 (EQL Pr 21 true x8 (.int .i32 n10) fun x14 =>
 j13 x14 h9)
 (j13 undefA h9)) fun j15 =>
 GW false x7 (j15 x0 h6)
 (j15 undefA h6)) fun j16 =>
 GW false x2 (EQL Pr 21 true x3 (.int .i32 n9) fun x17 =>
 j16 x17 h4)
 (j16 undefA h4)
def F70 (fu : Nat) (oR : Orc) (cl : CL) (args : List AV) (h1 : Heap) (kr : KR) (kp : KP) : Ans := AR1 args fun x0 =>
 EQL Pr 21 true x0 (.int .i32 n32) fun x2 =>
 JO (fun x3 h4 =>
 B70x18 x2 kr x0 x3 h4) fun j19 =>
 GW false x2 (j19 x0 h1)
 (j19 undefA h1)

theorem eqF70 : F70 = fun fu oR => compF Pr fu oR 70 1 := by kernel_rfl

def B71x71 (cl : CL) (x0 : AV) (x10 : AV) (x9 : AV) (x40 : AV) (x4 : AV) (h44 : Heap) (x20 : AV) (x31 : AV) (j19 : AV → AV → AV → AV → AV → Heap → Ans) (kp : KP) : Ans := cl n100 [x0, x10, x9, x40, x4] h44 (fun x49 h50 =>
 EX n0 x49 fun x53 =>
 EX n1 x49 fun x54 =>
 SUB Pr 3 false x53 x10 fun x55 =>
 SUB Pr 3 false x9 x53 fun x56 =>
 BOP Pr .quo 3 true x20 (.int .i64 n8) fun x57 =>
 LSS Pr 3 false x55 x56 fun x58 =>
 IFB x58 (GEQ Pr 3 false x55 x57 fun x59 =>
 cl n71 [x0, x10, x53, x31, x4] h50 (fun x60 h61 =>
 ADD Pr 3 true x53 (.int .i64 n1) fun x64 =>
 j19 x54 x59 x31 x9 x64 h61) kp)
 (GEQ Pr 3 false x56 x57 fun x65 =>
 ADD Pr 3 true x53 (.int .i64 n1) fun x66 =>
 cl n71 [x0, x66, x9, x31, x4] h50 (fun x67 h68 =>
 j19 x54 x65 x31 x53 x10 h68) kp)) kp
def B71x110 (x73 : AV) (j72 : AV → Heap → Ans) (x74 : AV) (x84 : AV) (x92 : AV) (h93 : Heap) (cl : CL) (kp : KP) : Ans := JO (fun x94 h95 =>
 JO (fun x96 h97 =>
 JO (fun x98 h99 =>
 SEL x73 x98 (.bool false) fun x100 =>
 j72 x100 h99) fun j101 =>
 GW true x73 (OV (unOpA .not x96) fun x102 =>
 j101 x102 h97)
 (j101 undefA h97)) fun j103 =>
 GW true x73 (LSS Pr 3 true x94 (.int .i64 n0) fun x104 =>
 j103 x104 h95)
 (j103 undefA h95)) fun j105 =>
 GW true x73 (GEN (callV Pr (some x74) [x84, x92] h93) cl (fun x106 h107 =>
 j105 x106 h107) kp)
 (j105 undefA h93)
def B71x116 (x73 : AV) (j72 : AV → Heap → Ans) (x74 : AV) (x84 : AV) (cl : CL) (kp : KP) (x86 : AV) (x40 : AV) (h87 : Heap) : Ans := JO (fun x88 h89 =>
 JO (fun x90 h91 =>
 JO (fun x92 h93 =>
 B71x110 x73 j72 x74 x84 x92 h93 cl kp) fun j111 =>
 GW true x73 (LDN n4 x90 h91 fun x112 =>
 j111 x112 h91)
 (j111 undefA h91)) fun j113 =>
 GW true x73 (SA n4 x86 x88 fun x114 =>
 j113 x114 h89)
 (j113 undefA h89)) fun j115 =>
 GW true x73 (j115 x40 h87)
 (j115 undefA h87)
def B71x122 (x73 : AV) (j72 : AV → Heap → Ans) (x74 : AV) (cl : CL) (kp : KP) (x40 : AV) (x0 : AV) (x76 : AV) (x80 : AV) (h81 : Heap) : Ans := JO (fun x82 h83 =>
 JO (fun x84 h85 =>
 JO (fun x86 h87 =>
 B71x116 x73 j72 x74 x84 cl kp x86 x40 h87) fun j117 =>
 GW true x73 (j117 x0 h85)
 (j117 undefA h85)) fun j118 =>
 GW true x73 (LDN n4 x82 h83 fun x119 =>
 j118 x119 h83)
 (j118 undefA h83)) fun j120 =>
 GW true x73 (SA n4 x76 x80 fun x121 =>
 j120 x121 h81)
 (j120 undefA h81)
def B71x127 (x73 : AV) (j72 : AV → Heap → Ans) (x74 : AV) (cl : CL) (kp : KP) (x40 : AV) (x0 : AV) (x10 : AV) (h75 : Heap) : Ans := JO (fun x76 h77 =>
 JO (fun x78 h79 =>
 JO (fun x80 h81 =>
 B71x122 x73 j72 x74 cl kp x40 x0 x76 x80 h81) fun j123 =>
 GW true x73 (SUB Pr 3 true x78 (.int .i64 n1) fun x124 =>
 j123 x124 h79)
 (j123 undefA h79)) fun j125 =>
 GW true x73 (j125 x10 h77)
 (j125 undefA h77)) fun j126 =>
 GW true x73 (j126 x0 h75)
 (j126 undefA h75)
def B71x129 (cl : CL) (x0 : AV) (x10 : AV) (x9 : AV) (x40 : AV) (x4 : AV) (j19 : AV → AV → AV → AV → AV → Heap → Ans) (x6 : AV) (x7 : AV) (x31 : AV) (kp : KP) (x20 : AV) (h42 : Heap) : Ans := JO (fun x43 h44 =>
 IFB x43 (cl n99 [x0, x10, x9, x40, x4] h44 (fun x45 h46 =>
 j19 x6 x7 x31 x9 x45 h46) kp)
 (B71x71 cl x0 x10 x9 x40 x4 h44 x20 x31 j19 kp)) fun j72 =>
 GTR Pr 3 true x10 (.int .i64 n0) fun x73 =>
 JO (fun x74 h75 =>
 B71x127 x73 j72 x74 cl kp x40 x0 x10 h75) fun j128 =>
 GW true x73 (j128 x4 h42)
 (j128 undefA h42)
def B71x145 (x133 : AV) (cl : CL) (x0 : AV) (x10 : AV) (x9 : AV) (x4 : AV) (kr : KR) (j130 : Heap → Ans) (kp : KP) (x134 : AV) (h135 : Heap) : Ans := JO (fun x136 h137 =>
 SEL x133 x136 (.bool false) fun x138 =>
 IFB x138 (cl n98 [x0, x10, x9, x4] h137 (fun x139 h140 =>
 IFB x139 (kr (.tuple []) h140)
 (j130  h140)) kp)
 (j130  h137)) fun j143 =>
 GW true x133 (EQL Pr 149 true x134 (.int .i64 n1) fun x144 =>
 j143 x144 h135)
 (j143 undefA h135)
def B71x148 (cl : CL) (x0 : AV) (x10 : AV) (x9 : AV) (x40 : AV) (x4 : AV) (j19 : AV → AV → AV → AV → AV → Heap → Ans) (x6 : AV) (x7 : AV) (x31 : AV) (kp : KP) (x20 : AV) (kr : KR) (x39 : AV) (h41 : Heap) : Ans := JO (fun h42 =>
 B71x129 cl x0 x10 x9 x40 x4 j19 x6 x7 x31 kp x20 h42) fun j130 =>
 JO (fun x131 h132 =>
 SEL x7 x131 (.bool false) fun x133 =>
 JO (fun x134 h135 =>
 B71x145 x133 cl x0 x10 x9 x4 kr j130 kp x134 h135) fun j146 =>
 GW true x133 (j146 x39 h132)
 (j146 undefA h132)) fun j147 =>
 GW true x7 (j147 x6 h41)
 (j147 undefA h41)
def B71x158 (cl : CL) (x0 : AV) (x10 : AV) (x9 : AV) (x4 : AV) (h32 : Heap) (j19 : AV → AV → AV → AV → AV → Heap → Ans) (x6 : AV) (x7 : AV) (x31 : AV) (kp : KP) (x20 : AV) (kr : KR) : Ans := cl n96 [x0, x10, x9, x4] h32 (fun x33 h34 =>
 EX n0 x33 fun x37 =>
 EX n1 x33 fun x38 =>
 JO (fun x39 x40 h41 =>
 B71x148 cl x0 x10 x9 x40 x4 j19 x6 x7 x31 kp x20 kr x39 h41) fun j149 =>
 EQL Pr 149 true x38 (.int .i64 n2) fun x150 =>
 IFB x150 (cl n97 [x0, x10, x9, x4] h34 (fun x151 h152 =>
 SUB Pr 3 true x9 (.int .i64 n1) fun x155 =>
 SUB Pr 3 false x37 x10 fun x156 =>
 SUB Pr 3 false x155 x156 fun x157 =>
 j149 (.int .i64 n1) x157 h152) kp)
 (j149 x38 x37 h34)) kp
def B71x166 (x8 : AV) (cl : CL) (x0 : AV) (x10 : AV) (x9 : AV) (x4 : AV) (h11 : Heap) (kr : KR) (kp : KP) (j19 : AV → AV → AV → AV → AV → Heap → Ans) (x6 : AV) (x7 : AV) (x20 : AV) : Ans := EQL Pr 3 true x8 (.int .i64 n0) fun x26 =>
 IFB x26 (cl n94 [x0, x10, x9, x4] h11 (fun x27 h28 =>
 kr (.tuple []) h28) kp)
 (JO (fun x31 h32 =>
 B71x158 cl x0 x10 x9 x4 h32 j19 x6 x7 x31 kp x20 kr) fun j159 =>
 OV (unOpA .not x7) fun x160 =>
 IFB x160 (cl n95 [x0, x10, x9, x4] h11 (fun x161 h162 =>
 SUB Pr 3 true x8 (.int .i64 n1) fun x165 =>
 j159 x165 h162) kp)
 (j159 x8 h11))
def B71x167 (j12 : AV → AV → AV → AV → AV → Heap → Ans) (x9 : AV) (x10 : AV) (cl : CL) (x0 : AV) (x4 : AV) (h11 : Heap) (kr : KR) (kp : KP) (x8 : AV) (x6 : AV) (x7 : AV) : Ans := JO (fun x13 x14 x15 x16 x17 h18 =>
 j12 x13 x14 x15 x16 x17 h18) fun j19 =>
 SUB Pr 3 false x9 x10 fun x20 =>
 LEQ Pr 3 true x20 (.int .i64 n12) fun x21 =>
 IFB x21 (cl n93 [x0, x10, x9, x4] h11 (fun x22 h23 =>
 kr (.tuple []) h23) kp)
 (B71x166 x8 cl x0 x10 x9 x4 h11 kr kp j19 x6 x7 x20)
def F71 (fu : Nat) (oR : Orc) (cl : CL) (args : List AV) (h5 : Heap) (kr : KR) (kp : KP) : Ans := AR5 args fun x0 x1 x2 x3 x4 =>
 LP fu (fun _ _ _ _ _ _ => Ans.no) (fun j12 x6 x7 x8 x9 x10 h11 =>
 B71x167 j12 x9 x10 cl x0 x4 h11 kr kp x8 x6 x7) (.bool true) (.bool true) x3 x2 x1 h5

theorem eqF71 : F71 = fun fu oR => compF Pr fu oR 71 5 := by kernel_rfl

def F72 (fu : Nat) (oR : Orc) (cl : CL) (args : List AV) (h1 : Heap) (kr : KR) (kp : KP) : Ans := AR1 args fun x0 =>
 IFB (.bool false) (OV (convV Pr h1 121 156 x0) fun x2 =>
 cl n101 [x2] h1 (fun x3 h4 =>
 kr x3 h4) kp)
 (cl n102 [x0] h1 (fun x7 h8 =>
 kr x7 h8) kp)

theorem eqF72 : F72 = fun fu oR => compF Pr fu oR 72 1 := by kernel_rfl

def F73 (fu : Nat) (oR : Orc) (cl : CL) (args : List AV) (h1 : Heap) (kr : KR) (kp : KP) : Ans := AR1 args fun x0 =>
 NEQ Pr 9 false x0 x0 fun x2 =>
 kr x2 h1

theorem eqF73 : F73 = fun fu oR => compF Pr fu oR 73 1 := by kernel_rfl

def F74 (fu : Nat) (oR : Orc) (cl : CL) (args : List AV) (h1 : Heap) (kr : KR) (kp : KP) : Ans := AR1 args fun x0 =>
 NEQ Pr 3 false x0 x0 fun x2 =>
 kr x2 h1

theorem eqF74 : F74 = fun fu oR => compF Pr fu oR 74 1 := by kernel_rfl

def B75x30 (x14 : AV) (h17 : Heap) (x9 : AV) (cl : CL) (x0 : AV) (x16 : AV) (j11 : AV → AV → Heap → Ans) (kp : KP) : Ans := LDN n4 x14 h17 fun x19 =>
 BSL n130 n4 [(.int .i64 n0), (.str n0 n0), (.int .i64 n0), (.int .i64 n0)] n1 [(n0, x19)] h17 fun x20 h21 =>
 GEN (builtinF .append Pr [122, 122] [x9, x20] h21) cl (fun x22 h23 =>
 cl n103 [x0, x16] h23 (fun x26 h27 =>
 j11 x26 x22 h27) kp) kp
def B75x88 (x66 : AV) (x71 : AV) (cl : CL) (x0 : AV) (x8 : AV) (h72 : Heap) (x14 : AV) (j31 : AV → Heap → Ans) (kp : KP) : Ans := SEL x66 x71 (.bool false) fun x73 =>
 IFB x73 (cl n109 [x0, x8] h72 (fun x74 h75 =>
 EX n0 x74 fun x78 =>
 EX n1 x74 fun x79 =>
 ST n4 x14 x78 h75 fun h80 =>
 j31 x79 h80) kp)
 (cl n110 [x0, x8] h72 (fun x81 h82 =>
 EX n0 x81 fun x85 =>
 EX n1 x81 fun x86 =>
 ST n4 x14 x85 h82 fun h87 =>
 j31 x86 h87) kp)
def B75x97 (x0 : AV) (x8 : AV) (cl : CL) (x14 : AV) (j31 : AV → Heap → Ans) (kp : KP) (x9 : AV) (h55 : Heap) : Ans := SAT x0 x8 fun x65 =>
 EQL Pr 5 true x65 (.int .u8 n47) fun x66 =>
 JO (fun x67 h68 =>
 JO (fun x69 h70 =>
 JO (fun x71 h72 =>
 B75x88 x66 x71 cl x0 x8 h72 x14 j31 kp) fun j89 =>
 GW true x66 (OV (unOpA .not x69) fun x90 =>
 j89 x90 h70)
 (j89 undefA h70)) fun j91 =>
 GW true x66 (cl n108 [x67] h68 (fun x92 h93 =>
 j91 x92 h93) kp)
 (j91 undefA h68)) fun j96 =>
 GW true x66 (j96 x9 h55)
 (j96 undefA h55)
def B75x98 (x0 : AV) (x8 : AV) (cl : CL) (h34 : Heap) (x14 : AV) (j31 : AV → Heap → Ans) (kp : KP) (x9 : AV) : Ans := SAT x0 x8 fun x44 =>
 EQL Pr 5 true x44 (.int .u8 n34) fun x45 =>
 IFB x45 (cl n105 [x0, x8] h34 (fun x46 h47 =>
 EX n0 x46 fun x50 =>
 EX n1 x46 fun x51 =>
 ST n4 x14 x50 h47 fun h52 =>
 j31 x51 h52) kp)
 (SAT x0 x8 fun x53 =>
 cl n106 [x53] h34 (fun x54 h55 =>
 IFB x54 (cl n107 [x0, x8] h55 (fun x58 h59 =>
 EX n0 x58 fun x62 =>
 EX n1 x58 fun x63 =>
 ST n4 x14 x62 h59 fun h64 =>
 j31 x63 h64) kp)
 (B75x97 x0 x8 cl x14 j31 kp x9 h55)) kp)
def B75x99 (h10 : Heap) (kr : KR) (x8 : AV) (x9 : AV) (cl : CL) (x0 : AV) (j11 : AV → AV → Heap → Ans) (kp : KP) : Ans := NEWC (.n (some (.int .i64 n0)) (.n (some (.str n0 n0)) (.n (some (.int .i64 n0)) .e .e) .e) (.n (some (.int .i64 n0)) .e .e)) n4 130 h10 fun x14 h15 =>
 JO (fun x16 h17 =>
 LSS Pr 3 true x16 (.int .i64 n0) fun x18 =>
 IFB x18 (kr (.tuple [(.nilslice), x8]) h17)
 (B75x30 x14 h17 x9 cl x0 x16 j11 kp)) fun j31 =>
 SAT x0 x8 fun x32 =>
 cl n55 [x32] h15 (fun x33 h34 =>
 IFB x33 (cl n104 [x0, x8] h34 (fun x37 h38 =>
 EX n0 x37 fun x41 =>
 EX n1 x37 fun x42 =>
 ST n4 x14 x41 h38 fun h43 =>
 j31 x42 h43) kp)
 (B75x98 x0 x8 cl h34 x14 j31 kp x9)) kp
def F75 (fu : Nat) (oR : Orc) (cl : CL) (args : List AV) (h1 : Heap) (kr : KR) (kp : KP) : Ans := AR1 args fun x0 =>
 LENT x0 fun x2 =>
 GTR Pr 3 true x2 (.int .i64 n4000) fun x3 =>
 IFB x3 (kr (.tuple [(.nilslice), (.int .i64 n0)]) h1)
 (cl n103 [x0, (.int .i64 n0)] h1 (fun x4 h5 =>
 LP fu (fun _ _ _ => Ans.no) (fun j11 x8 x9 h10 =>
 LENT x0 fun x12 =>
 LSS Pr 3 false x8 x12 fun x13 =>
 IFB x13 (B75x99 h10 kr x8 x9 cl x0 j11 kp)
 (kr (.tuple [x9, (.int .i64 (nat_lit 18446744073709551615))]) h10)) x4 (.nilslice) h5) kp)

theorem eqF75 : F75 = fun fu oR => compF Pr fu oR 75 1 := by kernel_rfl

def B76x54 (cl : CL) (x0 : AV) (h36 : Heap) (x5 : AV) (j18 : Heap → Ans) (kp : KP) : Ans := cl n113 [x0, (.str n1 n123)] h36 (fun x41 h42 =>
 OV (unOpA .not x41) fun x45 =>
 IFB x45 (FA n0 x5 fun x46 =>
 ST n1 x46 (.int .i64 n3) h42 fun h47 =>
 cl n114 [x0] h47 (fun x48 h49 =>
 FA n3 x5 fun x52 =>
 ST n1 x52 x48 h49 fun h53 =>
 j18  h53) kp)
 (j18  h42)) kp
def B76x55 (cl : CL) (x0 : AV) (h20 : Heap) (x5 : AV) (j18 : Heap → Ans) (kp : KP) : Ans := cl n111 [x0, (.str n5 (nat_lit 336236856642))] h20 (fun x29 h30 =>
 IFB x29 (FA n0 x5 fun x33 =>
 ST n1 x33 (.int .i64 n0) h30 fun h34 =>
 j18  h34)
 (cl n111 [x0, (.str n3 (nat_lit 4476485))] h30 (fun x35 h36 =>
 IFB x35 (FA n0 x5 fun x39 =>
 ST n1 x39 (.int .i64 n1) h36 fun h40 =>
 j18  h40)
 (B76x54 cl x0 h36 x5 j18 kp)) kp)) kp
def F76 (fu : Nat) (oR : Orc) (cl : CL) (args : List AV) (h1 : Heap) (kr : KR) (kp : KP) : Ans := AR1 args fun x0 =>
 NEWC (.n (some (.int .i64 n0)) (.n (some (.str n0 n0)) (.n (some (.int .i64 n0)) .e .e) .e) (.n (some (.nilslice)) (.n (some (.int .i64 n0)) .e .e) .e)) n5 61 h1 fun x2 h3 =>
 OV (buildA Pr 61 [(n0, (.int .i64 n2)), (n3, (.int .i64 (nat_lit 18446744073709551615)))]) fun x4 =>
 NEWC (.n (some (.int .i64 n0)) (.n (some (.str n0 n0)) (.n (some (.int .i64 n0)) .e .e) .e) (.n (some (.nilslice)) (.n (some (.int .i64 n0)) .e .e) .e)) n5 61 h3 fun x5 h6 =>
 ST n5 x5 x4 h6 fun h7 =>
 JO (fun h8 =>
 cl n115 [x0] h8 (fun x9 h10 =>
 FA n4 x5 fun x13 =>
 ST n1 x13 x9 h10 fun h14 =>
 LDN n5 x5 h14 fun x15 =>
 ST n5 x2 x15 h14 fun h16 =>
 LDN n5 x2 h16 fun x17 =>
 kr x17 h16) kp) fun j18 =>
 cl n111 [x0, (.str n8 (nat_lit 7957695015192261990))] h7 (fun x19 h20 =>
 IFB x19 (cl n112 [x0] h20 (fun x23 h24 =>
 ST n5 x2 x23 h24 fun h27 =>
 LDN n5 x2 h27 fun x28 =>
 kr x28 h27) kp)
 (B76x55 cl x0 h20 x5 j18 kp)) kp

theorem eqF76 : F76 = fun fu oR => compF Pr fu oR 76 1 := by kernel_rfl

def B77x56 (x5 : AV) (x37 : AV) (j40 : AV → AV → Heap → Ans) (x38 : AV) (h39 : Heap) : Ans := JO (fun x45 h46 =>
 FA n2 x5 fun x47 =>
 LD x47 h46 fun x48 =>
 SA n1 x48 x37 fun x49 =>
 LD x49 h46 fun x50 =>
 ADD Pr 9 false x45 x50 fun x51 =>
 ADD Pr 3 true x37 (.int .i64 n1) fun x52 =>
 j40 x52 x51 h46) fun j53 =>
 GTR Pr 3 true x37 (.int .i64 n0) fun x54 =>
 IFB x54 (ADD Pr 9 true x38 (.str n2 n8236) fun x55 =>
 j53 x55 h39)
 (j53 x38 h39)
def B77x58 (x5 : AV) (h6 : Heap) (fu : Nat) (j20 : AV → Heap → Ans) : Ans := FA n1 x5 fun x33 =>
 LD x33 h6 fun x34 =>
 ADD Pr 9 true (.str n9 (nat_lit 598253505373897913702)) x34 fun x35 =>
 ADD Pr 9 true x35 (.str n1 n40) fun x36 =>
 LP fu (fun _ _ _ => Ans.no) (fun j40 x37 x38 h39 =>
 FA n2 x5 fun x41 =>
 LD x41 h39 fun x42 =>
 LENS x42 fun x43 =>
 LSS Pr 3 false x37 x43 fun x44 =>
 IFB x44 (B77x56 x5 x37 j40 x38 h39)
 (ADD Pr 9 true x38 (.str n2 n8233) fun x57 =>
 j20 x57 h39)) (.int .i64 n0) x36 h6
def B77x59 (x8 : AV) (x3 : AV) (h6 : Heap) (x5 : AV) (cl : CL) (j20 : AV → Heap → Ans) (kp : KP) (fu : Nat) : Ans := EQL Pr 3 true x8 (.int .i64 n3) fun x23 =>
 IFB x23 (LDN n2 x3 h6 fun x24 =>
 FA n3 x5 fun x25 =>
 LD x25 h6 fun x26 =>
 cl n116 [x24, x26] h6 (fun x27 h28 =>
 ADD Pr 9 true x27 (.str n1 n32) fun x31 =>
 j20 x31 h28) kp)
 (EQL Pr 3 true x8 (.int .i64 n4) fun x32 =>
 IFB x32 (B77x58 x5 h6 fu j20)
 (j20 (.str n0 n0) h6))
def F77 (fu : Nat) (oR : Orc) (cl : CL) (args : List AV) (h2 : Heap) (kr : KR) (kp : KP) : Ans := AR2 args fun x0 x1 =>
 BOX 33 x0 h2 fun x3 h4 =>
 BOX 61 x1 h4 fun x5 h6 =>
 FA n0 x5 fun x7 =>
 LD x7 h6 fun x8 =>
 JO (fun x9 h10 =>
 LDN n2 x3 h10 fun x11 =>
 FA n4 x5 fun x12 =>
 LD x12 h10 fun x13 =>
 cl n117 [x11, x13] h10 (fun x14 h15 =>
 ADD Pr 9 false x9 x14 fun x18 =>
 ADD Pr 9 true x18 (.str n1 n10) fun x19 =>
 kr x19 h15) kp) fun j20 =>
 EQL Pr 3 true x8 (.int .i64 n0) fun x21 =>
 IFB x21 (j20 (.str n6 (nat_lit 35520608945474)) h6)
 (EQL Pr 3 true x8 (.int .i64 n1) fun x22 =>
 IFB x22 (j20 (.str n4 (nat_lit 541347397)) h6)
 (B77x59 x8 x3 h6 x5 cl j20 kp fu))

theorem eqF77 : F77 = fun fu oR => compF Pr fu oR 77 2 := by kernel_rfl

def B78x25 (x7 : AV) (x3 : AV) (j5 : AV → Heap → Ans) (kr : KR) (cl : CL) (kp : KP) (x8 : AV) (x10 : AV) (h11 : Heap) : Ans := JO (fun x12 h13 =>
 JO (fun x14 h15 =>
 SEL x7 x14 (.bool false) fun x16 =>
 IFB x16 (ADD Pr 3 true x3 (.int .i64 n1) fun x17 =>
 j5 x17 h15)
 (kr x3 h15)) fun j18 =>
 GW true x7 (cl n118 [x12] h13 (fun x19 h20 =>
 j18 x19 h20) kp)
 (j18 undefA h13)) fun j23 =>
 GW true x7 (SAT x8 x10 fun x24 =>
 j23 x24 h11)
 (j23 undefA h11)
def F78 (fu : Nat) (oR : Orc) (cl : CL) (args : List AV) (h2 : Heap) (kr : KR) (kp : KP) : Ans := AR2 args fun x0 x1 =>
 LP fu (fun _ _ => Ans.no) (fun j5 x3 h4 =>
 LENT x0 fun x6 =>
 LSS Pr 3 false x3 x6 fun x7 =>
 JO (fun x8 h9 =>
 JO (fun x10 h11 =>
 B78x25 x7 x3 j5 kr cl kp x8 x10 h11) fun j26 =>
 GW true x7 (j26 x3 h9)
 (j26 undefA h9)) fun j27 =>
 GW true x7 (j27 x0 h4)
 (j27 undefA h4)) x1 h2

theorem eqF78 : F78 = fun fu oR => compF Pr fu oR 78 2 := by kernel_rfl

def B79x45 (x32 : AV) (x2 : AV) (x28 : AV) (x16 : AV) (x27 : AV) (h33 : Heap) (x1 : AV) (j30 : AV → AV → Heap → Ans) : Ans := ADD Pr 3 false x32 x2 fun x37 =>
 OV (sliceA Pr 9 x28 none (some x37) none) fun x38 =>
 SA n1 x16 x27 fun x39 =>
 ST n1 x39 x38 h33 fun h40 =>
 LENT x1 fun x41 =>
 ADD Pr 3 false x32 x41 fun x42 =>
 OV (sliceA Pr 9 x28 (some x42) none none) fun x43 =>
 ADD Pr 3 true x27 (.int .i64 n1) fun x44 =>
 j30 x44 x43 h40
def B79x46 (x0 : AV) (x11 : AV) (h12 : Heap) (kr : KR) (fu : Nat) (cl : CL) (x1 : AV) (x2 : AV) (kp : KP) : Ans := LENT x0 fun x13 =>
 ADD Pr 3 true x13 (.int .i64 n1) fun x14 =>
 OPV (builtinF .min Pr [3, 3] [x11, x14] h12) fun x15 =>
 OVH (makeSliceA Pr h12 48 x15 x15) fun x16 h17 =>
 SUB Pr 3 true x15 (.int .i64 n1) fun x18 =>
 JO (fun x19 x20 h21 =>
 SA n1 x16 x19 fun x22 =>
 ST n1 x22 x20 h21 fun h23 =>
 ADD Pr 3 true x19 (.int .i64 n1) fun x24 =>
 OV (sliceA Pr 48 x16 none (some x24) none) fun x25 =>
 kr x25 h23) fun j26 =>
 LP fu (fun _ _ _ => Ans.no) (fun j30 x27 x28 h29 =>
 LSS Pr 3 false x27 x18 fun x31 =>
 IFB x31 (cl n121 [x28, x1] h29 (fun x32 h33 =>
 LSS Pr 3 true x32 (.int .i64 n0) fun x36 =>
 IFB x36 (j26 x27 x28 h33)
 (B79x45 x32 x2 x28 x16 x27 h33 x1 j30)) kp)
 (j26 x27 x28 h29)) (.int .i64 n0) x0 h17
def B79x54 (x1 : AV) (cl : CL) (x0 : AV) (x3 : AV) (h4 : Heap) (kr : KR) (kp : KP) (fu : Nat) (x2 : AV) : Ans := EQL Pr 9 true x1 (.str n0 n0) fun x6 =>
 IFB x6 (cl n119 [x0, x3] h4 (fun x7 h8 =>
 kr x7 h8) kp)
 (JO (fun x11 h12 =>
 B79x46 x0 x11 h12 kr fu cl x1 x2 kp) fun j47 =>
 LSS Pr 3 true x3 (.int .i64 n0) fun x48 =>
 IFB x48 (cl n120 [x0, x1] h4 (fun x49 h50 =>
 ADD Pr 3 true x49 (.int .i64 n1) fun x53 =>
 j47 x53 h50) kp)
 (j47 x3 h4))
def F79 (fu : Nat) (oR : Orc) (cl : CL) (args : List AV) (h4 : Heap) (kr : KR) (kp : KP) : Ans := AR4 args fun x0 x1 x2 x3 =>
 EQL Pr 3 true x3 (.int .i64 n0) fun x5 =>
 IFB x5 (kr (.nilslice) h4)
 (B79x54 x1 cl x0 x3 h4 kr kp fu x2)

theorem eqF79 : F79 = fun fu oR => compF Pr fu oR 79 4 := by kernel_rfl

def B80x41 (x19 : AV) (x0 : AV) (kr : KR) (cl : CL) (x24 : AV) (h25 : Heap) (kp : KP) : Ans := JO (fun x26 h27 =>
 JO (fun x28 h29 =>
 SEL x19 (.bool true) x28 fun x30 =>
 NC x0 fun x31 =>
 FA n4 x31 fun x32 =>
 ST n1 x32 x30 h29 fun h33 =>
 kr (.tuple []) h33) fun j34 =>
 GW false x19 (GTR Pr 3 true x26 (.int .i64 n4000) fun x35 =>
 j34 x35 h27)
 (j34 undefA h27)) fun j36 =>
 GW false x19 (cl n123 [x24] h25 (fun x37 h38 =>
 j36 x37 h38) kp)
 (j36 undefA h25)
def B80x47 (x0 : AV) (h5 : Heap) (kr : KR) (cl : CL) (kp : KP) : Ans := NC x0 fun x17 =>
 FA n4 x17 fun x18 =>
 LD x18 h5 fun x19 =>
 JO (fun x20 h21 =>
 JO (fun x22 h23 =>
 JO (fun x24 h25 =>
 B80x41 x19 x0 kr cl x24 h25 kp) fun j42 =>
 GW false x19 (FA n2 x22 fun x43 =>
 j42 x43 h23)
 (j42 undefA h23)) fun j44 =>
 GW false x19 (NC x20 fun x45 =>
 j44 x45 h21)
 (j44 undefA h21)) fun j46 =>
 GW false x19 (j46 x0 h5)
 (j46 undefA h5)
def F80 (fu : Nat) (oR : Orc) (cl : CL) (args : List AV) (h2 : Heap) (kr : KR) (kp : KP) : Ans := AR2 args fun x0 x1 =>
 LENS x1 fun x3 =>
 LP fu (fun _ _ => Ans.no) (fun j6 x4 h5 =>
 LSS Pr 3 false x4 x3 fun x7 =>
 IFB x7 (SA n1 x1 x4 fun x8 =>
 LD x8 h5 fun x9 =>
 NC x0 fun x10 =>
 FA n2 x10 fun x11 =>
 cl n122 [x11, x9] h5 (fun x12 h13 =>
 ADD Pr 3 true x4 (.int .i64 n1) fun x16 =>
 j6 x16 h13) kp)
 (B80x47 x0 h5 kr cl kp)) (.int .i64 n0) h2

theorem eqF80 : F80 = fun fu oR => compF Pr fu oR 80 2 := by kernel_rfl

def B81x42 (cl : CL) (x0 : AV) (x1 : AV) (h18 : Heap) (x17 : AV) (kr : KR) (kp : KP) : Ans := cl n125 [x0, x1, (.int .i64 n2), (.int .i64 n2)] h18 (fun x22 h23 =>
 BSL n9 n1 [(.str n0 n0)] n1 [(n0, (.str n1 n40))] h23 fun x26 h27 =>
 cl n80 [x0, x26] h27 (fun x28 h29 =>
 cl n126 [x0, x22, x17] h29 (fun x32 h33 =>
 BSL n9 n1 [(.str n0 n0)] n1 [(n0, (.str n1 n41))] h33 fun x36 h37 =>
 cl n80 [x0, x36] h37 (fun x38 h39 =>
 kr (.tuple []) h39) kp) kp) kp) kp
def B81x82 (x12 : AV) (h18 : Heap) (cl : CL) (x0 : AV) (j46 : Heap → Ans) (kp : KP) : Ans := FA n1 x12 fun x74 =>
 LD x74 h18 fun x75 =>
 BSL n9 n1 [(.str n0 n0), (.str n0 n0), (.str n0 n0)] n3 [(n0, (.str n2 (nat_lit 12072))), (n1, x75), (n2, (.str n2 (nat_lit 10543)))] h18 fun x76 h77 =>
 cl n80 [x0, x76] h77 (fun x78 h79 =>
 j46  h79) kp
def B81x113 (h18 : Heap) (cl : CL) (x0 : AV) (x1 : AV) (j46 : Heap → Ans) (kp : KP) : Ans := BSL n9 n1 [(.str n0 n0)] n1 [(n0, (.str n2 (nat_lit 10276)))] h18 fun x93 h94 =>
 cl n80 [x0, x93] h94 (fun x95 h96 =>
 cl n125 [x0, x1, (.int .i64 n1), (.int .i64 n1)] h96 (fun x99 h100 =>
 cl n126 [x0, x99, (.str n0 n0)] h100 (fun x103 h104 =>
 BSL n9 n1 [(.str n0 n0)] n1 [(n0, (.str n1 n41))] h104 fun x107 h108 =>
 cl n80 [x0, x107] h108 (fun x109 h110 =>
 j46  h110) kp) kp) kp) kp
def B81x137 (x12 : AV) (h18 : Heap) (cl : CL) (x0 : AV) (x1 : AV) (j46 : Heap → Ans) (kp : KP) : Ans := FA n1 x12 fun x115 =>
 LD x115 h18 fun x116 =>
 BSL n9 n1 [(.str n0 n0), (.str n0 n0)] n2 [(n0, x116), (n1, (.str n1 n91))] h18 fun x117 h118 =>
 cl n80 [x0, x117] h118 (fun x119 h120 =>
 cl n125 [x0, x1, (.int .i64 n1), (.int .i64 n1)] h120 (fun x123 h124 =>
 cl n126 [x0, x123, (.str n0 n0)] h124 (fun x127 h128 =>
 BSL n9 n1 [(.str n0 n0)] n1 [(n0, (.str n1 n93))] h128 fun x131 h132 =>
 cl n80 [x0, x131] h132 (fun x133 h134 =>
 j46  h134) kp) kp) kp) kp
def B81x161 (h18 : Heap) (cl : CL) (x0 : AV) (x1 : AV) (x12 : AV) (j46 : Heap → Ans) (kp : KP) : Ans := BSL n9 n1 [(.str n0 n0)] n1 [(n0, (.str n1 n40))] h18 fun x139 h140 =>
 cl n80 [x0, x139] h140 (fun x141 h142 =>
 cl n125 [x0, x1, (.int .i64 n1), (.int .i64 n1)] h142 (fun x145 h146 =>
 cl n126 [x0, x145, (.str n0 n0)] h146 (fun x149 h150 =>
 FA n1 x12 fun x153 =>
 LD x153 h150 fun x154 =>
 BSL n9 n1 [(.str n0 n0), (.str n0 n0), (.str n0 n0)] n3 [(n0, (.str n4 (nat_lit 544106784))), (n1, x154), (n2, (.str n1 n41))] h150 fun x155 h156 =>
 cl n80 [x0, x155] h156 (fun x157 h158 =>
 j46  h158) kp) kp) kp) kp
def B81x195 (cl : CL) (x0 : AV) (x1 : AV) (h18 : Heap) (j46 : Heap → Ans) (kp : KP) : Ans := cl n125 [x0, x1, (.int .i64 n3), (.int .i64 n3)] h18 (fun x163 h164 =>
 BSL n9 n1 [(.str n0 n0)] n1 [(n0, (.str n1 n40))] h164 fun x167 h168 =>
 cl n80 [x0, x167] h168 (fun x169 h170 =>
 OV (sliceA Pr 106 x163 none (some (.int .i64 n1)) none) fun x173 =>
 cl n126 [x0, x173, (.str n0 n0)] h170 (fun x174 h175 =>
 BSL n9 n1 [(.str n0 n0)] n1 [(n0, (.str n3 (nat_lit 2113312)))] h175 fun x178 h179 =>
 cl n80 [x0, x178] h179 (fun x180 h181 =>
 OV (sliceA Pr 106 x163 (some (.int .i64 n1)) none none) fun x184 =>
 cl n126 [x0, x184, (.str n3 (nat_lit 2112032))] h181 (fun x185 h186 =>
 BSL n9 n1 [(.str n0 n0)] n1 [(n0, (.str n1 n41))] h186 fun x189 h190 =>
 cl n80 [x0, x189] h190 (fun x191 h192 =>
 j46  h192) kp) kp) kp) kp) kp) kp
def B81x225 (h197 : Heap) (x12 : AV) (cl : CL) (x0 : AV) (x1 : AV) (j46 : Heap → Ans) (kp : KP) : Ans := OPVH (newMap Pr 173 h197) fun x198 h199 =>
 OSK (mapUpdateA Pr h199 173 x198 (.int .i64 n12) (.str n1 n33)) fun h200 =>
 OSK (mapUpdateA Pr h200 173 x198 (.int .i64 n25) (.str n1 n45)) fun h201 =>
 FA n0 x12 fun x202 =>
 LD x202 h201 fun x203 =>
 OV (lookupA Pr h201 173 x198 x203 false) fun x204 =>
 BSL n9 n1 [(.str n0 n0), (.str n0 n0)] n2 [(n0, (.str n1 n40)), (n1, x204)] h201 fun x205 h206 =>
 cl n80 [x0, x205] h206 (fun x207 h208 =>
 cl n125 [x0, x1, (.int .i64 n1), (.int .i64 n1)] h208 (fun x211 h212 =>
 cl n126 [x0, x211, (.str n0 n0)] h212 (fun x215 h216 =>
 BSL n9 n1 [(.str n0 n0)] n1 [(n0, (.str n1 n41))] h216 fun x219 h220 =>
 cl n80 [x0, x219] h220 (fun x221 h222 =>
 j46  h222) kp) kp) kp) kp
def B81x301 (x282 : AV) (x284 : AV) (h285 : Heap) (cl : CL) (x0 : AV) (j286 : AV → Heap → Ans) (kp : KP) : Ans := SA n1 x282 x284 fun x288 =>
 LD x288 h285 fun x289 =>
 BSL n9 n1 [(.str n0 n0)] n1 [(n0, (.str n2 n8236))] h285 fun x290 h291 =>
 cl n80 [x0, x290] h291 (fun x292 h293 =>
 cl n81 [x0, x289] h293 (fun x296 h297 =>
 ADD Pr 3 true x284 (.int .i64 n1) fun x300 =>
 j286 x300 h297) kp) kp
def B81x308 (cl : CL) (x0 : AV) (x1 : AV) (h197 : Heap) (x12 : AV) (fu : Nat) (kp : KP) (j46 : Heap → Ans) : Ans := cl n125 [x0, x1, (.int .i64 n1), (.int .i64 n2)] h197 (fun x259 h260 =>
 BSL n9 n1 [(.str n0 n0)] n1 [(n0, (.str n6 (nat_lit 44480450031731)))] h260 fun x263 h264 =>
 cl n80 [x0, x263] h264 (fun x265 h266 =>
 OV (sliceA Pr 106 x259 none (some (.int .i64 n1)) none) fun x269 =>
 cl n126 [x0, x269, (.str n0 n0)] h266 (fun x270 h271 =>
 FA n2 x12 fun x274 =>
 LD x274 h271 fun x275 =>
 BSL n9 n1 [(.str n0 n0), (.str n0 n0)] n2 [(n0, (.str n2 n8236)), (n1, x275)] h271 fun x276 h277 =>
 cl n80 [x0, x276] h277 (fun x278 h279 =>
 OV (sliceA Pr 106 x259 (some (.int .i64 n1)) none none) fun x282 =>
 LENS x282 fun x283 =>
 LP fu (fun _ _ => Ans.no) (fun j286 x284 h285 =>
 LSS Pr 3 false x284 x283 fun x287 =>
 IFB x287 (B81x301 x282 x284 h285 cl x0 j286 kp)
 (BSL n9 n1 [(.str n0 n0)] n1 [(n0, (.str n1 n41))] h285 fun x302 h303 =>
 cl n80 [x0, x302] h303 (fun x304 h305 =>
 j46  h305) kp)) (.int .i64 n0) h279) kp) kp) kp) kp
def B81x312 (x44 : AV) (cl : CL) (x0 : AV) (x1 : AV) (h197 : Heap) (j46 : Heap → Ans) (kp : KP) (x12 : AV) (fu : Nat) : Ans := EQL Pr 3 true x44 (.int .i64 n32) fun x253 =>
 IFB x253 (cl n129 [x0, x1, (.str n3 (nat_lit 7630441)), (.int .i64 n1), (.int .i64 n1)] h197 (fun x254 h255 =>
 j46  h255) kp)
 (EQL Pr 3 true x44 (.int .i64 n30) fun x258 =>
 IFB x258 (B81x308 cl x0 x1 h197 x12 fu kp j46)
 (NC x0 fun x309 =>
 FA n4 x309 fun x310 =>
 ST n1 x310 (.bool true) h197 fun h311 =>
 j46  h311))
def B81x313 (x44 : AV) (cl : CL) (x0 : AV) (x1 : AV) (h197 : Heap) (j46 : Heap → Ans) (kp : KP) (x12 : AV) (fu : Nat) : Ans := EQL Pr 3 true x44 (.int .i64 n29) fun x243 =>
 IFB x243 (cl n129 [x0, x1, (.str n5 (nat_lit 517097156201)), (.int .i64 n2), (.int .i64 n2)] h197 (fun x244 h245 =>
 j46  h245) kp)
 (EQL Pr 3 true x44 (.int .i64 n31) fun x248 =>
 IFB x248 (cl n129 [x0, x1, (.str n7 (nat_lit 32199680942501748)), (.int .i64 n1), (.int .i64 n1)] h197 (fun x249 h250 =>
 j46  h250) kp)
 (B81x312 x44 cl x0 x1 h197 j46 kp x12 fu))
def B81x314 (x44 : AV) (cl : CL) (x0 : AV) (x1 : AV) (h197 : Heap) (j46 : Heap → Ans) (kp : KP) (x12 : AV) (fu : Nat) : Ans := EQL Pr 3 true x44 (.int .i64 n27) fun x233 =>
 IFB x233 (cl n129 [x0, x1, (.str n6 (nat_lit 114849160783212)), (.int .i64 n0), (.int .i64 n1)] h197 (fun x234 h235 =>
 j46  h235) kp)
 (EQL Pr 3 true x44 (.int .i64 n28) fun x238 =>
 IFB x238 (cl n129 [x0, x1, (.str n6 (nat_lit 125844477605235)), (.int .i64 n2), (.int .i64 n3)] h197 (fun x239 h240 =>
 j46  h240) kp)
 (B81x313 x44 cl x0 x1 h197 j46 kp x12 fu))
def B81x315 (x196 : AV) (h197 : Heap) (x12 : AV) (cl : CL) (x0 : AV) (x1 : AV) (j46 : Heap → Ans) (kp : KP) (x44 : AV) (fu : Nat) : Ans := IFB x196 (B81x225 h197 x12 cl x0 x1 j46 kp)
 (EQL Pr 3 true x44 (.int .i64 n26) fun x226 =>
 IFB x226 (FA n1 x12 fun x227 =>
 LD x227 h197 fun x228 =>
 cl n129 [x0, x1, x228, (.int .i64 n0), (.int .i64 n4000)] h197 (fun x229 h230 =>
 j46  h230) kp)
 (B81x314 x44 cl x0 x1 h197 j46 kp x12 fu))
def B81x319 (x44 : AV) (cl : CL) (x0 : AV) (x1 : AV) (h18 : Heap) (j46 : Heap → Ans) (kp : KP) (x12 : AV) (fu : Nat) : Ans := EQL Pr 3 true x44 (.int .i64 n9) fun x162 =>
 IFB x162 (B81x195 cl x0 x1 h18 j46 kp)
 (JO (fun x196 h197 =>
 B81x315 x196 h197 x12 cl x0 x1 j46 kp x44 fu) fun j316 =>
 EQL Pr 3 true x44 (.int .i64 n12) fun x317 =>
 IFB x317 (j316 x317 h18)
 (EQL Pr 3 true x44 (.int .i64 n25) fun x318 =>
 j316 x318 h18))
def B81x320 (x44 : AV) (h18 : Heap) (cl : CL) (x0 : AV) (x1 : AV) (j46 : Heap → Ans) (kp : KP) (x12 : AV) (fu : Nat) : Ans := EQL Pr 3 true x44 (.int .i64 n4) fun x92 =>
 IFB x92 (B81x113 h18 cl x0 x1 j46 kp)
 (EQL Pr 3 true x44 (.int .i64 n5) fun x114 =>
 IFB x114 (B81x137 x12 h18 cl x0 x1 j46 kp)
 (EQL Pr 3 true x44 (.int .i64 n6) fun x138 =>
 IFB x138 (B81x161 h18 cl x0 x1 x12 j46 kp)
 (B81x319 x44 cl x0 x1 h18 j46 kp x12 fu)))
def B81x321 (x44 : AV) (x12 : AV) (h18 : Heap) (cl : CL) (x0 : AV) (j46 : Heap → Ans) (kp : KP) (x1 : AV) (fu : Nat) : Ans := EQL Pr 3 true x44 (.int .i64 n3) fun x83 =>
 IFB x83 (FA n1 x12 fun x84 =>
 LD x84 h18 fun x85 =>
 BSL n9 n1 [(.str n0 n0)] n1 [(n0, x85)] h18 fun x86 h87 =>
 cl n80 [x0, x86] h87 (fun x88 h89 =>
 j46  h89) kp)
 (B81x320 x44 h18 cl x0 x1 j46 kp x12 fu)
def B81x322 (x44 : AV) (x12 : AV) (h18 : Heap) (cl : CL) (x0 : AV) (j46 : Heap → Ans) (kp : KP) (x1 : AV) (fu : Nat) : Ans := EQL Pr 3 true x44 (.int .i64 n1) fun x60 =>
 IFB x60 (FA n1 x12 fun x61 =>
 LD x61 h18 fun x62 =>
 cl n128 [x62] h18 (fun x63 h64 =>
 BSL n9 n1 [(.str n0 n0)] n1 [(n0, x63)] h64 fun x67 h68 =>
 cl n80 [x0, x67] h68 (fun x69 h70 =>
 j46  h70) kp) kp)
 (EQL Pr 3 true x44 (.int .i64 n2) fun x73 =>
 IFB x73 (B81x82 x12 h18 cl x0 j46 kp)
 (B81x321 x44 x12 h18 cl x0 j46 kp x1 fu))
def B81x323 (x12 : AV) (h18 : Heap) (kr : KR) (cl : CL) (x0 : AV) (kp : KP) (x1 : AV) (fu : Nat) : Ans := FA n0 x12 fun x43 =>
 LD x43 h18 fun x44 =>
 JO (fun h45 =>
 kr (.tuple []) h45) fun j46 =>
 EQL Pr 3 true x44 (.int .i64 n0) fun x47 =>
 IFB x47 (FA n3 x12 fun x48 =>
 LD x48 h18 fun x49 =>
 cl n127 [x49] h18 (fun x50 h51 =>
 BSL n9 n1 [(.str n0 n0)] n1 [(n0, x50)] h51 fun x54 h55 =>
 cl n80 [x0, x54] h55 (fun x56 h57 =>
 j46  h57) kp) kp)
 (B81x322 x44 x12 h18 cl x0 j46 kp x1 fu)
def B81x324 (x0 : AV) (h2 : Heap) (x1 : AV) (cl : CL) (kr : KR) (kp : KP) (fu : Nat) : Ans := NC x0 fun x6 =>
 FA n0 x6 fun x7 =>
 FA n0 x7 fun x8 =>
 LD x8 h2 fun x9 =>
 SA n5 x9 x1 fun x10 =>
 LDN n5 x10 h2 fun x11 =>
 NEWC (.n (some (.int .i64 n0)) (.n (some (.str n0 n0)) (.n (some (.int .i64 n0)) .e .e) .e) (.n (some (.str n0 n0)) (.n (some (.nilslice)) .e .e) .e)) n5 108 h2 fun x12 h13 =>
 ST n5 x12 x11 h13 fun h14 =>
 FA n0 x12 fun x15 =>
 LD x15 h14 fun x16 =>
 cl n124 [x16] h14 (fun x17 h18 =>
 NEQ Pr 9 true x17 (.str n0 n0) fun x21 =>
 IFB x21 (B81x42 cl x0 x1 h18 x17 kr kp)
 (B81x323 x12 h18 kr cl x0 kp x1 fu)) kp
def F81 (fu : Nat) (oR : Orc) (cl : CL) (args : List AV) (h2 : Heap) (kr : KR) (kp : KP) : Ans := AR2 args fun x0 x1 =>
 NC x0 fun x3 =>
 FA n4 x3 fun x4 =>
 LD x4 h2 fun x5 =>
 IFB x5 (kr (.tuple []) h2)
 (B81x324 x0 h2 x1 cl kr kp fu)

theorem eqF81 : F81 = fun fu oR => compF Pr fu oR 81 2 := by kernel_rfl

def B82x30 (x0 : AV) (x11 : AV) (h13 : Heap) (x12 : AV) (j14 : AV → AV → Heap → Ans) (cl : CL) (kp : KP) : Ans := SA n1 x0 x11 fun x16 =>
 LD x16 h13 fun x17 =>
 JO (fun h18 =>
 LENT x17 fun x19 =>
 ADD Pr 3 false x12 x19 fun x20 =>
 ADD Pr 3 true x11 (.int .i64 n1) fun x21 =>
 j14 x21 x20 h18) fun j22 =>
 LENT x17 fun x23 =>
 SUB Pr 3 true (.int .i64 (nat_lit 9223372036854775807)) x12 fun x24 =>
 GTR Pr 3 false x23 x24 fun x25 =>
 IFB x25 (GEN (panA (.iface n9 (.str n36 (nat_lit 232023140547069528372253906381035003553488466437483087989658184371904395368843875349619))) h13) cl (fun x26 h27 =>
 j22  h27) kp)
 (j22  h13)
def B82x64 (x45 : AV) (x44 : AV) (x43 : AV) (h46 : Heap) (cl : CL) (x31 : AV) (x1 : AV) (j47 : AV → Heap → Ans) (kp : KP) (kr : KR) : Ans := LSS Pr 3 false x45 x44 fun x48 =>
 IFB x48 (SA n1 x43 x45 fun x49 =>
 LD x49 h46 fun x50 =>
 cl n122 [x31, x1] h46 (fun x51 h52 =>
 cl n122 [x31, x50] h52 (fun x55 h56 =>
 ADD Pr 3 true x45 (.int .i64 n1) fun x59 =>
 j47 x59 h56) kp) kp)
 (cl n58 [x31] h46 (fun x60 h61 =>
 kr x60 h61) kp)
def B82x65 (h13 : Heap) (cl : CL) (x12 : AV) (x0 : AV) (fu : Nat) (x1 : AV) (kp : KP) (kr : KR) : Ans := NEWC (.n (some (.nilp)) (.n (some (.nilslice)) .e .e) .e) n2 100 h13 fun x31 h32 =>
 cl n130 [x31, x12] h32 (fun x33 h34 =>
 SA n1 x0 (.int .i64 n0) fun x37 =>
 LD x37 h34 fun x38 =>
 cl n122 [x31, x38] h34 (fun x39 h40 =>
 OV (sliceA Pr 48 x0 (some (.int .i64 n1)) none none) fun x43 =>
 LENS x43 fun x44 =>
 LP fu (fun _ _ => Ans.no) (fun j47 x45 h46 =>
 B82x64 x45 x44 x43 h46 cl x31 x1 j47 kp kr) (.int .i64 n0) h40) kp) kp
def B82x85 (x1 : AV) (x0 : AV) (j66 : AV → Heap → Ans) (h2 : Heap) (cl : CL) (kp : KP) : Ans := JO (fun h69 =>
 LENT x1 fun x70 =>
 LENS x0 fun x71 =>
 SUB Pr 3 true x71 (.int .i64 n1) fun x72 =>
 BOP Pr .mul 3 false x70 x72 fun x73 =>
 ADD Pr 3 false (.int .i64 n0) x73 fun x74 =>
 j66 x74 h69) fun j75 =>
 LENT x1 fun x76 =>
 LENS x0 fun x77 =>
 SUB Pr 3 true x77 (.int .i64 n1) fun x78 =>
 BOP Pr .quo 3 true (.int .i64 (nat_lit 9223372036854775807)) x78 fun x79 =>
 GEQ Pr 3 false x76 x79 fun x80 =>
 IFB x80 (GEN (panA (.iface n9 (.str n36 (nat_lit 232023140547069528372253906381035003553488466437483087989658184371904395368843875349619))) h2) cl (fun x81 h82 =>
 j75  h82) kp)
 (j75  h2)
def B82x86 (x0 : AV) (fu : Nat) (cl : CL) (kp : KP) (x1 : AV) (kr : KR) (h2 : Heap) : Ans := JO (fun x8 h9 =>
 LENS x0 fun x10 =>
 LP fu (fun _ _ _ => Ans.no) (fun j14 x11 x12 h13 =>
 LSS Pr 3 false x11 x10 fun x15 =>
 IFB x15 (B82x30 x0 x11 h13 x12 j14 cl kp)
 (B82x65 h13 cl x12 x0 fu x1 kp kr)) (.int .i64 n0) x8 h9) fun j66 =>
 LENT x1 fun x67 =>
 GTR Pr 3 true x67 (.int .i64 n0) fun x68 =>
 IFB x68 (B82x85 x1 x0 j66 h2 cl kp)
 (j66 (.int .i64 n0) h2)
def F82 (fu : Nat) (oR : Orc) (cl : CL) (args : List AV) (h2 : Heap) (kr : KR) (kp : KP) : Ans := AR2 args fun x0 x1 =>
 LENS x0 fun x3 =>
 EQL Pr 3 true x3 (.int .i64 n0) fun x4 =>
 IFB x4 (kr (.str n0 n0) h2)
 (EQL Pr 3 true x3 (.int .i64 n1) fun x5 =>
 IFB x5 (SA n1 x0 (.int .i64 n0) fun x6 =>
 LD x6 h2 fun x7 =>
 kr x7 h2)
 (B82x86 x0 fu cl kp x1 kr h2))

theorem eqF82 : F82 = fun fu oR => compF Pr fu oR 82 2 := by kernel_rfl

def B83x34 (cl : CL) (x0 : AV) (x1 : AV) (h14 : Heap) (j18 : Heap → Ans) (kp : KP) : Ans := cl n125 [x0, x1, (.int .i64 n1), (.int .i64 n1)] h14 (fun x20 h21 =>
 cl n126 [x0, x20, (.str n0 n0)] h21 (fun x24 h25 =>
 BSL n9 n1 [(.str n0 n0)] n1 [(n0, (.str n1 n59))] h25 fun x28 h29 =>
 cl n80 [x0, x28] h29 (fun x30 h31 =>
 j18  h31) kp) kp) kp
def B83x100 (x12 : AV) (h14 : Heap) (cl : CL) (x0 : AV) (x1 : AV) (j18 : Heap → Ans) (kp : KP) : Ans := FA n1 x12 fun x78 =>
 LD x78 h14 fun x79 =>
 BSL n9 n1 [(.str n0 n0), (.str n0 n0), (.str n0 n0)] n3 [(n0, (.str n7 (nat_lit 9118749846955364))), (n1, x79), (n2, (.str n1 n91))] h14 fun x80 h81 =>
 cl n80 [x0, x80] h81 (fun x82 h83 =>
 cl n125 [x0, x1, (.int .i64 n1), (.int .i64 n1)] h83 (fun x86 h87 =>
 cl n126 [x0, x86, (.str n0 n0)] h87 (fun x90 h91 =>
 BSL n9 n1 [(.str n0 n0)] n1 [(n0, (.str n2 (nat_lit 15197)))] h91 fun x94 h95 =>
 cl n80 [x0, x94] h95 (fun x96 h97 =>
 j18  h97) kp) kp) kp) kp
def B83x149 (x130 : AV) (x132 : AV) (h133 : Heap) (cl : CL) (x0 : AV) (j134 : AV → Heap → Ans) (kp : KP) : Ans := SA n1 x130 x132 fun x136 =>
 LD x136 h133 fun x137 =>
 BSL n9 n1 [(.str n0 n0)] n1 [(n0, (.str n6 (nat_lit 35620100269344)))] h133 fun x138 h139 =>
 cl n80 [x0, x138] h139 (fun x140 h141 =>
 cl n83 [x0, x137] h141 (fun x144 h145 =>
 ADD Pr 3 true x132 (.int .i64 n1) fun x148 =>
 j134 x148 h145) kp) kp
def B83x150 (cl : CL) (x0 : AV) (x1 : AV) (h14 : Heap) (fu : Nat) (kp : KP) (j18 : Heap → Ans) : Ans := cl n125 [x0, x1, (.int .i64 n2), (.int .i64 n3)] h14 (fun x102 h103 =>
 BSL n9 n1 [(.str n0 n0)] n1 [(n0, (.str n4 (nat_lit 673212009)))] h103 fun x106 h107 =>
 cl n80 [x0, x106] h107 (fun x108 h109 =>
 SA n1 x102 (.int .i64 n0) fun x112 =>
 LD x112 h109 fun x113 =>
 cl n81 [x0, x113] h109 (fun x114 h115 =>
 BSL n9 n1 [(.str n0 n0)] n1 [(n0, (.str n2 n8233))] h115 fun x118 h119 =>
 cl n80 [x0, x118] h119 (fun x120 h121 =>
 SA n1 x102 (.int .i64 n1) fun x124 =>
 LD x124 h121 fun x125 =>
 cl n83 [x0, x125] h121 (fun x126 h127 =>
 OV (sliceA Pr 106 x102 (some (.int .i64 n2)) none none) fun x130 =>
 LENS x130 fun x131 =>
 LP fu (fun _ _ => Ans.no) (fun j134 x132 h133 =>
 LSS Pr 3 false x132 x131 fun x135 =>
 IFB x135 (B83x149 x130 x132 h133 cl x0 j134 kp)
 (j18  h133)) (.int .i64 n0) h127) kp) kp) kp) kp) kp
def B83x180 (cl : CL) (x0 : AV) (x1 : AV) (h14 : Heap) (j18 : Heap → Ans) (kp : KP) : Ans := cl n125 [x0, x1, (.int .i64 n2), (.int .i64 n2)] h14 (fun x152 h153 =>
 BSL n9 n1 [(.str n0 n0)] n1 [(n0, (.str n7 (nat_lit 11294619051059319)))] h153 fun x156 h157 =>
 cl n80 [x0, x156] h157 (fun x158 h159 =>
 SA n1 x152 (.int .i64 n0) fun x162 =>
 LD x162 h159 fun x163 =>
 cl n81 [x0, x163] h159 (fun x164 h165 =>
 BSL n9 n1 [(.str n0 n0)] n1 [(n0, (.str n2 n8233))] h165 fun x168 h169 =>
 cl n80 [x0, x168] h169 (fun x170 h171 =>
 SA n1 x152 (.int .i64 n1) fun x174 =>
 LD x174 h171 fun x175 =>
 cl n83 [x0, x175] h171 (fun x176 h177 =>
 j18  h177) kp) kp) kp) kp) kp
def B83x209 (cl : CL) (x0 : AV) (x1 : AV) (h14 : Heap) (j18 : Heap → Ans) (kp : KP) : Ans := cl n125 [x0, x1, (.int .i64 n4), (.int .i64 n4)] h14 (fun x182 h183 =>
 BSL n9 n1 [(.str n0 n0)] n1 [(n0, (.str n5 (nat_lit 172343062374)))] h183 fun x186 h187 =>
 cl n80 [x0, x186] h187 (fun x188 h189 =>
 OV (sliceA Pr 106 x182 none (some (.int .i64 n3)) none) fun x192 =>
 cl n126 [x0, x192, (.str n2 n8251)] h189 (fun x193 h194 =>
 BSL n9 n1 [(.str n0 n0)] n1 [(n0, (.str n2 n8233))] h194 fun x197 h198 =>
 cl n80 [x0, x197] h198 (fun x199 h200 =>
 SA n1 x182 (.int .i64 n3) fun x203 =>
 LD x203 h200 fun x204 =>
 cl n83 [x0, x204] h200 (fun x205 h206 =>
 j18  h206) kp) kp) kp) kp) kp
def B83x231 (x12 : AV) (h14 : Heap) (cl : CL) (x0 : AV) (x1 : AV) (j18 : Heap → Ans) (kp : KP) : Ans := FA n1 x12 fun x211 =>
 LD x211 h14 fun x212 =>
 FA n2 x12 fun x213 =>
 LD x213 h14 fun x214 =>
 BSL n9 n1 [(.str n0 n0), (.str n0 n0), (.str n0 n0), (.str n0 n0), (.str n0 n0)] n5 [(n0, (.str n5 (nat_lit 172343062374))), (n1, x212), (n2, (.str n4 (nat_lit 544106784))), (n3, x214), (n4, (.str n2 n8233))] h14 fun x215 h216 =>
 cl n80 [x0, x215] h216 (fun x217 h218 =>
 cl n125 [x0, x1, (.int .i64 n1), (.int .i64 n1)] h218 (fun x221 h222 =>
 SA n1 x221 (.int .i64 n0) fun x225 =>
 LD x225 h222 fun x226 =>
 cl n83 [x0, x226] h222 (fun x227 h228 =>
 j18  h228) kp) kp) kp
def B83x264 (x242 : AV) (x247 : AV) (h248 : Heap) (cl : CL) (x0 : AV) (j249 : AV → Heap → Ans) (kp : KP) : Ans := SA n1 x242 x247 fun x251 =>
 LD x251 h248 fun x252 =>
 cl n83 [x0, x252] h248 (fun x253 h254 =>
 BSL n9 n1 [(.str n0 n0)] n1 [(n0, (.str n1 n32))] h254 fun x257 h258 =>
 cl n80 [x0, x257] h258 (fun x259 h260 =>
 ADD Pr 3 true x247 (.int .i64 n1) fun x263 =>
 j249 x263 h260) kp) kp
def B83x271 (h14 : Heap) (cl : CL) (x0 : AV) (x12 : AV) (x1 : AV) (fu : Nat) (kp : KP) (j18 : Heap → Ans) : Ans := BSL n9 n1 [(.str n0 n0)] n1 [(n0, (.str n2 n8315))] h14 fun x233 h234 =>
 cl n80 [x0, x233] h234 (fun x235 h236 =>
 FA n4 x12 fun x239 =>
 LD x239 h236 fun x240 =>
 LENS x240 fun x241 =>
 cl n125 [x0, x1, (.int .i64 n0), x241] h236 (fun x242 h243 =>
 LENS x242 fun x246 =>
 LP fu (fun _ _ => Ans.no) (fun j249 x247 h248 =>
 LSS Pr 3 false x247 x246 fun x250 =>
 IFB x250 (B83x264 x242 x247 h248 cl x0 j249 kp)
 (BSL n9 n1 [(.str n0 n0)] n1 [(n0, (.str n1 n125))] h248 fun x265 h266 =>
 cl n80 [x0, x265] h266 (fun x267 h268 =>
 j18  h268) kp)) (.int .i64 n0) h243) kp) kp
def B83x275 (x16 : AV) (x12 : AV) (h14 : Heap) (cl : CL) (x0 : AV) (x1 : AV) (j18 : Heap → Ans) (kp : KP) (fu : Nat) : Ans := EQL Pr 3 true x16 (.int .i64 n46) fun x210 =>
 IFB x210 (B83x231 x12 h14 cl x0 x1 j18 kp)
 (EQL Pr 3 true x16 (.int .i64 n53) fun x232 =>
 IFB x232 (B83x271 h14 cl x0 x12 x1 fu kp j18)
 (NC x0 fun x272 =>
 FA n4 x272 fun x273 =>
 ST n1 x273 (.bool true) h14 fun h274 =>
 j18  h274))
def B83x276 (x16 : AV) (cl : CL) (x0 : AV) (x1 : AV) (h14 : Heap) (fu : Nat) (kp : KP) (j18 : Heap → Ans) (x12 : AV) : Ans := EQL Pr 3 true x16 (.int .i64 n43) fun x101 =>
 IFB x101 (B83x150 cl x0 x1 h14 fu kp j18)
 (EQL Pr 3 true x16 (.int .i64 n44) fun x151 =>
 IFB x151 (B83x180 cl x0 x1 h14 j18 kp)
 (EQL Pr 3 true x16 (.int .i64 n45) fun x181 =>
 IFB x181 (B83x209 cl x0 x1 h14 j18 kp)
 (B83x275 x16 x12 h14 cl x0 x1 j18 kp fu)))
def B83x277 (x16 : AV) (cl : CL) (x0 : AV) (x1 : AV) (h14 : Heap) (j18 : Heap → Ans) (kp : KP) (x12 : AV) (fu : Nat) : Ans := EQL Pr 3 true x16 (.int .i64 n49) fun x72 =>
 IFB x72 (cl n131 [x0, x1, (.str n4 (nat_lit 1954047342)), (.int .i64 n0), (.int .i64 n0)] h14 (fun x73 h74 =>
 j18  h74) kp)
 (EQL Pr 3 true x16 (.int .i64 n52) fun x77 =>
 IFB x77 (B83x100 x12 h14 cl x0 x1 j18 kp)
 (B83x276 x16 cl x0 x1 h14 fu kp j18 x12))
def B83x278 (x16 : AV) (cl : CL) (x0 : AV) (x1 : AV) (h14 : Heap) (j18 : Heap → Ans) (kp : KP) (x12 : AV) (fu : Nat) : Ans := EQL Pr 3 true x16 (.int .i64 n47) fun x62 =>
 IFB x62 (cl n131 [x0, x1, (.str n5 (nat_lit 461195539042)), (.int .i64 n0), (.int .i64 n0)] h14 (fun x63 h64 =>
 j18  h64) kp)
 (EQL Pr 3 true x16 (.int .i64 n48) fun x67 =>
 IFB x67 (cl n131 [x0, x1, (.str n8 (nat_lit 7310870969309884259)), (.int .i64 n0), (.int .i64 n0)] h14 (fun x68 h69 =>
 j18  h69) kp)
 (B83x277 x16 cl x0 x1 h14 j18 kp x12 fu))
def B83x279 (x16 : AV) (cl : CL) (x0 : AV) (x1 : AV) (h14 : Heap) (j18 : Heap → Ans) (kp : KP) (x12 : AV) (fu : Nat) : Ans := EQL Pr 3 true x16 (.int .i64 n50) fun x52 =>
 IFB x52 (cl n131 [x0, x1, (.str n4 (nat_lit 1953069157)), (.int .i64 n0), (.int .i64 n1)] h14 (fun x53 h54 =>
 j18  h54) kp)
 (EQL Pr 3 true x16 (.int .i64 n51) fun x57 =>
 IFB x57 (cl n131 [x0, x1, (.str n6 (nat_lit 121437875889522)), (.int .i64 n0), (.int .i64 n1)] h14 (fun x58 h59 =>
 j18  h59) kp)
 (B83x278 x16 cl x0 x1 h14 j18 kp x12 fu))
def B83x280 (x16 : AV) (x12 : AV) (h14 : Heap) (cl : CL) (x0 : AV) (x1 : AV) (j18 : Heap → Ans) (kp : KP) (fu : Nat) : Ans := EQL Pr 3 true x16 (.int .i64 n42) fun x43 =>
 IFB x43 (FA n4 x12 fun x44 =>
 LD x44 h14 fun x45 =>
 LENS x45 fun x46 =>
 OPV (builtinF .max Pr [3, 3] [(.int .i64 n1), x46] h14) fun x47 =>
 cl n131 [x0, x1, (.str n6 (nat_lit 112650254643824)), (.int .i64 n1), x47] h14 (fun x48 h49 =>
 j18  h49) kp)
 (B83x279 x16 cl x0 x1 h14 j18 kp x12 fu)
def B83x281 (x16 : AV) (x12 : AV) (h14 : Heap) (cl : CL) (x0 : AV) (x1 : AV) (j18 : Heap → Ans) (kp : KP) (fu : Nat) : Ans := EQL Pr 3 true x16 (.int .i64 n41) fun x35 =>
 IFB x35 (FA n4 x12 fun x36 =>
 LD x36 h14 fun x37 =>
 LENS x37 fun x38 =>
 cl n131 [x0, x1, (.str n5 (nat_lit 500068610672)), (.int .i64 n0), x38] h14 (fun x39 h40 =>
 j18  h40) kp)
 (B83x280 x16 x12 h14 cl x0 x1 j18 kp fu)
def B83x282 (x0 : AV) (h2 : Heap) (x1 : AV) (kr : KR) (cl : CL) (kp : KP) (fu : Nat) : Ans := NC x0 fun x6 =>
 FA n0 x6 fun x7 =>
 FA n0 x7 fun x8 =>
 LD x8 h2 fun x9 =>
 SA n5 x9 x1 fun x10 =>
 LDN n5 x10 h2 fun x11 =>
 NEWC (.n (some (.int .i64 n0)) (.n (some (.str n0 n0)) (.n (some (.int .i64 n0)) .e .e) .e) (.n (some (.str n0 n0)) (.n (some (.nilslice)) .e .e) .e)) n5 108 h2 fun x12 h13 =>
 ST n5 x12 x11 h13 fun h14 =>
 FA n0 x12 fun x15 =>
 LD x15 h14 fun x16 =>
 JO (fun h17 =>
 kr (.tuple []) h17) fun j18 =>
 EQL Pr 3 true x16 (.int .i64 n40) fun x19 =>
 IFB x19 (B83x34 cl x0 x1 h14 j18 kp)
 (B83x281 x16 x12 h14 cl x0 x1 j18 kp fu)
def F83 (fu : Nat) (oR : Orc) (cl : CL) (args : List AV) (h2 : Heap) (kr : KR) (kp : KP) : Ans := AR2 args fun x0 x1 =>
 NC x0 fun x3 =>
 FA n4 x3 fun x4 =>
 LD x4 h2 fun x5 =>
 IFB x5 (kr (.tuple []) h2)
 (B83x282 x0 h2 x1 kr cl kp fu)

theorem eqF83 : F83 = fun fu oR => compF Pr fu oR 83 2 := by kernel_rfl

def B84x63 (x35 : AV) (x10 : AV) (h47 : Heap) (x45 : AV) (x11 : AV) (cl : CL) (x7 : AV) (j19 : AV → AV → Heap → Ans) (kp : KP) : Ans := FA n3 x35 fun x49 =>
 ST n1 x49 x10 h47 fun h50 =>
 LDN n4 x35 h50 fun x51 =>
 LDN n4 x35 h50 fun x52 =>
 ADD Pr 3 false x10 x45 fun x53 =>
 BSL n130 n4 [(.int .i64 n0), (.str n0 n0), (.int .i64 n0), (.int .i64 n0)] n1 [(n0, x51)] h50 fun x54 h55 =>
 LDN n4 x35 h55 fun x56 =>
 EQV x52 x56 <|
 GEN (builtinF .append Pr [122, 122] [x11, x54] h55) cl (fun x57 h58 =>
 LDN n4 x35 h58 fun x61 =>
 EQV x52 x61 <|
 ST n4 x7 x52 h58 fun h62 =>
 j19 x53 x57 h62) kp
def B84x64 (x0 : AV) (x10 : AV) (x7 : AV) (h22 : Heap) (cl : CL) (kr : KR) (x11 : AV) (j19 : AV → AV → Heap → Ans) (kp : KP) : Ans := OV (sliceA Pr 9 x0 (some x10) none none) fun x33 =>
 LDN n4 x7 h22 fun x34 =>
 NEWC (.n (some (.int .i64 n0)) (.n (some (.str n0 n0)) (.n (some (.int .i64 n0)) .e .e) .e) (.n (some (.int .i64 n0)) .e .e)) n4 130 h22 fun x35 h36 =>
 NEWB h22 h36 fun b37 i38 h39 =>
 cl n135 [x33, x34] h39 (fun x40 h41 =>
 EX n0 x40 fun x44 =>
 EX n1 x40 fun x45 =>
 SETB h41 i38 b37 fun h46 =>
 ST n4 x35 x44 h46 fun h47 =>
 EQL Pr 3 true x45 (.int .i64 n0) fun x48 =>
 IFB x48 (kr (.tuple [(.nilslice), x10]) h47)
 (B84x63 x35 x10 h47 x45 x11 cl x7 j19 kp)) kp
def B84x65 (j13 : AV → AV → Heap → Ans) (x0 : AV) (x10 : AV) (cl : CL) (h12 : Heap) (x11 : AV) (kp : KP) (x7 : AV) (kr : KR) : Ans := JO (fun x16 x17 h18 =>
 j13 x16 x17 h18) fun j19 =>
 SAT x0 x10 fun x20 =>
 cl n132 [x20] h12 (fun x21 h22 =>
 IFB x21 (ADD Pr 3 true x10 (.int .i64 n1) fun x25 =>
 j19 x25 x11 h22)
 (SAT x0 x10 fun x26 =>
 EQL Pr 5 true x26 (.int .u8 n35) fun x27 =>
 IFB x27 (cl n133 [x0, x10, (.func (.func 134) [] [])] h22 (fun x28 h29 =>
 ADD Pr 3 false x10 x28 fun x32 =>
 j19 x32 x11 h29) kp)
 (B84x64 x0 x10 x7 h22 cl kr x11 j19 kp))) kp
def B84x66 (h1 : Heap) (fu : Nat) (x0 : AV) (cl : CL) (kp : KP) (kr : KR) : Ans := BSL n130 n4 [] n0 [] h1 fun x4 h5 =>
 OV (buildA Pr 130 []) fun x6 =>
 NEWC (.n (some (.int .i64 n0)) (.n (some (.str n0 n0)) (.n (some (.int .i64 n0)) .e .e) .e) (.n (some (.int .i64 n0)) .e .e)) n4 130 h5 fun x7 h8 =>
 ST n4 x7 x6 h8 fun h9 =>
 LP fu (fun _ _ _ => Ans.no) (fun j13 x10 x11 h12 =>
 LENT x0 fun x14 =>
 LSS Pr 3 false x10 x14 fun x15 =>
 IFB x15 (B84x65 j13 x0 x10 cl h12 x11 kp x7 kr)
 (kr (.tuple [x11, (.int .i64 (nat_lit 18446744073709551615))]) h12)) (.int .i64 n0) x4 h9
def F84 (fu : Nat) (oR : Orc) (cl : CL) (args : List AV) (h1 : Heap) (kr : KR) (kp : KP) : Ans := AR1 args fun x0 =>
 LENT x0 fun x2 =>
 GTR Pr 3 true x2 (.int .i64 n4000) fun x3 =>
 IFB x3 (kr (.tuple [(.nilslice), (.int .i64 n0)]) h1)
 (B84x66 h1 fu x0 cl kp kr)

theorem eqF84 : F84 = fun fu oR => compF Pr fu oR 84 1 := by kernel_rfl

def B86x32 (x0 : AV) (h2 : Heap) (cl : CL) (j3 : Heap → Ans) (kp : KP) : Ans := NC x0 fun x12 =>
 FA n4 x12 fun x13 =>
 FA n1 x13 fun x14 =>
 LD x14 h2 fun x15 =>
 cl n136 [x0] h2 (fun x16 h17 =>
 LD x14 h17 fun x20 =>
 EQV x15 x20 <|
 BSL n61 n5 [(.int .i64 n0), (.str n0 n0), (.nilslice), (.int .i64 n0), (.int .i64 n0)] n1 [(n0, x16)] h17 fun x21 h22 =>
 LD x14 h22 fun x23 =>
 EQV x15 x23 <|
 GEN (builtinF .append Pr [31, 31] [x15, x21] h22) cl (fun x24 h25 =>
 NC x0 fun x28 =>
 FA n4 x28 fun x29 =>
 FA n1 x29 fun x30 =>
 ST n1 x30 x24 h25 fun h31 =>
 j3  h31) kp) kp
def F86 (fu : Nat) (oR : Orc) (cl : CL) (args : List AV) (h1 : Heap) (kr : KR) (kp : KP) : Ans := AR1 args fun x0 =>
 LP fu (fun _ => Ans.no) (fun j3 h2 =>
 NC x0 fun x4 =>
 FA n1 x4 fun x5 =>
 LD x5 h2 fun x6 =>
 NC x0 fun x7 =>
 FA n0 x7 fun x8 =>
 LD x8 h2 fun x9 =>
 LENS x9 fun x10 =>
 LSS Pr 3 false x6 x10 fun x11 =>
 IFB x11 (B86x32 x0 h2 cl j3 kp)
 (kr (.tuple []) h2))  h1

theorem eqF86 : F86 = fun fu oR => compF Pr fu oR 86 1 := by kernel_rfl

def F87 (fu : Nat) (oR : Orc) (cl : CL) (args : List AV) (h2 : Heap) (kr : KR) (kp : KP) : Ans := AR2 args fun x0 x1 =>
 LENS x0 fun x3 =>
 LP fu (fun _ _ => Ans.no) (fun j6 x4 h5 =>
 LSS Pr 3 false x4 x3 fun x7 =>
 IFB x7 (SA n1 x0 x4 fun x8 =>
 LD x8 h5 fun x9 =>
 EQL Pr 3 false x1 x9 fun x10 =>
 IFB x10 (kr x4 h5)
 (ADD Pr 3 true x4 (.int .i64 n1) fun x11 =>
 j6 x11 h5))
 (kr (.int .i64 (nat_lit 18446744073709551615)) h5)) (.int .i64 n0) h2

theorem eqF87 : F87 = fun fu oR => compF Pr fu oR 87 2 := by kernel_rfl

def B89x48 (x9 : AV) (h11 : Heap) (x0 : AV) (cl : CL) (x3 : AV) (kr : KR) (kp : KP) : Ans := FA n1 x9 fun x33 =>
 LD x33 h11 fun x34 =>
 NC x0 fun x35 =>
 FA n6 x35 fun x36 =>
 LD x36 h11 fun x37 =>
 cl n141 [x34, x37, (.int .i64 n11)] h11 (fun x38 h39 =>
 cl n140 [x38] h39 (fun x42 h43 =>
 ST n3 x3 x42 h43 fun h46 =>
 LDN n3 x3 h46 fun x47 =>
 kr x47 h46) kp) kp
def B89x81 (x9 : AV) (h11 : Heap) (cl : CL) (x0 : AV) (x3 : AV) (kr : KR) (kp : KP) : Ans := FA n4 x9 fun x63 =>
 LD x63 h11 fun x64 =>
 SA n1 x64 (.int .i64 n0) fun x65 =>
 LD x65 h11 fun x66 =>
 cl n89 [x0, x66] h11 (fun x67 h68 =>
 cl n145 [x67] h68 (fun x71 h72 =>
 cl n144 [x0, x71] h72 (fun x75 h76 =>
 ST n3 x3 x75 h76 fun h79 =>
 LDN n3 x3 h79 fun x80 =>
 kr x80 h79) kp) kp) kp
def B89x107 (x9 : AV) (h11 : Heap) (cl : CL) (x0 : AV) (x1 : AV) (x3 : AV) (kr : KR) (kp : KP) : Ans := FA n4 x9 fun x83 =>
 LD x83 h11 fun x84 =>
 SA n1 x84 (.int .i64 n0) fun x85 =>
 LD x85 h11 fun x86 =>
 cl n89 [x0, x86] h11 (fun x87 h88 =>
 cl n146 [x87] h88 (fun x91 h92 =>
 FA n1 x9 fun x95 =>
 LD x95 h92 fun x96 =>
 cl n143 [x0, x1, x96] h92 (fun x97 h98 =>
 cl n147 [x0, x97, x91] h98 (fun x101 h102 =>
 ST n3 x3 x101 h102 fun h105 =>
 LDN n3 x3 h105 fun x106 =>
 kr x106 h105) kp) kp) kp) kp
def B89x143 (x9 : AV) (h11 : Heap) (cl : CL) (x0 : AV) (x1 : AV) (x3 : AV) (kr : KR) (kp : KP) : Ans := FA n4 x9 fun x109 =>
 LD x109 h11 fun x110 =>
 SA n1 x110 (.int .i64 n0) fun x111 =>
 LD x111 h11 fun x112 =>
 cl n89 [x0, x112] h11 (fun x113 h114 =>
 cl n146 [x113] h114 (fun x117 h118 =>
 FA n1 x9 fun x121 =>
 LD x121 h118 fun x122 =>
 cl n143 [x0, x1, x122] h118 (fun x123 h124 =>
 cl n148 [x0, x123] h124 (fun x127 h128 =>
 OV (lookupA Pr h128 189 x127 x117 true) fun x131 =>
 EX n0 x131 fun x132 =>
 EX n1 x131 fun x133 =>
 NEWC (.n (some (.int .i64 n0)) (.n (some (.int .i64 n0)) .e .e) (.n (some (.str n0 n0)) .e .e)) n3 44 h128 fun x134 h135 =>
 ST n3 x134 x132 h135 fun h136 =>
 cl n140 [x133] h136 (fun x137 h138 =>
 ST n3 x3 x137 h138 fun h141 =>
 LDN n3 x3 h141 fun x142 =>
 kr x142 h141) kp) kp) kp) kp) kp
def B89x172 (x9 : AV) (h11 : Heap) (cl : CL) (x0 : AV) (x3 : AV) (kr : KR) (kp : KP) : Ans := FA n4 x9 fun x145 =>
 LD x145 h11 fun x146 =>
 SA n1 x146 (.int .i64 n0) fun x147 =>
 LD x147 h11 fun x148 =>
 cl n149 [x0, x148] h11 (fun x149 h150 =>
 NEWC (.n (some (.int .i64 n0)) (.n (some (.str n0 n0)) (.n (some (.int .i64 n0)) .e .e) (.n (some (.int .i64 n0)) .e .e)) (.n (some (.str n0 n0)) (.n (some (.str n0 n0)) .e .e) .e)) n6 192 h150 fun x153 h154 =>
 ST n6 x153 x149 h154 fun h155 =>
 LDN n6 x153 h155 fun x156 =>
 FA n4 x9 fun x157 =>
 LD x157 h155 fun x158 =>
 SA n1 x158 (.int .i64 n1) fun x159 =>
 LD x159 h155 fun x160 =>
 cl n89 [x0, x160] h155 (fun x161 h162 =>
 LDN n6 x153 h162 fun x165 =>
 EQV x156 x165 <|
 cl n150 [x0, x156, x161] h162 (fun x166 h167 =>
 ST n3 x3 x166 h167 fun h170 =>
 LDN n3 x3 h170 fun x171 =>
 kr x171 h170) kp) kp) kp
def B89x216 (x9 : AV) (h11 : Heap) (cl : CL) (x0 : AV) (x3 : AV) (kr : KR) (kp : KP) : Ans := FA n4 x9 fun x174 =>
 LD x174 h11 fun x175 =>
 SA n1 x175 (.int .i64 n0) fun x176 =>
 LD x176 h11 fun x177 =>
 cl n149 [x0, x177] h11 (fun x178 h179 =>
 NEWC (.n (some (.int .i64 n0)) (.n (some (.str n0 n0)) (.n (some (.int .i64 n0)) .e .e) (.n (some (.int .i64 n0)) .e .e)) (.n (some (.str n0 n0)) (.n (some (.str n0 n0)) .e .e) .e)) n6 192 h179 fun x182 h183 =>
 ST n6 x182 x178 h183 fun h184 =>
 LDN n6 x182 h184 fun x185 =>
 cl n151 [x0, x185] h184 (fun x186 h187 =>
 NEWC (.n (some (.int .i64 n0)) (.n (some (.int .i64 n0)) .e .e) (.n (some (.str n0 n0)) .e .e)) n3 44 h187 fun x190 h191 =>
 ST n3 x190 x186 h191 fun h192 =>
 LDN n6 x182 h192 fun x193 =>
 LDN n3 x190 h192 fun x194 =>
 FA n4 x9 fun x195 =>
 LD x195 h192 fun x196 =>
 SA n1 x196 (.int .i64 n1) fun x197 =>
 LD x197 h192 fun x198 =>
 cl n89 [x0, x198] h192 (fun x199 h200 =>
 LDN n3 x190 h200 fun x203 =>
 EQV x194 x203 <|
 LDN n6 x182 h200 fun x204 =>
 EQV x193 x204 <|
 cl n152 [(.int .i64 n20), x194, x199] h200 (fun x205 h206 =>
 LDN n6 x182 h206 fun x209 =>
 EQV x193 x209 <|
 cl n150 [x0, x193, x205] h206 (fun x210 h211 =>
 ST n3 x3 x210 h211 fun h214 =>
 LDN n3 x3 h214 fun x215 =>
 kr x215 h214) kp) kp) kp) kp) kp
def B89x250 (x9 : AV) (h11 : Heap) (cl : CL) (x0 : AV) (x3 : AV) (kr : KR) (kp : KP) : Ans := FA n4 x9 fun x218 =>
 LD x218 h11 fun x219 =>
 SA n1 x219 (.int .i64 n0) fun x220 =>
 LD x220 h11 fun x221 =>
 cl n89 [x0, x221] h11 (fun x222 h223 =>
 cl n90 [x222] h223 (fun x226 h227 =>
 IFB x226 (FA n4 x9 fun x230 =>
 LD x230 h227 fun x231 =>
 SA n1 x231 (.int .i64 n1) fun x232 =>
 LD x232 h227 fun x233 =>
 cl n89 [x0, x233] h227 (fun x234 h235 =>
 ST n3 x3 x234 h235 fun h238 =>
 LDN n3 x3 h238 fun x239 =>
 kr x239 h238) kp)
 (FA n4 x9 fun x240 =>
 LD x240 h227 fun x241 =>
 SA n1 x241 (.int .i64 n2) fun x242 =>
 LD x242 h227 fun x243 =>
 cl n89 [x0, x243] h227 (fun x244 h245 =>
 ST n3 x3 x244 h245 fun h248 =>
 LDN n3 x3 h248 fun x249 =>
 kr x249 h248) kp)) kp) kp
def B89x290 (x260 : AV) (cl : CL) (x3 : AV) (kr : KR) (kp : KP) (x274 : AV) (h275 : Heap) : Ans := JO (fun x276 h277 =>
 SEL x260 (.bool true) x276 fun x278 =>
 cl n140 [x278] h277 (fun x279 h280 =>
 ST n3 x3 x279 h280 fun h283 =>
 LDN n3 x3 h283 fun x284 =>
 kr x284 h283) kp) fun j285 =>
 GW false x260 (cl n90 [x274] h275 (fun x286 h287 =>
 j285 x286 h287) kp)
 (j285 undefA h275)
def B89x300 (x260 : AV) (cl : CL) (x3 : AV) (kr : KR) (kp : KP) (x264 : AV) (x268 : AV) (h269 : Heap) : Ans := JO (fun x270 h271 =>
 JO (fun x272 h273 =>
 JO (fun x274 h275 =>
 B89x290 x260 cl x3 kr kp x274 h275) fun j291 =>
 GW false x260 (cl n89 [x264, x272] h273 (fun x292 h293 =>
 j291 x292 h293) kp)
 (j291 undefA h273)) fun j296 =>
 GW false x260 (LD x270 h271 fun x297 =>
 j296 x297 h271)
 (j296 undefA h271)) fun j298 =>
 GW false x260 (SA n1 x268 (.int .i64 n1) fun x299 =>
 j298 x299 h269)
 (j298 undefA h269)
def B89x306 (x9 : AV) (h11 : Heap) (cl : CL) (x0 : AV) (x3 : AV) (kr : KR) (kp : KP) : Ans := FA n4 x9 fun x252 =>
 LD x252 h11 fun x253 =>
 SA n1 x253 (.int .i64 n0) fun x254 =>
 LD x254 h11 fun x255 =>
 cl n89 [x0, x255] h11 (fun x256 h257 =>
 cl n90 [x256] h257 (fun x260 h261 =>
 JO (fun x264 h265 =>
 JO (fun x266 h267 =>
 JO (fun x268 h269 =>
 B89x300 x260 cl x3 kr kp x264 x268 h269) fun j301 =>
 GW false x260 (LD x266 h267 fun x302 =>
 j301 x302 h267)
 (j301 undefA h267)) fun j303 =>
 GW false x260 (FA n4 x9 fun x304 =>
 j303 x304 h265)
 (j303 undefA h265)) fun j305 =>
 GW false x260 (j305 x0 h261)
 (j305 undefA h261)) kp) kp
def B89x346 (x316 : AV) (cl : CL) (x3 : AV) (kr : KR) (kp : KP) (x330 : AV) (h331 : Heap) : Ans := JO (fun x332 h333 =>
 SEL x316 x332 (.bool false) fun x334 =>
 cl n140 [x334] h333 (fun x335 h336 =>
 ST n3 x3 x335 h336 fun h339 =>
 LDN n3 x3 h339 fun x340 =>
 kr x340 h339) kp) fun j341 =>
 GW true x316 (cl n90 [x330] h331 (fun x342 h343 =>
 j341 x342 h343) kp)
 (j341 undefA h331)
def B89x356 (x316 : AV) (cl : CL) (x3 : AV) (kr : KR) (kp : KP) (x320 : AV) (x324 : AV) (h325 : Heap) : Ans := JO (fun x326 h327 =>
 JO (fun x328 h329 =>
 JO (fun x330 h331 =>
 B89x346 x316 cl x3 kr kp x330 h331) fun j347 =>
 GW true x316 (cl n89 [x320, x328] h329 (fun x348 h349 =>
 j347 x348 h349) kp)
 (j347 undefA h329)) fun j352 =>
 GW true x316 (LD x326 h327 fun x353 =>
 j352 x353 h327)
 (j352 undefA h327)) fun j354 =>
 GW true x316 (SA n1 x324 (.int .i64 n1) fun x355 =>
 j354 x355 h325)
 (j354 undefA h325)
def B89x362 (x9 : AV) (h11 : Heap) (cl : CL) (x0 : AV) (x3 : AV) (kr : KR) (kp : KP) : Ans := FA n4 x9 fun x308 =>
 LD x308 h11 fun x309 =>
 SA n1 x309 (.int .i64 n0) fun x310 =>
 LD x310 h11 fun x311 =>
 cl n89 [x0, x311] h11 (fun x312 h313 =>
 cl n90 [x312] h313 (fun x316 h317 =>
 JO (fun x320 h321 =>
 JO (fun x322 h323 =>
 JO (fun x324 h325 =>
 B89x356 x316 cl x3 kr kp x320 x324 h325) fun j357 =>
 GW true x316 (LD x322 h323 fun x358 =>
 j357 x358 h323)
 (j357 undefA h323)) fun j359 =>
 GW true x316 (FA n4 x9 fun x360 =>
 j359 x360 h321)
 (j359 undefA h321)) fun j361 =>
 GW true x316 (j361 x0 h317)
 (j361 undefA h317)) kp) kp
def B89x383 (x9 : AV) (h11 : Heap) (cl : CL) (x0 : AV) (x3 : AV) (kr : KR) (kp : KP) : Ans := FA n4 x9 fun x364 =>
 LD x364 h11 fun x365 =>
 SA n1 x365 (.int .i64 n0) fun x366 =>
 LD x366 h11 fun x367 =>
 cl n89 [x0, x367] h11 (fun x368 h369 =>
 cl n90 [x368] h369 (fun x372 h373 =>
 OV (unOpA .not x372) fun x376 =>
 cl n140 [x376] h373 (fun x377 h378 =>
 ST n3 x3 x377 h378 fun h381 =>
 LDN n3 x3 h381 fun x382 =>
 kr x382 h381) kp) kp) kp
def B89x435 (x408 : AV) (h414 : Heap) (x9 : AV) (cl : CL) (x394 : AV) (x3 : AV) (kr : KR) (kp : KP) : Ans := FA n1 x408 fun x418 =>
 LD x418 h414 fun x419 =>
 FA n0 x9 fun x420 =>
 LD x420 h414 fun x421 =>
 EQL Pr 3 true x421 (.int .i64 n13) fun x422 =>
 cl n141 [x419, x394, (.int .i64 n11)] h414 (fun x423 h424 =>
 LD x420 h424 fun x427 =>
 EQV x421 x427 <|
 EQL Pr 4 false x423 x422 fun x428 =>
 cl n140 [x428] h424 (fun x429 h430 =>
 ST n3 x3 x429 h430 fun h433 =>
 LDN n3 x3 h433 fun x434 =>
 kr x434 h433) kp) kp
def B89x465 (x9 : AV) (h414 : Heap) (cl : CL) (x0 : AV) (x394 : AV) (x3 : AV) (kr : KR) (kp : KP) : Ans := FA n4 x9 fun x436 =>
 LD x436 h414 fun x437 =>
 SA n1 x437 (.int .i64 n1) fun x438 =>
 LD x438 h414 fun x439 =>
 FA n0 x9 fun x440 =>
 LD x440 h414 fun x441 =>
 EQL Pr 3 true x441 (.int .i64 n13) fun x442 =>
 cl n89 [x0, x439] h414 (fun x443 h444 =>
 LD x440 h444 fun x447 =>
 EQV x441 x447 <|
 cl n146 [x443] h444 (fun x448 h449 =>
 LD x440 h449 fun x452 =>
 EQV x441 x452 <|
 cl n141 [x448, x394, (.int .i64 n4)] h449 (fun x453 h454 =>
 LD x440 h454 fun x457 =>
 EQV x441 x457 <|
 EQL Pr 4 false x453 x442 fun x458 =>
 cl n140 [x458] h454 (fun x459 h460 =>
 ST n3 x3 x459 h460 fun h463 =>
 LDN n3 x3 h463 fun x464 =>
 kr x464 h463) kp) kp) kp) kp
def B89x466 (x9 : AV) (h385 : Heap) (cl : CL) (x0 : AV) (x3 : AV) (kr : KR) (kp : KP) : Ans := FA n4 x9 fun x386 =>
 LD x386 h385 fun x387 =>
 SA n1 x387 (.int .i64 n0) fun x388 =>
 LD x388 h385 fun x389 =>
 cl n89 [x0, x389] h385 (fun x390 h391 =>
 cl n146 [x390] h391 (fun x394 h395 =>
 NC x0 fun x398 =>
 FA n0 x398 fun x399 =>
 FA n0 x399 fun x400 =>
 LD x400 h395 fun x401 =>
 FA n4 x9 fun x402 =>
 LD x402 h395 fun x403 =>
 SA n1 x403 (.int .i64 n1) fun x404 =>
 LD x404 h395 fun x405 =>
 SA n5 x401 x405 fun x406 =>
 LDN n5 x406 h395 fun x407 =>
 NEWC (.n (some (.int .i64 n0)) (.n (some (.str n0 n0)) (.n (some (.int .i64 n0)) .e .e) .e) (.n (some (.str n0 n0)) (.n (some (.nilslice)) .e .e) .e)) n5 108 h395 fun x408 h409 =>
 LDN n5 x406 h409 fun x410 =>
 EQV x407 x410 <|
 LD x404 h409 fun x411 =>
 EQV x405 x411 <|
 LD x402 h409 fun x412 =>
 EQV x403 x412 <|
 LD x400 h409 fun x413 =>
 EQV x401 x413 <|
 ST n5 x408 x407 h409 fun h414 =>
 FA n0 x408 fun x415 =>
 LD x415 h414 fun x416 =>
 EQL Pr 3 true x416 (.int .i64 n2) fun x417 =>
 IFB x417 (B89x435 x408 h414 x9 cl x394 x3 kr kp)
 (B89x465 x9 h414 cl x0 x394 x3 kr kp)) kp) kp
def B89x482 (x13 : AV) (x9 : AV) (h385 : Heap) (cl : CL) (x0 : AV) (x3 : AV) (kr : KR) (kp : KP) (x1 : AV) : Ans := EQL Pr 3 true x13 (.int .i64 n26) fun x467 =>
 IFB x467 (LDN n5 x9 h385 fun x468 =>
 cl n153 [x0, x468] h385 (fun x469 h470 =>
 ST n3 x3 x469 h470 fun h473 =>
 LDN n3 x3 h473 fun x474 =>
 kr x474 h473) kp)
 (LDN n5 x9 h385 fun x475 =>
 cl n154 [x0, x1, x475] h385 (fun x476 h477 =>
 ST n3 x3 x476 h477 fun h480 =>
 LDN n3 x3 h480 fun x481 =>
 kr x481 h480) kp)
def B89x486 (x13 : AV) (x9 : AV) (h11 : Heap) (cl : CL) (x0 : AV) (x3 : AV) (kr : KR) (kp : KP) (x1 : AV) : Ans := EQL Pr 3 true x13 (.int .i64 n12) fun x363 =>
 IFB x363 (B89x383 x9 h11 cl x0 x3 kr kp)
 (JO (fun x384 h385 =>
 IFB x384 (B89x466 x9 h385 cl x0 x3 kr kp)
 (B89x482 x13 x9 h385 cl x0 x3 kr kp x1)) fun j483 =>
 EQL Pr 3 true x13 (.int .i64 n13) fun x484 =>
 IFB x484 (j483 x484 h11)
 (EQL Pr 3 true x13 (.int .i64 n14) fun x485 =>
 j483 x485 h11))
def B89x487 (x13 : AV) (x9 : AV) (h11 : Heap) (cl : CL) (x0 : AV) (x3 : AV) (kr : KR) (kp : KP) (x1 : AV) : Ans := EQL Pr 3 true x13 (.int .i64 n9) fun x217 =>
 IFB x217 (B89x250 x9 h11 cl x0 x3 kr kp)
 (EQL Pr 3 true x13 (.int .i64 n10) fun x251 =>
 IFB x251 (B89x306 x9 h11 cl x0 x3 kr kp)
 (EQL Pr 3 true x13 (.int .i64 n11) fun x307 =>
 IFB x307 (B89x362 x9 h11 cl x0 x3 kr kp)
 (B89x486 x13 x9 h11 cl x0 x3 kr kp x1)))
def B89x488 (x13 : AV) (x9 : AV) (h11 : Heap) (cl : CL) (x0 : AV) (x1 : AV) (x3 : AV) (kr : KR) (kp : KP) : Ans := EQL Pr 3 true x13 (.int .i64 n6) fun x108 =>
 IFB x108 (B89x143 x9 h11 cl x0 x1 x3 kr kp)
 (EQL Pr 3 true x13 (.int .i64 n7) fun x144 =>
 IFB x144 (B89x172 x9 h11 cl x0 x3 kr kp)
 (EQL Pr 3 true x13 (.int .i64 n8) fun x173 =>
 IFB x173 (B89x216 x9 h11 cl x0 x3 kr kp)
 (B89x487 x13 x9 h11 cl x0 x3 kr kp x1)))
def B89x489 (x13 : AV) (x9 : AV) (h11 : Heap) (cl : CL) (x0 : AV) (x1 : AV) (x3 : AV) (kr : KR) (kp : KP) : Ans := EQL Pr 3 true x13 (.int .i64 n3) fun x49 =>
 IFB x49 (FA n1 x9 fun x50 =>
 LD x50 h11 fun x51 =>
 cl n143 [x0, x1, x51] h11 (fun x52 h53 =>
 cl n142 [x0, x52] h53 (fun x56 h57 =>
 ST n3 x3 x56 h57 fun h60 =>
 LDN n3 x3 h60 fun x61 =>
 kr x61 h60) kp) kp)
 (EQL Pr 3 true x13 (.int .i64 n4) fun x62 =>
 IFB x62 (B89x81 x9 h11 cl x0 x3 kr kp)
 (EQL Pr 3 true x13 (.int .i64 n5) fun x82 =>
 IFB x82 (B89x107 x9 h11 cl x0 x1 x3 kr kp)
 (B89x488 x13 x9 h11 cl x0 x1 x3 kr kp)))
def B89x490 (x13 : AV) (x9 : AV) (h11 : Heap) (cl : CL) (x3 : AV) (kr : KR) (kp : KP) (x0 : AV) (x1 : AV) : Ans := EQL Pr 3 true x13 (.int .i64 n1) fun x23 =>
 IFB x23 (FA n1 x9 fun x24 =>
 LD x24 h11 fun x25 =>
 cl n139 [x25] h11 (fun x26 h27 =>
 ST n3 x3 x26 h27 fun h30 =>
 LDN n3 x3 h30 fun x31 =>
 kr x31 h30) kp)
 (EQL Pr 3 true x13 (.int .i64 n2) fun x32 =>
 IFB x32 (B89x48 x9 h11 x0 cl x3 kr kp)
 (B89x489 x13 x9 h11 cl x0 x1 x3 kr kp))
def F89 (fu : Nat) (oR : Orc) (cl : CL) (args : List AV) (h2 : Heap) (kr : KR) (kp : KP) : Ans := AR2 args fun x0 x1 =>
 NEWC (.n (some (.int .i64 n0)) (.n (some (.int .i64 n0)) .e .e) (.n (some (.str n0 n0)) .e .e)) n3 44 h2 fun x3 h4 =>
 cl n137 [x0, x1] h4 (fun x5 h6 =>
 NEWC (.n (some (.int .i64 n0)) (.n (some (.str n0 n0)) (.n (some (.int .i64 n0)) .e .e) .e) (.n (some (.str n0 n0)) (.n (some (.nilslice)) .e .e) .e)) n5 108 h6 fun x9 h10 =>
 ST n5 x9 x5 h10 fun h11 =>
 FA n0 x9 fun x12 =>
 LD x12 h11 fun x13 =>
 EQL Pr 3 true x13 (.int .i64 n0) fun x14 =>
 IFB x14 (FA n3 x9 fun x15 =>
 LD x15 h11 fun x16 =>
 cl n138 [x16] h11 (fun x17 h18 =>
 ST n3 x3 x17 h18 fun h21 =>
 LDN n3 x3 h21 fun x22 =>
 kr x22 h21) kp)
 (B89x490 x13 x9 h11 cl x3 kr kp x0 x1)) kp

theorem eqF89 : F89 = fun fu oR => compF Pr fu oR 89 2 := by kernel_rfl

def B92x30 (x18 : AV) (x17 : AV) (x16 : AV) (h19 : Heap) (cl : CL) (x0 : AV) (kr : KR) (j20 : AV → Heap → Ans) (kp : KP) (j13 : Heap → Ans) : Ans := LSS Pr 3 false x18 x17 fun x21 =>
 IFB x21 (SA n1 x16 x18 fun x22 =>
 LD x22 h19 fun x23 =>
 cl n92 [x0, x23] h19 (fun x24 h25 =>
 NEQ Pr 3 true x24 (.int .i64 n0) fun x28 =>
 IFB x28 (kr x24 h25)
 (ADD Pr 3 true x18 (.int .i64 n1) fun x29 =>
 j20 x29 h25)) kp)
 (j13  h19)
def B92x73 (x7 : AV) (h50 : Heap) (cl : CL) (x0 : AV) (kr : KR) (kp : KP) (j13 : Heap → Ans) : Ans := FA n4 x7 fun x61 =>
 LD x61 h50 fun x62 =>
 LENS x62 fun x63 =>
 EQL Pr 3 true x63 (.int .i64 n3) fun x64 =>
 IFB x64 (FA n4 x7 fun x65 =>
 LD x65 h50 fun x66 =>
 SA n1 x66 (.int .i64 n2) fun x67 =>
 LD x67 h50 fun x68 =>
 cl n92 [x0, x68] h50 (fun x69 h70 =>
 kr x69 h70) kp)
 (j13  h50)
def B92x74 (x7 : AV) (h9 : Heap) (cl : CL) (x0 : AV) (kr : KR) (kp : KP) (j13 : Heap → Ans) : Ans := FA n4 x7 fun x41 =>
 LD x41 h9 fun x42 =>
 SA n1 x42 (.int .i64 n0) fun x43 =>
 LD x43 h9 fun x44 =>
 cl n89 [x0, x44] h9 (fun x45 h46 =>
 cl n90 [x45] h46 (fun x49 h50 =>
 IFB x49 (FA n4 x7 fun x53 =>
 LD x53 h50 fun x54 =>
 SA n1 x54 (.int .i64 n1) fun x55 =>
 LD x55 h50 fun x56 =>
 cl n92 [x0, x56] h50 (fun x57 h58 =>
 kr x57 h58) kp)
 (B92x73 x7 h50 cl x0 kr kp j13)) kp) kp
def B92x100 (x7 : AV) (h76 : Heap) (cl : CL) (x0 : AV) (kr : KR) (j77 : Heap → Ans) (kp : KP) (j13 : Heap → Ans) : Ans := FA n4 x7 fun x78 =>
 LD x78 h76 fun x79 =>
 SA n1 x79 (.int .i64 n0) fun x80 =>
 LD x80 h76 fun x81 =>
 cl n89 [x0, x81] h76 (fun x82 h83 =>
 cl n90 [x82] h83 (fun x86 h87 =>
 IFB x86 (FA n4 x7 fun x90 =>
 LD x90 h87 fun x91 =>
 SA n1 x91 (.int .i64 n1) fun x92 =>
 LD x92 h87 fun x93 =>
 cl n155 [x0, x93] h87 (fun x94 h95 =>
 EX n0 x94 fun x98 =>
 EX n1 x94 fun x99 =>
 IFB x98 (kr x99 h95)
 (j77  h95)) kp)
 (j13  h87)) kp) kp
def B92x142 (x7 : AV) (h121 : Heap) (cl : CL) (x0 : AV) (kr : KR) (j111 : Heap → Ans) (kp : KP) : Ans := FA n4 x7 fun x124 =>
 LD x124 h121 fun x125 =>
 SA n1 x125 (.int .i64 n3) fun x126 =>
 LD x126 h121 fun x127 =>
 cl n155 [x0, x127] h121 (fun x128 h129 =>
 EX n0 x128 fun x132 =>
 EX n1 x128 fun x133 =>
 IFB x132 (kr x133 h129)
 (FA n4 x7 fun x134 =>
 LD x134 h129 fun x135 =>
 SA n1 x135 (.int .i64 n2) fun x136 =>
 LD x136 h129 fun x137 =>
 cl n89 [x0, x137] h129 (fun x138 h139 =>
 j111  h139) kp)) kp
def B92x143 (x7 : AV) (h9 : Heap) (cl : CL) (x0 : AV) (fu : Nat) (kr : KR) (kp : KP) (j13 : Heap → Ans) : Ans := FA n4 x7 fun x102 =>
 LD x102 h9 fun x103 =>
 SA n1 x103 (.int .i64 n0) fun x104 =>
 LD x104 h9 fun x105 =>
 cl n89 [x0, x105] h9 (fun x106 h107 =>
 LP fu (fun _ => Ans.no) (fun j111 h110 =>
 FA n4 x7 fun x112 =>
 LD x112 h110 fun x113 =>
 SA n1 x113 (.int .i64 n1) fun x114 =>
 LD x114 h110 fun x115 =>
 cl n89 [x0, x115] h110 (fun x116 h117 =>
 cl n90 [x116] h117 (fun x120 h121 =>
 IFB x120 (B92x142 x7 h121 cl x0 kr j111 kp)
 (j13  h121)) kp) kp)  h107) kp
def B92x208 (x159 : AV) (x180 : AV) (h181 : Heap) (x7 : AV) (cl : CL) (x0 : AV) (x1 : AV) (kr : KR) (j182 : AV → Heap → Ans) (kp : KP) : Ans := SA n1 x159 x180 fun x184 =>
 LD x184 h181 fun x185 =>
 FA n1 x7 fun x186 =>
 LD x186 h181 fun x187 =>
 cl n143 [x0, x1, x187] h181 (fun x188 h189 =>
 OV (buildA Pr 44 [(n0, (.int .i64 n2)), (n2, x185)]) fun x192 =>
 cl n157 [x0, x188, x192] h189 (fun x193 h194 =>
 FA n4 x7 fun x197 =>
 LD x197 h194 fun x198 =>
 SA n1 x198 (.int .i64 n0) fun x199 =>
 LD x199 h194 fun x200 =>
 cl n155 [x0, x200] h194 (fun x201 h202 =>
 EX n0 x201 fun x205 =>
 EX n1 x201 fun x206 =>
 IFB x205 (kr x206 h202)
 (ADD Pr 3 true x180 (.int .i64 n1) fun x207 =>
 j182 x207 h202)) kp) kp) kp
def B92x209 (h160 : Heap) (x157 : AV) (cl : CL) (x159 : AV) (j161 : AV → Heap → Ans) (kp : KP) (fu : Nat) (x7 : AV) (x0 : AV) (x1 : AV) (kr : KR) (j13 : Heap → Ans) : Ans := GEN (nextA h160 x157 false) cl (fun x162 h163 =>
 EX n0 x162 fun x166 =>
 IFB x166 (OV (entryA h163 x157) fun x167 =>
 EX n0 x167 fun x168 =>
 BSL n9 n1 [(.str n0 n0)] n1 [(n0, x168)] h163 fun x169 h170 =>
 GEN (builtinF .append Pr [48, 48] [x159, x169] h170) cl (fun x171 h172 =>
 j161 x171 h172) kp)
 (cl n156 [x159] h163 (fun x175 h176 =>
 LENS x159 fun x179 =>
 LP fu (fun _ _ => Ans.no) (fun j182 x180 h181 =>
 LSS Pr 3 false x180 x179 fun x183 =>
 IFB x183 (B92x208 x159 x180 h181 x7 cl x0 x1 kr j182 kp)
 (j13  h181)) (.int .i64 n0) h176) kp)) kp
def B92x210 (h9 : Heap) (x7 : AV) (cl : CL) (x0 : AV) (x1 : AV) (fu : Nat) (kp : KP) (kr : KR) (j13 : Heap → Ans) : Ans := BSL n9 n1 [] n0 [] h9 fun x145 h146 =>
 FA n2 x7 fun x147 =>
 LD x147 h146 fun x148 =>
 cl n143 [x0, x1, x148] h146 (fun x149 h150 =>
 cl n148 [x0, x149] h150 (fun x153 h154 =>
 OVH (rangeA Pr h154 189 x153) fun x157 h158 =>
 LP fu (fun _ _ => Ans.no) (fun j161 x159 h160 =>
 B92x209 h160 x157 cl x159 j161 kp fu x7 x0 x1 kr j13) x145 h158) kp) kp
def B92x237 (x7 : AV) (h9 : Heap) (cl : CL) (x0 : AV) (j216 : Heap → Ans) (kp : KP) : Ans := FA n4 x7 fun x221 =>
 LD x221 h9 fun x222 =>
 SA n1 x222 (.int .i64 n0) fun x223 =>
 LD x223 h9 fun x224 =>
 cl n89 [x0, x224] h9 (fun x225 h226 =>
 cl n145 [x225] h226 (fun x229 h230 =>
 NC x0 fun x233 =>
 FA n12 x233 fun x234 =>
 FA n1 x234 fun x235 =>
 ST n1 x235 x229 h230 fun h236 =>
 j216  h236) kp) kp
def B92x262 (h9 : Heap) (x0 : AV) (kr : KR) (x7 : AV) (cl : CL) (kp : KP) : Ans := OV (buildA Pr 44 []) fun x239 =>
 NEWC (.n (some (.int .i64 n0)) (.n (some (.int .i64 n0)) .e .e) (.n (some (.str n0 n0)) .e .e)) n3 44 h9 fun x240 h241 =>
 ST n3 x240 x239 h241 fun h242 =>
 JO (fun h243 =>
 LDN n3 x240 h243 fun x244 =>
 NC x0 fun x245 =>
 FA n9 x245 fun x246 =>
 ST n3 x246 x244 h243 fun h247 =>
 kr (.int .i64 n3) h247) fun j248 =>
 FA n4 x7 fun x249 =>
 LD x249 h242 fun x250 =>
 LENS x250 fun x251 =>
 GTR Pr 3 true x251 (.int .i64 n0) fun x252 =>
 IFB x252 (FA n4 x7 fun x253 =>
 LD x253 h242 fun x254 =>
 SA n1 x254 (.int .i64 n0) fun x255 =>
 LD x255 h242 fun x256 =>
 cl n89 [x0, x256] h242 (fun x257 h258 =>
 ST n3 x240 x257 h258 fun h261 =>
 j248  h261) kp)
 (j248  h242)
def B92x290 (x7 : AV) (h9 : Heap) (cl : CL) (x0 : AV) (x1 : AV) (j13 : Heap → Ans) (kp : KP) : Ans := FA n4 x7 fun x264 =>
 LD x264 h9 fun x265 =>
 SA n1 x265 (.int .i64 n0) fun x266 =>
 LD x266 h9 fun x267 =>
 cl n89 [x0, x267] h9 (fun x268 h269 =>
 cl n146 [x268] h269 (fun x272 h273 =>
 FA n1 x7 fun x276 =>
 LD x276 h273 fun x277 =>
 cl n143 [x0, x1, x277] h273 (fun x278 h279 =>
 cl n148 [x0, x278] h279 (fun x282 h283 =>
 GEN (builtinF .delete Pr [189, 9] [x282, x272] h283) cl (fun x286 h287 =>
 j13  h287) kp) kp) kp) kp) kp
def B92x319 (x295 : AV) (x297 : AV) (h299 : Heap) (cl : CL) (x0 : AV) (x298 : AV) (j300 : AV → AV → Heap → Ans) (kp : KP) : Ans := SA n1 x295 x297 fun x302 =>
 LD x302 h299 fun x303 =>
 cl n89 [x0, x303] h299 (fun x304 h305 =>
 cl n146 [x304] h305 (fun x308 h309 =>
 BSL n9 n1 [(.str n0 n0)] n1 [(n0, x308)] h309 fun x312 h313 =>
 GEN (builtinF .append Pr [48, 48] [x298, x312] h313) cl (fun x314 h315 =>
 ADD Pr 3 true x297 (.int .i64 n1) fun x318 =>
 j300 x318 x314 h315) kp) kp) kp
def B92x341 (cl : CL) (x0 : AV) (j13 : Heap → Ans) (kp : KP) (x7 : AV) (h299 : Heap) (x298 : AV) : Ans := JO (fun x320 h321 =>
 cl n82 [x320, (.str n1 n32)] h321 (fun x322 h323 =>
 ADD Pr 9 true x322 (.str n1 n10) fun x326 =>
 cl n158 [x0, x326] h323 (fun x327 h328 =>
 j13  h328) kp) kp) fun j331 =>
 FA n4 x7 fun x332 =>
 LD x332 h299 fun x333 =>
 LENS x333 fun x334 =>
 EQL Pr 3 true x334 (.int .i64 n0) fun x335 =>
 IFB x335 (NC x0 fun x336 =>
 FA n6 x336 fun x337 =>
 LD x337 h299 fun x338 =>
 BSL n9 n1 [(.str n0 n0)] n1 [(n0, x338)] h299 fun x339 h340 =>
 j331 x339 h340)
 (j331 x298 h299)
def B92x342 (h9 : Heap) (x7 : AV) (fu : Nat) (cl : CL) (x0 : AV) (kp : KP) (j13 : Heap → Ans) : Ans := BSL n9 n1 [] n0 [] h9 fun x292 h293 =>
 FA n4 x7 fun x294 =>
 LD x294 h293 fun x295 =>
 LENS x295 fun x296 =>
 LP fu (fun _ _ _ => Ans.no) (fun j300 x297 x298 h299 =>
 LSS Pr 3 false x297 x296 fun x301 =>
 IFB x301 (B92x319 x295 x297 h299 cl x0 x298 j300 kp)
 (B92x341 cl x0 j13 kp x7 h299 x298)) (.int .i64 n0) x292 h293
def B92x367 (x347 : AV) (x349 : AV) (h351 : Heap) (cl : CL) (x0 : AV) (x350 : AV) (j352 : AV → AV → Heap → Ans) (kp : KP) : Ans := SA n1 x347 x349 fun x354 =>
 LD x354 h351 fun x355 =>
 cl n89 [x0, x355] h351 (fun x356 h357 =>
 BSL n44 n3 [(.int .i64 n0), (.int .i64 n0), (.str n0 n0)] n1 [(n0, x356)] h357 fun x360 h361 =>
 GEN (builtinF .append Pr [45, 45] [x350, x360] h361) cl (fun x362 h363 =>
 ADD Pr 3 true x349 (.int .i64 n1) fun x366 =>
 j352 x366 x362 h363) kp) kp
def B92x401 (x350 : AV) (h351 : Heap) (cl : CL) (x0 : AV) (j13 : Heap → Ans) (kp : KP) : Ans := SA n3 x350 (.int .i64 n0) fun x368 =>
 LDN n3 x368 h351 fun x369 =>
 OV (sliceA Pr 45 x350 (some (.int .i64 n1)) none none) fun x370 =>
 cl n146 [x369] h351 (fun x371 h372 =>
 cl n159 [x371, x370] h372 (fun x375 h376 =>
 EX n0 x375 fun x379 =>
 EX n1 x375 fun x380 =>
 JO (fun h381 =>
 cl n158 [x0, x379] h381 (fun x382 h383 =>
 j13  h383) kp) fun j386 =>
 JO (fun x387 h388 =>
 IFB x387 (GEN (panA (.iface n85 (.int .i64 n10)) h388) cl (fun x389 h390 =>
 j386  h390) kp)
 (EQL Pr 3 true x380 (.int .i64 n3) fun x393 =>
 IFB x393 (GEN (panA (.iface n85 (.int .i64 n5)) h388) cl (fun x394 h395 =>
 j386  h395) kp)
 (j386  h388))) fun j398 =>
 EQL Pr 3 true x380 (.int .i64 n1) fun x399 =>
 IFB x399 (j398 x399 h376)
 (EQL Pr 3 true x380 (.int .i64 n2) fun x400 =>
 j398 x400 h376)) kp) kp
def B92x402 (h9 : Heap) (x7 : AV) (fu : Nat) (cl : CL) (x0 : AV) (kp : KP) (j13 : Heap → Ans) : Ans := BSL n44 n3 [] n0 [] h9 fun x344 h345 =>
 FA n4 x7 fun x346 =>
 LD x346 h345 fun x347 =>
 LENS x347 fun x348 =>
 LP fu (fun _ _ _ => Ans.no) (fun j352 x349 x350 h351 =>
 LSS Pr 3 false x349 x348 fun x353 =>
 IFB x353 (B92x367 x347 x349 h351 cl x0 x350 j352 kp)
 (B92x401 x350 h351 cl x0 j13 kp)) (.int .i64 n0) x344 h345
def B92x403 (x11 : AV) (x7 : AV) (h9 : Heap) (cl : CL) (x0 : AV) (x1 : AV) (j13 : Heap → Ans) (kp : KP) (fu : Nat) : Ans := EQL Pr 3 true x11 (.int .i64 n52) fun x263 =>
 IFB x263 (B92x290 x7 h9 cl x0 x1 j13 kp)
 (EQL Pr 3 true x11 (.int .i64 n41) fun x291 =>
 IFB x291 (B92x342 h9 x7 fu cl x0 kp j13)
 (EQL Pr 3 true x11 (.int .i64 n42) fun x343 =>
 IFB x343 (B92x402 h9 x7 fu cl x0 kp j13)
 (j13  h9)))
def B92x404 (x11 : AV) (kr : KR) (x7 : AV) (h9 : Heap) (cl : CL) (x0 : AV) (kp : KP) (x1 : AV) (j13 : Heap → Ans) (fu : Nat) : Ans := EQL Pr 3 true x11 (.int .i64 n50) fun x214 =>
 IFB x214 (JO (fun h215 =>
 kr (.int .i64 n5) h215) fun j216 =>
 FA n4 x7 fun x217 =>
 LD x217 h9 fun x218 =>
 LENS x218 fun x219 =>
 GTR Pr 3 true x219 (.int .i64 n0) fun x220 =>
 IFB x220 (B92x237 x7 h9 cl x0 j216 kp)
 (j216  h9))
 (EQL Pr 3 true x11 (.int .i64 n51) fun x238 =>
 IFB x238 (B92x262 h9 x0 kr x7 cl kp)
 (B92x403 x11 x7 h9 cl x0 x1 j13 kp fu))
def B92x405 (x11 : AV) (kr : KR) (h9 : Heap) (x7 : AV) (cl : CL) (x0 : AV) (kp : KP) (x1 : AV) (j13 : Heap → Ans) (fu : Nat) : Ans := EQL Pr 3 true x11 (.int .i64 n47) fun x211 =>
 IFB x211 (kr (.int .i64 n1) h9)
 (EQL Pr 3 true x11 (.int .i64 n48) fun x212 =>
 IFB x212 (kr (.int .i64 n2) h9)
 (EQL Pr 3 true x11 (.int .i64 n49) fun x213 =>
 IFB x213 (kr (.int .i64 n4) h9)
 (B92x404 x11 kr x7 h9 cl x0 kp x1 j13 fu)))
def B92x406 (x11 : AV) (fu : Nat) (x7 : AV) (cl : CL) (x0 : AV) (kr : KR) (kp : KP) (j13 : Heap → Ans) (h9 : Heap) (x1 : AV) : Ans := EQL Pr 3 true x11 (.int .i64 n44) fun x75 =>
 IFB x75 (LP fu (fun _ => Ans.no) (fun j77 h76 =>
 B92x100 x7 h76 cl x0 kr j77 kp j13)  h9)
 (EQL Pr 3 true x11 (.int .i64 n45) fun x101 =>
 IFB x101 (B92x143 x7 h9 cl x0 fu kr kp j13)
 (EQL Pr 3 true x11 (.int .i64 n46) fun x144 =>
 IFB x144 (B92x210 h9 x7 cl x0 x1 fu kp kr j13)
 (B92x405 x11 kr h9 x7 cl x0 kp x1 j13 fu)))
def B92x407 (x11 : AV) (x7 : AV) (h9 : Heap) (cl : CL) (x0 : AV) (j13 : Heap → Ans) (kp : KP) (kr : KR) (fu : Nat) (x1 : AV) : Ans := EQL Pr 3 true x11 (.int .i64 n40) fun x31 =>
 IFB x31 (FA n4 x7 fun x32 =>
 LD x32 h9 fun x33 =>
 SA n1 x33 (.int .i64 n0) fun x34 =>
 LD x34 h9 fun x35 =>
 cl n89 [x0, x35] h9 (fun x36 h37 =>
 j13  h37) kp)
 (EQL Pr 3 true x11 (.int .i64 n43) fun x40 =>
 IFB x40 (B92x74 x7 h9 cl x0 kr kp j13)
 (B92x406 x11 fu x7 cl x0 kr kp j13 h9 x1))
def F92 (fu : Nat) (oR : Orc) (cl : CL) (args : List AV) (h2 : Heap) (kr : KR) (kp : KP) : Ans := AR2 args fun x0 x1 =>
 cl n137 [x0, x1] h2 (fun x3 h4 =>
 NEWC (.n (some (.int .i64 n0)) (.n (some (.str n0 n0)) (.n (some (.int .i64 n0)) .e .e) .e) (.n (some (.str n0 n0)) (.n (some (.nilslice)) .e .e) .e)) n5 108 h4 fun x7 h8 =>
 ST n5 x7 x3 h8 fun h9 =>
 FA n0 x7 fun x10 =>
 LD x10 h9 fun x11 =>
 JO (fun h12 =>
 kr (.int .i64 n0) h12) fun j13 =>
 EQL Pr 3 true x11 (.int .i64 n53) fun x14 =>
 IFB x14 (FA n4 x7 fun x15 =>
 LD x15 h9 fun x16 =>
 LENS x16 fun x17 =>
 LP fu (fun _ _ => Ans.no) (fun j20 x18 h19 =>
 B92x30 x18 x17 x16 h19 cl x0 kr j20 kp j13) (.int .i64 n0) h9)
 (B92x407 x11 x7 h9 cl x0 j13 kp kr fu x1)) kp

theorem eqF92 : F92 = fun fu oR => compF Pr fu oR 92 2 := by kernel_rfl

def B93x26 (x10 : AV) (x0 : AV) (h14 : Heap) (j12 : AV → Heap → Ans) : Ans := SUB Pr 3 true x10 (.int .i64 n1) fun x15 =>
 SUB Pr 3 true x10 (.int .i64 n1) fun x16 =>
 SA n4 x0 x16 fun x17 =>
 LDN n4 x17 h14 fun x18 =>
 SA n4 x0 x10 fun x19 =>
 LDN n4 x19 h14 fun x20 =>
 SA n4 x0 x10 fun x21 =>
 ST n4 x21 x18 h14 fun h22 =>
 SA n4 x0 x15 fun x23 =>
 ST n4 x23 x20 h22 fun h24 =>
 SUB Pr 3 true x10 (.int .i64 n1) fun x25 =>
 j12 x25 h24
def B93x62 (x29 : AV) (j28 : AV → Heap → Ans) (x30 : AV) (x38 : AV) (x48 : AV) (h49 : Heap) (cl : CL) (kp : KP) : Ans := JO (fun x50 h51 =>
 JO (fun x52 h53 =>
 SEL x29 x52 (.bool false) fun x54 =>
 j28 x54 h53) fun j55 =>
 GW true x29 (LSS Pr 3 true x50 (.int .i64 n0) fun x56 =>
 j55 x56 h51)
 (j55 undefA h51)) fun j57 =>
 GW true x29 (GEN (callV Pr (some x30) [x38, x48] h49) cl (fun x58 h59 =>
 j57 x58 h59) kp)
 (j57 undefA h49)
def B93x69 (x29 : AV) (j28 : AV → Heap → Ans) (x30 : AV) (x38 : AV) (cl : CL) (kp : KP) (x40 : AV) (x42 : AV) (h43 : Heap) : Ans := JO (fun x44 h45 =>
 JO (fun x46 h47 =>
 JO (fun x48 h49 =>
 B93x62 x29 j28 x30 x38 x48 h49 cl kp) fun j63 =>
 GW true x29 (LDN n4 x46 h47 fun x64 =>
 j63 x64 h47)
 (j63 undefA h47)) fun j65 =>
 GW true x29 (SA n4 x40 x44 fun x66 =>
 j65 x66 h45)
 (j65 undefA h45)) fun j67 =>
 GW true x29 (SUB Pr 3 true x42 (.int .i64 n1) fun x68 =>
 j67 x68 h43)
 (j67 undefA h43)
def B93x76 (x29 : AV) (j28 : AV → Heap → Ans) (x30 : AV) (cl : CL) (kp : KP) (x10 : AV) (x0 : AV) (x32 : AV) (x34 : AV) (h35 : Heap) : Ans := JO (fun x36 h37 =>
 JO (fun x38 h39 =>
 JO (fun x40 h41 =>
 JO (fun x42 h43 =>
 B93x69 x29 j28 x30 x38 cl kp x40 x42 h43) fun j70 =>
 GW true x29 (j70 x10 h41)
 (j70 undefA h41)) fun j71 =>
 GW true x29 (j71 x0 h39)
 (j71 undefA h39)) fun j72 =>
 GW true x29 (LDN n4 x36 h37 fun x73 =>
 j72 x73 h37)
 (j72 undefA h37)) fun j74 =>
 GW true x29 (SA n4 x32 x34 fun x75 =>
 j74 x75 h35)
 (j74 undefA h35)
def B93x80 (x10 : AV) (x0 : AV) (j12 : AV → Heap → Ans) (x6 : AV) (j8 : AV → Heap → Ans) (x1 : AV) (cl : CL) (kp : KP) (x3 : AV) (h11 : Heap) : Ans := JO (fun x13 h14 =>
 IFB x13 (B93x26 x10 x0 h14 j12)
 (ADD Pr 3 true x6 (.int .i64 n1) fun x27 =>
 j8 x27 h14)) fun j28 =>
 GTR Pr 3 false x10 x1 fun x29 =>
 JO (fun x30 h31 =>
 JO (fun x32 h33 =>
 JO (fun x34 h35 =>
 B93x76 x29 j28 x30 cl kp x10 x0 x32 x34 h35) fun j77 =>
 GW true x29 (j77 x10 h33)
 (j77 undefA h33)) fun j78 =>
 GW true x29 (j78 x0 h31)
 (j78 undefA h31)) fun j79 =>
 GW true x29 (j79 x3 h11)
 (j79 undefA h11)
def F93 (fu : Nat) (oR : Orc) (cl : CL) (args : List AV) (h4 : Heap) (kr : KR) (kp : KP) : Ans := AR4 args fun x0 x1 x2 x3 =>
 ADD Pr 3 true x1 (.int .i64 n1) fun x5 =>
 LP fu (fun _ _ => Ans.no) (fun j8 x6 h7 =>
 LSS Pr 3 false x6 x2 fun x9 =>
 IFB x9 (LP fu (fun _ _ => Ans.no) (fun j12 x10 h11 =>
 B93x80 x10 x0 j12 x6 j8 x1 cl kp x3 h11) x6 h7)
 (kr (.tuple []) h7)) x5 h4

theorem eqF93 : F93 = fun fu oR => compF Pr fu oR 93 4 := by kernel_rfl

def B102x15 (h10 : Heap) (x9 : AV) (x8 : AV) (kr : KR) : Ans := OV (convV Pr h10 158 5 x9) fun x11 =>
 SAT (.str n256 (nat_lit 1013866857139168856493015739252390649739422828853819106890363778118420553376247557433637691341895324351018602695588957474325319502760499485336098898398377509666851054660423406800006203933793007272033180812049178612605246075062580585469430410618860250057463399279570354286669047577758927328864388992123306212451509403152394148136105363817402562688186708175358218852349079190158732807302672745370040257219644697201681238697346923541678507645485296520536209706771857694240900605172937619415410180424934769249448772944216470541052485265558808433676546390051204254346932932316488017972311616136051587427851453983453479168)) x11 fun x12 =>
 OV (convV Pr h10 5 3 x12) fun x13 =>
 ADD Pr 3 false x8 x13 fun x14 =>
 kr x14 h10
def B102x24 (kr : KR) (x3 : AV) (x2 : AV) (h4 : Heap) : Ans := JO (fun x5 x6 h7 =>
 JO (fun x8 x9 h10 =>
 B102x15 h10 x9 x8 kr) fun j16 =>
 GEQ Pr 158 true x6 (.int .u64 n256) fun x17 =>
 IFB x17 (BOP Pr .shr 158 true x6 (.int .u64 n8) fun x18 =>
 ADD Pr 3 true x5 (.int .i64 n8) fun x19 =>
 j16 x19 x18 h7)
 (j16 x5 x6 h7)) fun j20 =>
 GEQ Pr 158 true x3 (.int .u64 (nat_lit 65536)) fun x21 =>
 IFB x21 (BOP Pr .shr 158 true x3 (.int .u64 n16) fun x22 =>
 ADD Pr 3 true x2 (.int .i64 n16) fun x23 =>
 j20 x23 x22 h4)
 (j20 x2 x3 h4)
def F102 (fu : Nat) (oR : Orc) (cl : CL) (args : List AV) (h1 : Heap) (kr : KR) (kp : KP) : Ans := AR1 args fun x0 =>
 JO (fun x2 x3 h4 =>
 B102x24 kr x3 x2 h4) fun j25 =>
 GEQ Pr 158 true x0 (.int .u64 (nat_lit 4294967296)) fun x26 =>
 IFB x26 (BOP Pr .shr 158 true x0 (.int .u64 n32) fun x27 =>
 j25 (.int .i64 n32) x27 h1)
 (j25 (.int .i64 n0) x0 h1)

theorem eqF102 : F102 = fun fu oR => compF Pr fu oR 102 1 := by kernel_rfl

def B103x32 (x17 : AV) (x13 : AV) (j15 : AV → Heap → Ans) (j10 : AV → Heap → Ans) (x18 : AV) (x20 : AV) (h21 : Heap) : Ans := JO (fun x22 h23 =>
 JO (fun x24 h25 =>
 SEL x17 x24 (.bool false) fun x26 =>
 IFB x26 (ADD Pr 3 true x13 (.int .i64 n1) fun x27 =>
 j15 x27 h25)
 (j10 x13 h25)) fun j28 =>
 GW true x17 (NEQ Pr 5 true x22 (.int .u8 n10) fun x29 =>
 j28 x29 h23)
 (j28 undefA h23)) fun j30 =>
 GW true x17 (SAT x18 x20 fun x31 =>
 j30 x31 h21)
 (j30 undefA h21)
def B103x42 (j5 : AV → Heap → Ans) (x0 : AV) (x3 : AV) (fu : Nat) (h4 : Heap) (cl : CL) (kr : KR) (kp : KP) : Ans := JO (fun x8 h9 =>
 j5 x8 h9) fun j10 =>
 SAT x0 x3 fun x11 =>
 EQL Pr 5 true x11 (.int .u8 n35) fun x12 =>
 IFB x12 (LP fu (fun _ _ => Ans.no) (fun j15 x13 h14 =>
 LENT x0 fun x16 =>
 LSS Pr 3 false x13 x16 fun x17 =>
 JO (fun x18 h19 =>
 JO (fun x20 h21 =>
 B103x32 x17 x13 j15 j10 x18 x20 h21) fun j33 =>
 GW true x17 (j33 x13 h19)
 (j33 undefA h19)) fun j34 =>
 GW true x17 (j34 x0 h14)
 (j34 undefA h14)) x3 h4)
 (SAT x0 x3 fun x35 =>
 cl n118 [x35] h4 (fun x36 h37 =>
 OV (unOpA .not x36) fun x40 =>
 IFB x40 (kr x3 h37)
 (ADD Pr 3 true x3 (.int .i64 n1) fun x41 =>
 j10 x41 h37)) kp)
def F103 (fu : Nat) (oR : Orc) (cl : CL) (args : List AV) (h2 : Heap) (kr : KR) (kp : KP) : Ans := AR2 args fun x0 x1 =>
 LP fu (fun _ _ => Ans.no) (fun j5 x3 h4 =>
 LENT x0 fun x6 =>
 LSS Pr 3 false x3 x6 fun x7 =>
 IFB x7 (B103x42 j5 x0 x3 fu h4 cl kr kp)
 (kr x3 h4)) x1 h2

theorem eqF103 : F103 = fun fu oR => compF Pr fu oR 103 2 := by kernel_rfl

def B104x32 (x0 : AV) (x1 : AV) (x20 : AV) (cl : CL) (h21 : Heap) (x3 : AV) (kr : KR) (kp : KP) : Ans := OV (sliceA Pr 9 x0 (some x1) (some x20) none) fun x22 =>
 cl n53 [x22] h21 (fun x23 h24 =>
 EX n0 x23 fun x27 =>
 EX n1 x23 fun x28 =>
 OV (buildA Pr 130 [(n0, (.int .i64 n1)), (n2, x27), (n3, x1)]) fun x29 =>
 ST n4 x3 x29 h24 fun h30 =>
 LDN n4 x3 h30 fun x31 =>
 kr (.tuple [x31, x20]) h30) kp
def B104x80 (x62 : AV) (x58 : AV) (j60 : AV → Heap → Ans) (j33 : AV → Heap → Ans) (cl : CL) (kp : KP) (x63 : AV) (x65 : AV) (h66 : Heap) : Ans := JO (fun x67 h68 =>
 JO (fun x69 h70 =>
 SEL x62 x69 (.bool false) fun x71 =>
 IFB x71 (ADD Pr 3 true x58 (.int .i64 n1) fun x72 =>
 j60 x72 h70)
 (j33 x58 h70)) fun j73 =>
 GW true x62 (cl n55 [x67] h68 (fun x74 h75 =>
 j73 x74 h75) kp)
 (j73 undefA h68)) fun j78 =>
 GW true x62 (SAT x63 x65 fun x79 =>
 j78 x79 h66)
 (j78 undefA h66)
def B104x83 (x5 : AV) (fu : Nat) (x0 : AV) (j33 : AV → Heap → Ans) (cl : CL) (kp : KP) (h55 : Heap) : Ans := ADD Pr 3 true x5 (.int .i64 n1) fun x57 =>
 LP fu (fun _ _ => Ans.no) (fun j60 x58 h59 =>
 LENT x0 fun x61 =>
 LSS Pr 3 false x58 x61 fun x62 =>
 JO (fun x63 h64 =>
 JO (fun x65 h66 =>
 B104x80 x62 x58 j60 j33 cl kp x63 x65 h66) fun j81 =>
 GW true x62 (j81 x58 h64)
 (j81 undefA h64)) fun j82 =>
 GW true x62 (j82 x0 h59)
 (j82 undefA h59)) x57 h55
def B104x91 (x45 : AV) (x5 : AV) (fu : Nat) (x0 : AV) (j33 : AV → Heap → Ans) (cl : CL) (kp : KP) (x46 : AV) (x50 : AV) (h51 : Heap) : Ans := JO (fun x52 h53 =>
 JO (fun x54 h55 =>
 SEL x45 x54 (.bool false) fun x56 =>
 IFB x56 (B104x83 x5 fu x0 j33 cl kp h55)
 (j33 x5 h55)) fun j84 =>
 GW true x45 (cl n55 [x52] h53 (fun x85 h86 =>
 j84 x85 h86) kp)
 (j84 undefA h53)) fun j89 =>
 GW true x45 (SAT x46 x50 fun x90 =>
 j89 x90 h51)
 (j89 undefA h51)
def B104x96 (x36 : AV) (x43 : AV) (x5 : AV) (fu : Nat) (x0 : AV) (j33 : AV → Heap → Ans) (cl : CL) (kp : KP) (h44 : Heap) : Ans := SEL x36 x43 (.bool false) fun x45 =>
 JO (fun x46 h47 =>
 JO (fun x48 h49 =>
 JO (fun x50 h51 =>
 B104x91 x45 x5 fu x0 j33 cl kp x46 x50 h51) fun j92 =>
 GW true x45 (ADD Pr 3 true x48 (.int .i64 n1) fun x93 =>
 j92 x93 h49)
 (j92 undefA h49)) fun j94 =>
 GW true x45 (j94 x5 h47)
 (j94 undefA h47)) fun j95 =>
 GW true x45 (j95 x0 h44)
 (j95 undefA h44)
def B104x102 (x36 : AV) (x5 : AV) (fu : Nat) (x0 : AV) (j33 : AV → Heap → Ans) (cl : CL) (kp : KP) (x37 : AV) (h38 : Heap) : Ans := JO (fun x39 h40 =>
 JO (fun x41 h42 =>
 JO (fun x43 h44 =>
 B104x96 x36 x43 x5 fu x0 j33 cl kp h44) fun j97 =>
 GW true x36 (EQL Pr 5 true x41 (.int .u8 n46) fun x98 =>
 j97 x98 h42)
 (j97 undefA h42)) fun j99 =>
 GW true x36 (SAT x37 x39 fun x100 =>
 j99 x100 h40)
 (j99 undefA h40)) fun j101 =>
 GW true x36 (j101 x5 h38)
 (j101 undefA h38)
def B104x104 (x9 : AV) (x16 : AV) (x5 : AV) (j7 : AV → Heap → Ans) (h17 : Heap) (x0 : AV) (x1 : AV) (cl : CL) (x3 : AV) (kr : KR) (kp : KP) (fu : Nat) : Ans := SEL x9 x16 (.bool false) fun x18 =>
 IFB x18 (ADD Pr 3 true x5 (.int .i64 n1) fun x19 =>
 j7 x19 h17)
 (JO (fun x20 h21 =>
 B104x32 x0 x1 x20 cl h21 x3 kr kp) fun j33 =>
 ADD Pr 3 true x5 (.int .i64 n1) fun x34 =>
 LENT x0 fun x35 =>
 LSS Pr 3 false x34 x35 fun x36 =>
 JO (fun x37 h38 =>
 B104x102 x36 x5 fu x0 j33 cl kp x37 h38) fun j103 =>
 GW true x36 (j103 x0 h17)
 (j103 undefA h17))
def B104x113 (x9 : AV) (x5 : AV) (j7 : AV → Heap → Ans) (x0 : AV) (x1 : AV) (cl : CL) (x3 : AV) (kr : KR) (kp : KP) (fu : Nat) (x10 : AV) (h11 : Heap) : Ans := JO (fun x12 h13 =>
 JO (fun x14 h15 =>
 JO (fun x16 h17 =>
 B104x104 x9 x16 x5 j7 h17 x0 x1 cl x3 kr kp fu) fun j105 =>
 GW true x9 (cl n55 [x14] h15 (fun x106 h107 =>
 j105 x106 h107) kp)
 (j105 undefA h15)) fun j110 =>
 GW true x9 (SAT x10 x12 fun x111 =>
 j110 x111 h13)
 (j110 undefA h13)) fun j112 =>
 GW true x9 (j112 x5 h11)
 (j112 undefA h11)
def F104 (fu : Nat) (oR : Orc) (cl : CL) (args : List AV) (h2 : Heap) (kr : KR) (kp : KP) : Ans := AR2 args fun x0 x1 =>
 NEWC (.n (some (.int .i64 n0)) (.n (some (.str n0 n0)) (.n (some (.int .i64 n0)) .e .e) .e) (.n (some (.int .i64 n0)) .e .e)) n4 130 h2 fun x3 h4 =>
 LP fu (fun _ _ => Ans.no) (fun j7 x5 h6 =>
 LENT x0 fun x8 =>
 LSS Pr 3 false x5 x8 fun x9 =>
 JO (fun x10 h11 =>
 B104x113 x9 x5 j7 x0 x1 cl x3 kr kp fu x10 h11) fun j114 =>
 GW true x9 (j114 x0 h6)
 (j114 undefA h6)) x1 h4

theorem eqF104 : F104 = fun fu oR => compF Pr fu oR 104 2 := by kernel_rfl

def B106x31 (x7 : AV) (kr : KR) (x0 : AV) (x12 : AV) (x16 : AV) (h17 : Heap) : Ans := JO (fun x18 h19 =>
 SEL x7 (.bool true) x18 fun x20 =>
 JO (fun x21 h22 =>
 JO (fun x23 h24 =>
 SEL x20 (.bool true) x23 fun x25 =>
 kr x25 h24) fun j26 =>
 GW false x20 (EQL Pr 5 true x21 (.int .u8 n95) fun x27 =>
 j26 x27 h22)
 (j26 undefA h22)) fun j28 =>
 GW false x20 (j28 x0 h19)
 (j28 undefA h19)) fun j29 =>
 GW false x7 (SEL x12 x16 (.bool false) fun x30 =>
 j29 x30 h17)
 (j29 undefA h17)
def B106x36 (x7 : AV) (kr : KR) (x0 : AV) (x10 : AV) (h11 : Heap) : Ans := JO (fun x12 h13 =>
 JO (fun x14 h15 =>
 JO (fun x16 h17 =>
 B106x31 x7 kr x0 x12 x16 h17) fun j32 =>
 GW true x12 (LEQ Pr 5 true x14 (.int .u8 n122) fun x33 =>
 j32 x33 h15)
 (j32 undefA h15)) fun j34 =>
 GW true x12 (j34 x0 h13)
 (j34 undefA h13)) fun j35 =>
 GW false x7 (j35 x10 h11)
 (j35 undefA h11)
def B106x42 (x2 : AV) (kr : KR) (x0 : AV) (x3 : AV) (h4 : Heap) : Ans := JO (fun x5 h6 =>
 SEL x2 x5 (.bool false) fun x7 =>
 JO (fun x8 h9 =>
 JO (fun x10 h11 =>
 B106x36 x7 kr x0 x10 h11) fun j37 =>
 GW false x7 (GEQ Pr 5 true x8 (.int .u8 n97) fun x38 =>
 j37 x38 h9)
 (j37 undefA h9)) fun j39 =>
 GW false x7 (j39 x0 h6)
 (j39 undefA h6)) fun j40 =>
 GW true x2 (LEQ Pr 5 true x3 (.int .u8 n90) fun x41 =>
 j40 x41 h4)
 (j40 undefA h4)
def F106 (fu : Nat) (oR : Orc) (cl : CL) (args : List AV) (h1 : Heap) (kr : KR) (kp : KP) : Ans := AR1 args fun x0 =>
 GEQ Pr 5 true x0 (.int .u8 n65) fun x2 =>
 JO (fun x3 h4 =>
 B106x42 x2 kr x0 x3 h4) fun j43 =>
 GW true x2 (j43 x0 h1)
 (j43 undefA h1)

theorem eqF106 : F106 = fun fu oR => compF Pr fu oR 106 1 := by kernel_rfl

def B107x60 (x44 : AV) (x22 : AV) (j34 : Heap → Ans) (x45 : AV) (x47 : AV) (h48 : Heap) : Ans := JO (fun x49 h50 =>
 JO (fun x51 h52 =>
 SEL x44 x51 (.bool false) fun x53 =>
 IFB x53 (FA n0 x22 fun x54 =>
 ST n1 x54 (.int .i64 n5) h52 fun h55 =>
 j34  h55)
 (j34  h52)) fun j56 =>
 GW true x44 (EQL Pr 5 true x49 (.int .u8 n40) fun x57 =>
 j56 x57 h50)
 (j56 undefA h50)) fun j58 =>
 GW true x44 (SAT x45 x47 fun x59 =>
 j58 x59 h48)
 (j58 undefA h48)
def B107x63 (x22 : AV) (x3 : AV) (kr : KR) (x5 : AV) (h24 : Heap) (cl : CL) (x0 : AV) (kp : KP) : Ans := JO (fun h30 =>
 LDN n4 x22 h30 fun x31 =>
 ST n4 x3 x31 h30 fun h32 =>
 LDN n4 x3 h32 fun x33 =>
 kr (.tuple [x33, x5]) h32) fun j34 =>
 FA n1 x22 fun x35 =>
 LD x35 h24 fun x36 =>
 cl n166 [x36] h24 (fun x37 h38 =>
 IFB x37 (FA n0 x22 fun x41 =>
 ST n1 x41 (.int .i64 n6) h38 fun h42 =>
 j34  h42)
 (LENT x0 fun x43 =>
 LSS Pr 3 false x5 x43 fun x44 =>
 JO (fun x45 h46 =>
 JO (fun x47 h48 =>
 B107x60 x44 x22 j34 x45 x47 h48) fun j61 =>
 GW true x44 (j61 x5 h46)
 (j61 undefA h46)) fun j62 =>
 GW true x44 (j62 x0 h38)
 (j62 undefA h38))) kp
def B107x64 (x0 : AV) (x1 : AV) (x5 : AV) (h17 : Heap) (x3 : AV) (kr : KR) (cl : CL) (kp : KP) : Ans := OV (sliceA Pr 9 x0 (some x1) (some x5) none) fun x20 =>
 OV (buildA Pr 130 [(n0, (.int .i64 n4)), (n1, x20), (n3, x1)]) fun x21 =>
 NEWC (.n (some (.int .i64 n0)) (.n (some (.str n0 n0)) (.n (some (.int .i64 n0)) .e .e) .e) (.n (some (.int .i64 n0)) .e .e)) n4 130 h17 fun x22 h23 =>
 ST n4 x22 x21 h23 fun h24 =>
 SUB Pr 3 false x5 x1 fun x25 =>
 GTR Pr 3 true x25 (.int .i64 n40) fun x26 =>
 IFB x26 (OV (buildA Pr 130 []) fun x27 =>
 ST n4 x3 x27 h24 fun h28 =>
 LDN n4 x3 h28 fun x29 =>
 kr (.tuple [x29, (.int .i64 (nat_lit 18446744073709551615))]) h28)
 (B107x63 x22 x3 kr x5 h24 cl x0 kp)
def B107x72 (x9 : AV) (x5 : AV) (j7 : AV → Heap → Ans) (x0 : AV) (x1 : AV) (x3 : AV) (kr : KR) (cl : CL) (kp : KP) (x10 : AV) (x12 : AV) (h13 : Heap) : Ans := JO (fun x14 h15 =>
 JO (fun x16 h17 =>
 SEL x9 x16 (.bool false) fun x18 =>
 IFB x18 (ADD Pr 3 true x5 (.int .i64 n1) fun x19 =>
 j7 x19 h17)
 (B107x64 x0 x1 x5 h17 x3 kr cl kp)) fun j65 =>
 GW true x9 (cl n165 [x14] h15 (fun x66 h67 =>
 j65 x66 h67) kp)
 (j65 undefA h15)) fun j70 =>
 GW true x9 (SAT x10 x12 fun x71 =>
 j70 x71 h13)
 (j70 undefA h13)
def F107 (fu : Nat) (oR : Orc) (cl : CL) (args : List AV) (h2 : Heap) (kr : KR) (kp : KP) : Ans := AR2 args fun x0 x1 =>
 NEWC (.n (some (.int .i64 n0)) (.n (some (.str n0 n0)) (.n (some (.int .i64 n0)) .e .e) .e) (.n (some (.int .i64 n0)) .e .e)) n4 130 h2 fun x3 h4 =>
 LP fu (fun _ _ => Ans.no) (fun j7 x5 h6 =>
 LENT x0 fun x8 =>
 LSS Pr 3 false x5 x8 fun x9 =>
 JO (fun x10 h11 =>
 JO (fun x12 h13 =>
 B107x72 x9 x5 j7 x0 x1 x3 kr cl kp x10 x12 h13) fun j73 =>
 GW true x9 (j73 x5 h11)
 (j73 undefA h11)) fun j74 =>
 GW true x9 (j74 x0 h6)
 (j74 undefA h6)) x1 h4

theorem eqF107 : F107 = fun fu oR => compF Pr fu oR 107 2 := by kernel_rfl

def B110x26 (x17 : AV) (x5 : AV) (x9 : AV) (h18 : Heap) (x1 : AV) (x16 : AV) (x3 : AV) (kr : KR) (j11 : AV → Heap → Ans) : Ans := IFB x17 (SA n1 x5 x9 fun x19 =>
 LD x19 h18 fun x20 =>
 OV (buildA Pr 130 [(n0, (.int .i64 n7)), (n1, x20), (n3, x1)]) fun x21 =>
 ADD Pr 3 false x1 x16 fun x22 =>
 ST n4 x3 x21 h18 fun h23 =>
 LDN n4 x3 h23 fun x24 =>
 kr (.tuple [x24, x22]) h23)
 (ADD Pr 3 true x9 (.int .i64 n1) fun x25 =>
 j11 x25 h18)
def B110x60 (x30 : AV) (j27 : AV → Heap → Ans) (x41 : AV) (x43 : AV) (x45 : AV) (h46 : Heap) : Ans := JO (fun x47 h48 =>
 JO (fun x49 h50 =>
 JO (fun x51 h52 =>
 SEL x30 x51 (.bool false) fun x53 =>
 j27 x53 h52) fun j54 =>
 GW true x30 (EQL Pr 9 false x41 x49 fun x55 =>
 j54 x55 h50)
 (j54 undefA h50)) fun j56 =>
 GW true x30 (LD x47 h48 fun x57 =>
 j56 x57 h48)
 (j56 undefA h48)) fun j58 =>
 GW true x30 (SA n1 x43 x45 fun x59 =>
 j58 x59 h46)
 (j58 undefA h46)
def B110x65 (x30 : AV) (j27 : AV → Heap → Ans) (x9 : AV) (x5 : AV) (x31 : AV) (x33 : AV) (x39 : AV) (h40 : Heap) : Ans := JO (fun x41 h42 =>
 JO (fun x43 h44 =>
 JO (fun x45 h46 =>
 B110x60 x30 j27 x41 x43 x45 h46) fun j61 =>
 GW true x30 (j61 x9 h44)
 (j61 undefA h44)) fun j62 =>
 GW true x30 (j62 x5 h42)
 (j62 undefA h42)) fun j63 =>
 GW true x30 (OV (sliceA Pr 9 x31 (some x33) (some x39) none) fun x64 =>
 j63 x64 h40)
 (j63 undefA h40)
def B110x71 (x30 : AV) (j27 : AV → Heap → Ans) (x9 : AV) (x5 : AV) (x31 : AV) (x16 : AV) (x1 : AV) (h32 : Heap) : Ans := JO (fun x33 h34 =>
 JO (fun x35 h36 =>
 JO (fun x37 h38 =>
 JO (fun x39 h40 =>
 B110x65 x30 j27 x9 x5 x31 x33 x39 h40) fun j66 =>
 GW true x30 (ADD Pr 3 false x35 x37 fun x67 =>
 j66 x67 h38)
 (j66 undefA h38)) fun j68 =>
 GW true x30 (j68 x16 h36)
 (j68 undefA h36)) fun j69 =>
 GW true x30 (j69 x1 h34)
 (j69 undefA h34)) fun j70 =>
 GW true x30 (j70 x1 h32)
 (j70 undefA h32)
def B110x73 (x5 : AV) (x9 : AV) (h10 : Heap) (x1 : AV) (x3 : AV) (kr : KR) (j11 : AV → Heap → Ans) (x0 : AV) : Ans := SA n1 x5 x9 fun x14 =>
 LD x14 h10 fun x15 =>
 LENT x15 fun x16 =>
 JO (fun x17 h18 =>
 B110x26 x17 x5 x9 h18 x1 x16 x3 kr j11) fun j27 =>
 ADD Pr 3 false x1 x16 fun x28 =>
 LENT x0 fun x29 =>
 LEQ Pr 3 false x28 x29 fun x30 =>
 JO (fun x31 h32 =>
 B110x71 x30 j27 x9 x5 x31 x16 x1 h32) fun j72 =>
 GW true x30 (j72 x0 h10)
 (j72 undefA h10)
def F110 (fu : Nat) (oR : Orc) (cl : CL) (args : List AV) (h2 : Heap) (kr : KR) (kp : KP) : Ans := AR2 args fun x0 x1 =>
 NEWC (.n (some (.int .i64 n0)) (.n (some (.str n0 n0)) (.n (some (.int .i64 n0)) .e .e) .e) (.n (some (.int .i64 n0)) .e .e)) n4 130 h2 fun x3 h4 =>
 cl n167 [] h4 (fun x5 h6 =>
 LP fu (fun _ _ => Ans.no) (fun j11 x9 h10 =>
 LENS x5 fun x12 =>
 LSS Pr 3 false x9 x12 fun x13 =>
 IFB x13 (B110x73 x5 x9 h10 x1 x3 kr j11 x0)
 (OV (buildA Pr 130 []) fun x74 =>
 ST n4 x3 x74 h10 fun h75 =>
 LDN n4 x3 h75 fun x76 =>
 kr (.tuple [x76, (.int .i64 (nat_lit 18446744073709551615))]) h75)) (.int .i64 n0) h6) kp

theorem eqF110 : F110 = fun fu oR => compF Pr fu oR 110 2 := by kernel_rfl

def B111x24 (x5 : AV) (kr : KR) (x0 : AV) (x10 : AV) (h11 : Heap) : Ans := JO (fun x12 h13 =>
 SEL x5 (.bool true) x12 fun x14 =>
 IFB x14 (kr (.bool false) h13)
 (NC x0 fun x15 =>
 FA n1 x15 fun x16 =>
 LD x16 h13 fun x17 =>
 ADD Pr 3 true x17 (.int .i64 n1) fun x18 =>
 NC x0 fun x19 =>
 FA n1 x19 fun x20 =>
 ST n1 x20 x18 h13 fun h21 =>
 kr (.bool true) h21)) fun j22 =>
 GW false x5 (OV (unOpA .not x10) fun x23 =>
 j22 x23 h11)
 (j22 undefA h11)
def F111 (fu : Nat) (oR : Orc) (cl : CL) (args : List AV) (h2 : Heap) (kr : KR) (kp : KP) : Ans := AR2 args fun x0 x1 =>
 NC x0 fun x3 =>
 FA n5 x3 fun x4 =>
 LD x4 h2 fun x5 =>
 JO (fun x6 h7 =>
 JO (fun x8 h9 =>
 JO (fun x10 h11 =>
 B111x24 x5 kr x0 x10 h11) fun j25 =>
 GW false x5 (cl n113 [x6, x8] h9 (fun x26 h27 =>
 j25 x26 h27) kp)
 (j25 undefA h9)) fun j30 =>
 GW false x5 (j30 x1 h7)
 (j30 undefA h7)) fun j31 =>
 GW false x5 (j31 x0 h2)
 (j31 undefA h2)

theorem eqF111 : F111 = fun fu oR => compF Pr fu oR 111 2 := by kernel_rfl

def B112x92 (x5 : AV) (h73 : Heap) (cl : CL) (x0 : AV) (j71 : Heap → Ans) (kp : KP) : Ans := FA n2 x5 fun x76 =>
 LD x76 h73 fun x77 =>
 cl n170 [x0] h73 (fun x78 h79 =>
 LD x76 h79 fun x82 =>
 EQV x77 x82 <|
 BSL n9 n1 [(.str n0 n0)] n1 [(n0, x78)] h79 fun x83 h84 =>
 LD x76 h84 fun x85 =>
 EQV x77 x85 <|
 GEN (builtinF .append Pr [48, 48] [x77, x83] h84) cl (fun x86 h87 =>
 FA n2 x5 fun x90 =>
 ST n1 x90 x86 h87 fun h91 =>
 j71  h91) kp) kp
def B112x97 (cl : CL) (x0 : AV) (h58 : Heap) (x5 : AV) (fu : Nat) (kp : KP) (j56 : Heap → Ans) : Ans := cl n170 [x0] h58 (fun x62 h63 =>
 BSL n9 n1 [(.str n0 n0)] n1 [(n0, x62)] h63 fun x66 h67 =>
 FA n2 x5 fun x68 =>
 ST n1 x68 x66 h67 fun h69 =>
 LP fu (fun _ => Ans.no) (fun j71 h70 =>
 cl n111 [x0, (.str n1 n44)] h70 (fun x72 h73 =>
 IFB x72 (B112x92 x5 h73 cl x0 j71 kp)
 (cl n169 [x0, (.str n1 n41)] h73 (fun x93 h94 =>
 j56  h94) kp)) kp)  h69) kp
def B112x98 (x0 : AV) (h23 : Heap) (x12 : AV) (x5 : AV) (cl : CL) (x2 : AV) (kr : KR) (kp : KP) (fu : Nat) : Ans := NC x0 fun x31 =>
 FA n1 x31 fun x32 =>
 LD x32 h23 fun x33 =>
 ADD Pr 3 true x33 (.int .i64 n1) fun x34 =>
 NC x0 fun x35 =>
 FA n1 x35 fun x36 =>
 ST n1 x36 x34 h23 fun h37 =>
 FA n1 x12 fun x38 =>
 LD x38 h37 fun x39 =>
 FA n1 x5 fun x40 =>
 ST n1 x40 x39 h37 fun h41 =>
 cl n169 [x0, (.str n1 n40)] h41 (fun x42 h43 =>
 JO (fun h46 =>
 cl n115 [x0] h46 (fun x47 h48 =>
 FA n4 x5 fun x51 =>
 ST n1 x51 x47 h48 fun h52 =>
 LDN n5 x5 h52 fun x53 =>
 ST n5 x2 x53 h52 fun h54 =>
 LDN n5 x2 h54 fun x55 =>
 kr x55 h54) kp) fun j56 =>
 cl n111 [x0, (.str n1 n41)] h43 (fun x57 h58 =>
 OV (unOpA .not x57) fun x61 =>
 IFB x61 (B112x97 cl x0 h58 x5 fu kp j56)
 (j56  h58)) kp) kp
def B112x101 (x17 : AV) (x0 : AV) (x5 : AV) (x2 : AV) (kr : KR) (x12 : AV) (cl : CL) (kp : KP) (fu : Nat) (x20 : AV) (h21 : Heap) : Ans := JO (fun x22 h23 =>
 SEL x17 x22 (.bool false) fun x24 =>
 IFB x24 (NC x0 fun x25 =>
 FA n5 x25 fun x26 =>
 ST n1 x26 (.bool true) h23 fun h27 =>
 LDN n5 x5 h27 fun x28 =>
 ST n5 x2 x28 h27 fun h29 =>
 LDN n5 x2 h29 fun x30 =>
 kr x30 h29)
 (B112x98 x0 h23 x12 x5 cl x2 kr kp fu)) fun j99 =>
 GW true x17 (NEQ Pr 3 true x20 (.int .i64 n5) fun x100 =>
 j99 x100 h21)
 (j99 undefA h21)
def F112 (fu : Nat) (oR : Orc) (cl : CL) (args : List AV) (h1 : Heap) (kr : KR) (kp : KP) : Ans := AR1 args fun x0 =>
 NEWC (.n (some (.int .i64 n0)) (.n (some (.str n0 n0)) (.n (some (.int .i64 n0)) .e .e) .e) (.n (some (.nilslice)) (.n (some (.int .i64 n0)) .e .e) .e)) n5 61 h1 fun x2 h3 =>
 OV (buildA Pr 61 [(n0, (.int .i64 n4)), (n3, (.int .i64 (nat_lit 18446744073709551615)))]) fun x4 =>
 NEWC (.n (some (.int .i64 n0)) (.n (some (.str n0 n0)) (.n (some (.int .i64 n0)) .e .e) .e) (.n (some (.nilslice)) (.n (some (.int .i64 n0)) .e .e) .e)) n5 61 h3 fun x5 h6 =>
 ST n5 x5 x4 h6 fun h7 =>
 cl n168 [x0] h7 (fun x8 h9 =>
 NEWC (.n (some (.int .i64 n0)) (.n (some (.str n0 n0)) (.n (some (.int .i64 n0)) .e .e) .e) (.n (some (.int .i64 n0)) .e .e)) n4 130 h9 fun x12 h13 =>
 ST n4 x12 x8 h13 fun h14 =>
 FA n0 x12 fun x15 =>
 LD x15 h14 fun x16 =>
 NEQ Pr 3 true x16 (.int .i64 n4) fun x17 =>
 JO (fun x18 h19 =>
 JO (fun x20 h21 =>
 B112x101 x17 x0 x5 x2 kr x12 cl kp fu x20 h21) fun j102 =>
 GW true x17 (LD x18 h19 fun x103 =>
 j102 x103 h19)
 (j102 undefA h19)) fun j104 =>
 GW true x17 (FA n0 x12 fun x105 =>
 j104 x105 h14)
 (j104 undefA h14)) kp

theorem eqF112 : F112 = fun fu oR => compF Pr fu oR 112 1 := by kernel_rfl

def B113x34 (x19 : AV) (kr : KR) (x1 : AV) (x20 : AV) (h21 : Heap) : Ans := JO (fun x22 h23 =>
 JO (fun x24 h25 =>
 JO (fun x26 h27 =>
 SEL x19 x26 (.bool false) fun x28 =>
 kr x28 h27) fun j29 =>
 GW true x19 (EQL Pr 9 false x22 x24 fun x30 =>
 j29 x30 h25)
 (j29 undefA h25)) fun j31 =>
 GW true x19 (j31 x1 h23)
 (j31 undefA h23)) fun j32 =>
 GW true x19 (LD x20 h21 fun x33 =>
 j32 x33 h21)
 (j32 undefA h21)
def B113x41 (x12 : AV) (kr : KR) (x1 : AV) (x7 : AV) (x13 : AV) (h14 : Heap) : Ans := JO (fun x15 h16 =>
 JO (fun x17 h18 =>
 SEL x12 (.bool true) x17 fun x19 =>
 JO (fun x20 h21 =>
 B113x34 x19 kr x1 x20 h21) fun j35 =>
 GW true x19 (FA n1 x7 fun x36 =>
 j35 x36 h18)
 (j35 undefA h18)) fun j37 =>
 GW false x12 (EQL Pr 3 true x15 (.int .i64 n6) fun x38 =>
 j37 x38 h16)
 (j37 undefA h16)) fun j39 =>
 GW false x12 (LD x13 h14 fun x40 =>
 j39 x40 h14)
 (j39 undefA h14)
def F113 (fu : Nat) (oR : Orc) (cl : CL) (args : List AV) (h2 : Heap) (kr : KR) (kp : KP) : Ans := AR2 args fun x0 x1 =>
 cl n168 [x0] h2 (fun x3 h4 =>
 NEWC (.n (some (.int .i64 n0)) (.n (some (.str n0 n0)) (.n (some (.int .i64 n0)) .e .e) .e) (.n (some (.int .i64 n0)) .e .e)) n4 130 h4 fun x7 h8 =>
 ST n4 x7 x3 h8 fun h9 =>
 FA n0 x7 fun x10 =>
 LD x10 h9 fun x11 =>
 EQL Pr 3 true x11 (.int .i64 n7) fun x12 =>
 JO (fun x13 h14 =>
 B113x41 x12 kr x1 x7 x13 h14) fun j42 =>
 GW false x12 (FA n0 x7 fun x43 =>
 j42 x43 h9)
 (j42 undefA h9)) kp

theorem eqF113 : F113 = fun fu oR => compF Pr fu oR 113 2 := by kernel_rfl

def B114x58 (cl : CL) (x0 : AV) (h44 : Heap) (x7 : AV) (j20 : AV → Heap → Ans) (kp : KP) : Ans := cl n114 [x0] h44 (fun x47 h48 =>
 BSL n3 n1 [(.int .i64 n0), (.int .i64 n0)] n2 [(n0, x7), (n1, x47)] h48 fun x51 h52 =>
 OV (buildA Pr 108 [(n0, (.int .i64 n7)), (n4, x51)]) fun x53 =>
 cl n173 [x0, x53] h52 (fun x54 h55 =>
 j20 x54 h55) kp) kp
def B114x74 (cl : CL) (x0 : AV) (h60 : Heap) (x7 : AV) (j20 : AV → Heap → Ans) (kp : KP) : Ans := cl n114 [x0] h60 (fun x63 h64 =>
 BSL n3 n1 [(.int .i64 n0), (.int .i64 n0)] n2 [(n0, x7), (n1, x63)] h64 fun x67 h68 =>
 OV (buildA Pr 108 [(n0, (.int .i64 n8)), (n4, x67)]) fun x69 =>
 cl n173 [x0, x69] h68 (fun x70 h71 =>
 j20 x70 h71) kp) kp
def B114x75 (x37 : AV) (x40 : AV) (cl : CL) (x0 : AV) (h41 : Heap) (x7 : AV) (j20 : AV → Heap → Ans) (kp : KP) : Ans := SEL x37 (.bool true) x40 fun x42 =>
 IFB x42 (cl n111 [x0, (.str n1 n61)] h41 (fun x43 h44 =>
 IFB x43 (B114x58 cl x0 h44 x7 j20 kp)
 (cl n111 [x0, (.str n2 (nat_lit 15659))] h44 (fun x59 h60 =>
 IFB x59 (B114x74 cl x0 h60 x7 j20 kp)
 (j20 x7 h60)) kp)) kp)
 (j20 x7 h41)
def B114x81 (x32 : AV) (cl : CL) (x0 : AV) (x7 : AV) (j20 : AV → Heap → Ans) (kp : KP) (x31 : AV) (x33 : AV) (h34 : Heap) : Ans := JO (fun x35 h36 =>
 SEL x32 (.bool true) x35 fun x37 =>
 JO (fun x38 h39 =>
 JO (fun x40 h41 =>
 B114x75 x37 x40 cl x0 h41 x7 j20 kp) fun j76 =>
 GW false x37 (EQL Pr 3 true x38 (.int .i64 n5) fun x77 =>
 j76 x77 h39)
 (j76 undefA h39)) fun j78 =>
 GW false x37 (j78 x31 h36)
 (j78 undefA h36)) fun j79 =>
 GW false x32 (EQL Pr 3 true x33 (.int .i64 n4) fun x80 =>
 j79 x80 h34)
 (j79 undefA h34)
def B114x83 (x0 : AV) (h8 : Heap) (x7 : AV) (cl : CL) (j20 : AV → Heap → Ans) (kp : KP) : Ans := NC x0 fun x25 =>
 FA n3 x25 fun x26 =>
 FA n0 x26 fun x27 =>
 LD x27 h8 fun x28 =>
 SA n5 x28 x7 fun x29 =>
 FA n0 x29 fun x30 =>
 LD x30 h8 fun x31 =>
 EQL Pr 3 true x31 (.int .i64 n3) fun x32 =>
 JO (fun x33 h34 =>
 B114x81 x32 cl x0 x7 j20 kp x31 x33 h34) fun j82 =>
 GW false x32 (j82 x31 h8)
 (j82 undefA h8)
def B114x84 (cl : CL) (x0 : AV) (h3 : Heap) (kr : KR) (kp : KP) : Ans := cl n172 [x0] h3 (fun x7 h8 =>
 JO (fun x11 h12 =>
 NC x0 fun x13 =>
 FA n2 x13 fun x14 =>
 LD x14 h12 fun x15 =>
 SUB Pr 3 true x15 (.int .i64 n1) fun x16 =>
 NC x0 fun x17 =>
 FA n2 x17 fun x18 =>
 ST n1 x18 x16 h12 fun h19 =>
 kr x11 h19) fun j20 =>
 NC x0 fun x21 =>
 FA n5 x21 fun x22 =>
 LD x22 h8 fun x23 =>
 OV (unOpA .not x23) fun x24 =>
 IFB x24 (B114x83 x0 h8 x7 cl j20 kp)
 (j20 x7 h8)) kp
def F114 (fu : Nat) (oR : Orc) (cl : CL) (args : List AV) (h1 : Heap) (kr : KR) (kp : KP) : Ans := AR1 args fun x0 =>
 cl n171 [x0] h1 (fun x2 h3 =>
 OV (unOpA .not x2) fun x6 =>
 IFB x6 (kr (.int .i64 n0) h3)
 (B114x84 cl x0 h3 kr kp)) kp

theorem eqF114 : F114 = fun fu oR => compF Pr fu oR 114 1 := by kernel_rfl

def B115x39 (x12 : AV) (x17 : AV) (cl : CL) (x0 : AV) (h18 : Heap) (x6 : AV) (j8 : AV → Heap → Ans) (kp : KP) (kr : KR) : Ans := SEL x12 x17 (.bool false) fun x19 =>
 IFB x19 (cl n174 [x0] h18 (fun x20 h21 =>
 BSL n3 n1 [(.int .i64 n0)] n1 [(n0, x20)] h21 fun x24 h25 =>
 GEN (builtinF .append Pr [106, 106] [x6, x24] h25) cl (fun x26 h27 =>
 j8 x26 h27) kp) kp)
 (cl n169 [x0, (.str n1 n125)] h18 (fun x30 h31 =>
 OV (buildA Pr 108 [(n0, (.int .i64 n53)), (n4, x6)]) fun x34 =>
 cl n173 [x0, x34] h31 (fun x35 h36 =>
 kr x35 h36) kp) kp)
def B115x48 (x0 : AV) (h7 : Heap) (cl : CL) (x6 : AV) (j8 : AV → Heap → Ans) (kp : KP) (kr : KR) : Ans := NC x0 fun x9 =>
 FA n5 x9 fun x10 =>
 LD x10 h7 fun x11 =>
 OV (unOpA .not x11) fun x12 =>
 JO (fun x13 h14 =>
 JO (fun x15 h16 =>
 JO (fun x17 h18 =>
 B115x39 x12 x17 cl x0 h18 x6 j8 kp kr) fun j40 =>
 GW true x12 (OV (unOpA .not x15) fun x41 =>
 j40 x41 h16)
 (j40 undefA h16)) fun j42 =>
 GW true x12 (cl n113 [x13, (.str n1 n125)] h14 (fun x43 h44 =>
 j42 x43 h44) kp)
 (j42 undefA h14)) fun j47 =>
 GW true x12 (j47 x0 h7)
 (j47 undefA h7)
def F115 (fu : Nat) (oR : Orc) (cl : CL) (args : List AV) (h1 : Heap) (kr : KR) (kp : KP) : Ans := AR1 args fun x0 =>
 cl n169 [x0, (.str n1 n123)] h1 (fun x2 h3 =>
 LP fu (fun _ _ => Ans.no) (fun j8 x6 h7 =>
 B115x48 x0 h7 cl x6 j8 kp kr) (.nilslice) h3) kp

theorem eqF115 : F115 = fun fu oR => compF Pr fu oR 115 1 := by kernel_rfl

def B116x48 (x3 : AV) (h11 : Heap) (x9 : AV) (cl : CL) (kr : KR) (kp : KP) : Ans := LDN n2 x3 h11 fun x37 =>
 FA n4 x9 fun x38 =>
 LD x38 h11 fun x39 =>
 SA n1 x39 (.int .i64 n0) fun x40 =>
 LD x40 h11 fun x41 =>
 cl n116 [x37, x41] h11 (fun x42 h43 =>
 ADD Pr 9 true (.str n2 (nat_lit 10276)) x42 fun x46 =>
 ADD Pr 9 true x46 (.str n1 n41) fun x47 =>
 kr x47 h43) kp
def B116x65 (x9 : AV) (h11 : Heap) (x3 : AV) (cl : CL) (kr : KR) (kp : KP) : Ans := FA n1 x9 fun x50 =>
 LD x50 h11 fun x51 =>
 ADD Pr 9 true x51 (.str n1 n91) fun x52 =>
 LDN n2 x3 h11 fun x53 =>
 FA n4 x9 fun x54 =>
 LD x54 h11 fun x55 =>
 SA n1 x55 (.int .i64 n0) fun x56 =>
 LD x56 h11 fun x57 =>
 cl n116 [x53, x57] h11 (fun x58 h59 =>
 LD x50 h59 fun x62 =>
 EQV x51 x62 <|
 ADD Pr 9 false x52 x58 fun x63 =>
 ADD Pr 9 true x63 (.str n1 n93) fun x64 =>
 kr x64 h59) kp
def B116x83 (x3 : AV) (h11 : Heap) (x9 : AV) (cl : CL) (kr : KR) (kp : KP) : Ans := LDN n2 x3 h11 fun x67 =>
 FA n4 x9 fun x68 =>
 LD x68 h11 fun x69 =>
 SA n1 x69 (.int .i64 n0) fun x70 =>
 LD x70 h11 fun x71 =>
 FA n1 x9 fun x72 =>
 LD x72 h11 fun x73 =>
 cl n116 [x67, x71] h11 (fun x74 h75 =>
 LD x72 h75 fun x78 =>
 EQV x73 x78 <|
 ADD Pr 9 true (.str n1 n40) x74 fun x79 =>
 ADD Pr 9 true x79 (.str n4 (nat_lit 544106784)) fun x80 =>
 ADD Pr 9 false x80 x73 fun x81 =>
 ADD Pr 9 true x81 (.str n1 n41) fun x82 =>
 kr x82 h75) kp
def B116x127 (x3 : AV) (h11 : Heap) (x9 : AV) (cl : CL) (kr : KR) (kp : KP) : Ans := LDN n2 x3 h11 fun x85 =>
 FA n4 x9 fun x86 =>
 LD x86 h11 fun x87 =>
 SA n1 x87 (.int .i64 n0) fun x88 =>
 LD x88 h11 fun x89 =>
 LDN n2 x3 h11 fun x90 =>
 FA n4 x9 fun x91 =>
 LD x91 h11 fun x92 =>
 SA n1 x92 (.int .i64 n1) fun x93 =>
 LD x93 h11 fun x94 =>
 LDN n2 x3 h11 fun x95 =>
 FA n4 x9 fun x96 =>
 LD x96 h11 fun x97 =>
 SA n1 x97 (.int .i64 n2) fun x98 =>
 LD x98 h11 fun x99 =>
 cl n116 [x85, x89] h11 (fun x100 h101 =>
 LD x98 h101 fun x104 =>
 EQV x99 x104 <|
 LD x96 h101 fun x105 =>
 EQV x97 x105 <|
 LDN n2 x3 h101 fun x106 =>
 EQV x95 x106 <|
 LD x93 h101 fun x107 =>
 EQV x94 x107 <|
 LD x91 h101 fun x108 =>
 EQV x92 x108 <|
 LDN n2 x3 h101 fun x109 =>
 EQV x90 x109 <|
 ADD Pr 9 true (.str n1 n40) x100 fun x110 =>
 ADD Pr 9 true x110 (.str n3 (nat_lit 2113312)) fun x111 =>
 cl n116 [x90, x94] h101 (fun x112 h113 =>
 LD x98 h113 fun x116 =>
 EQV x99 x116 <|
 LD x96 h113 fun x117 =>
 EQV x97 x117 <|
 LDN n2 x3 h113 fun x118 =>
 EQV x95 x118 <|
 ADD Pr 9 false x111 x112 fun x119 =>
 ADD Pr 9 true x119 (.str n3 (nat_lit 2112032)) fun x120 =>
 cl n116 [x95, x99] h113 (fun x121 h122 =>
 ADD Pr 9 false x120 x121 fun x125 =>
 ADD Pr 9 true x125 (.str n1 n41) fun x126 =>
 kr x126 h122) kp) kp) kp
def B116x140 (x3 : AV) (h11 : Heap) (x9 : AV) (cl : CL) (kr : KR) (kp : KP) : Ans := LDN n2 x3 h11 fun x129 =>
 FA n4 x9 fun x130 =>
 LD x130 h11 fun x131 =>
 SA n1 x131 (.int .i64 n0) fun x132 =>
 LD x132 h11 fun x133 =>
 cl n116 [x129, x133] h11 (fun x134 h135 =>
 ADD Pr 9 true (.str n2 n8488) x134 fun x138 =>
 ADD Pr 9 true x138 (.str n1 n41) fun x139 =>
 kr x139 h135) kp
def B116x153 (x3 : AV) (h11 : Heap) (x9 : AV) (cl : CL) (kr : KR) (kp : KP) : Ans := LDN n2 x3 h11 fun x142 =>
 FA n4 x9 fun x143 =>
 LD x143 h11 fun x144 =>
 SA n1 x144 (.int .i64 n0) fun x145 =>
 LD x145 h11 fun x146 =>
 cl n116 [x142, x146] h11 (fun x147 h148 =>
 ADD Pr 9 true (.str n2 (nat_lit 11560)) x147 fun x151 =>
 ADD Pr 9 true x151 (.str n1 n41) fun x152 =>
 kr x152 h148) kp
def B116x180 (x3 : AV) (h11 : Heap) (x9 : AV) (cl : CL) (kr : KR) (kp : KP) : Ans := LDN n2 x3 h11 fun x155 =>
 FA n4 x9 fun x156 =>
 LD x156 h11 fun x157 =>
 SA n1 x157 (.int .i64 n0) fun x158 =>
 LD x158 h11 fun x159 =>
 LDN n2 x3 h11 fun x160 =>
 FA n4 x9 fun x161 =>
 LD x161 h11 fun x162 =>
 SA n1 x162 (.int .i64 n1) fun x163 =>
 LD x163 h11 fun x164 =>
 cl n116 [x155, x159] h11 (fun x165 h166 =>
 LD x163 h166 fun x169 =>
 EQV x164 x169 <|
 LD x161 h166 fun x170 =>
 EQV x162 x170 <|
 LDN n2 x3 h166 fun x171 =>
 EQV x160 x171 <|
 ADD Pr 9 true (.str n1 n40) x165 fun x172 =>
 ADD Pr 9 true x172 (.str n1 n32) fun x173 =>
 cl n116 [x160, x164] h166 (fun x174 h175 =>
 ADD Pr 9 false x173 x174 fun x178 =>
 ADD Pr 9 true x178 (.str n1 n41) fun x179 =>
 kr x179 h175) kp) kp
def B116x195 (x9 : AV) (h11 : Heap) (x3 : AV) (cl : CL) (kr : KR) (kp : KP) : Ans := FA n1 x9 fun x182 =>
 LD x182 h11 fun x183 =>
 ADD Pr 9 true x183 (.str n1 n40) fun x184 =>
 LDN n2 x3 h11 fun x185 =>
 FA n4 x9 fun x186 =>
 LD x186 h11 fun x187 =>
 cl n176 [x185, x187] h11 (fun x188 h189 =>
 LD x182 h189 fun x192 =>
 EQV x183 x192 <|
 ADD Pr 9 false x184 x188 fun x193 =>
 ADD Pr 9 true x193 (.str n1 n41) fun x194 =>
 kr x194 h189) kp
def B116x231 (x211 : AV) (x3 : AV) (h205 : Heap) (x9 : AV) (cl : CL) (j215 : AV → Heap → Ans) (kp : KP) : Ans := ADD Pr 9 true x211 (.str n2 n8236) fun x220 =>
 LDN n2 x3 h205 fun x221 =>
 FA n4 x9 fun x222 =>
 LD x222 h205 fun x223 =>
 SA n1 x223 (.int .i64 n1) fun x224 =>
 LD x224 h205 fun x225 =>
 cl n116 [x221, x225] h205 (fun x226 h227 =>
 ADD Pr 9 false x220 x226 fun x230 =>
 j215 x230 h227) kp
def B116x232 (x3 : AV) (h11 : Heap) (x9 : AV) (cl : CL) (kr : KR) (kp : KP) : Ans := LDN n2 x3 h11 fun x197 =>
 FA n4 x9 fun x198 =>
 LD x198 h11 fun x199 =>
 SA n1 x199 (.int .i64 n0) fun x200 =>
 LD x200 h11 fun x201 =>
 FA n2 x9 fun x202 =>
 LD x202 h11 fun x203 =>
 cl n116 [x197, x201] h11 (fun x204 h205 =>
 LD x202 h205 fun x208 =>
 EQV x203 x208 <|
 ADD Pr 9 true (.str n6 (nat_lit 44480450031731)) x204 fun x209 =>
 ADD Pr 9 true x209 (.str n2 n8236) fun x210 =>
 ADD Pr 9 false x210 x203 fun x211 =>
 JO (fun x212 h213 =>
 ADD Pr 9 true x212 (.str n1 n41) fun x214 =>
 kr x214 h213) fun j215 =>
 FA n4 x9 fun x216 =>
 LD x216 h205 fun x217 =>
 LENS x217 fun x218 =>
 EQL Pr 3 true x218 (.int .i64 n2) fun x219 =>
 IFB x219 (B116x231 x211 x3 h205 x9 cl j215 kp)
 (j215 x211 h205)) kp
def B116x253 (x9 : AV) (h234 : Heap) (x3 : AV) (cl : CL) (kr : KR) (kp : KP) : Ans := FA n0 x9 fun x235 =>
 LD x235 h234 fun x236 =>
 LDN n2 x3 h234 fun x237 =>
 FA n4 x9 fun x238 =>
 LD x238 h234 fun x239 =>
 cl n177 [x236] h234 (fun x240 h241 =>
 LD x238 h241 fun x244 =>
 EQV x239 x244 <|
 LDN n2 x3 h241 fun x245 =>
 EQV x237 x245 <|
 ADD Pr 9 true x240 (.str n1 n40) fun x246 =>
 cl n176 [x237, x239] h241 (fun x247 h248 =>
 ADD Pr 9 false x246 x247 fun x251 =>
 ADD Pr 9 true x251 (.str n1 n41) fun x252 =>
 kr x252 h248) kp) kp
def B116x291 (x3 : AV) (h234 : Heap) (x9 : AV) (cl : CL) (kr : KR) (kp : KP) : Ans := LDN n2 x3 h234 fun x254 =>
 FA n4 x9 fun x255 =>
 LD x255 h234 fun x256 =>
 SA n1 x256 (.int .i64 n0) fun x257 =>
 LD x257 h234 fun x258 =>
 FA n0 x9 fun x259 =>
 LD x259 h234 fun x260 =>
 LDN n2 x3 h234 fun x261 =>
 FA n4 x9 fun x262 =>
 LD x262 h234 fun x263 =>
 SA n1 x263 (.int .i64 n1) fun x264 =>
 LD x264 h234 fun x265 =>
 cl n116 [x254, x258] h234 (fun x266 h267 =>
 LD x264 h267 fun x270 =>
 EQV x265 x270 <|
 LD x262 h267 fun x271 =>
 EQV x263 x271 <|
 LDN n2 x3 h267 fun x272 =>
 EQV x261 x272 <|
 LD x259 h267 fun x273 =>
 EQV x260 x273 <|
 ADD Pr 9 true (.str n1 n40) x266 fun x274 =>
 ADD Pr 9 true x274 (.str n1 n32) fun x275 =>
 cl n178 [x260] h267 (fun x276 h277 =>
 LD x264 h277 fun x280 =>
 EQV x265 x280 <|
 LD x262 h277 fun x281 =>
 EQV x263 x281 <|
 LDN n2 x3 h277 fun x282 =>
 EQV x261 x282 <|
 ADD Pr 9 false x275 x276 fun x283 =>
 ADD Pr 9 true x283 (.str n1 n32) fun x284 =>
 cl n116 [x261, x265] h277 (fun x285 h286 =>
 ADD Pr 9 false x284 x285 fun x289 =>
 ADD Pr 9 true x289 (.str n1 n41) fun x290 =>
 kr x290 h286) kp) kp) kp
def B116x298 (x13 : AV) (j292 : AV → Heap → Ans) (h11 : Heap) : Ans := EQL Pr 3 true x13 (.int .i64 n28) fun x294 =>
 IFB x294 (j292 x294 h11)
 (EQL Pr 3 true x13 (.int .i64 n29) fun x295 =>
 IFB x295 (j292 x295 h11)
 (EQL Pr 3 true x13 (.int .i64 n31) fun x296 =>
 IFB x296 (j292 x296 h11)
 (EQL Pr 3 true x13 (.int .i64 n32) fun x297 =>
 j292 x297 h11)))
def B116x299 (x13 : AV) (x3 : AV) (h11 : Heap) (x9 : AV) (cl : CL) (kr : KR) (kp : KP) : Ans := EQL Pr 3 true x13 (.int .i64 n30) fun x196 =>
 IFB x196 (B116x232 x3 h11 x9 cl kr kp)
 (JO (fun x233 h234 =>
 IFB x233 (B116x253 x9 h234 x3 cl kr kp)
 (B116x291 x3 h234 x9 cl kr kp)) fun j292 =>
 EQL Pr 3 true x13 (.int .i64 n27) fun x293 =>
 IFB x293 (j292 x293 h11)
 (B116x298 x13 j292 h11))
def B116x300 (x13 : AV) (x3 : AV) (h11 : Heap) (x9 : AV) (cl : CL) (kr : KR) (kp : KP) : Ans := EQL Pr 3 true x13 (.int .i64 n25) fun x141 =>
 IFB x141 (B116x153 x3 h11 x9 cl kr kp)
 (EQL Pr 3 true x13 (.int .i64 n19) fun x154 =>
 IFB x154 (B116x180 x3 h11 x9 cl kr kp)
 (EQL Pr 3 true x13 (.int .i64 n26) fun x181 =>
 IFB x181 (B116x195 x9 h11 x3 cl kr kp)
 (B116x299 x13 x3 h11 x9 cl kr kp)))
def B116x301 (x13 : AV) (x3 : AV) (h11 : Heap) (x9 : AV) (cl : CL) (kr : KR) (kp : KP) : Ans := EQL Pr 3 true x13 (.int .i64 n6) fun x66 =>
 IFB x66 (B116x83 x3 h11 x9 cl kr kp)
 (EQL Pr 3 true x13 (.int .i64 n9) fun x84 =>
 IFB x84 (B116x127 x3 h11 x9 cl kr kp)
 (EQL Pr 3 true x13 (.int .i64 n12) fun x128 =>
 IFB x128 (B116x140 x3 h11 x9 cl kr kp)
 (B116x300 x13 x3 h11 x9 cl kr kp)))
def B116x302 (x13 : AV) (x9 : AV) (h11 : Heap) (kr : KR) (x3 : AV) (cl : CL) (kp : KP) : Ans := EQL Pr 3 true x13 (.int .i64 n3) fun x33 =>
 IFB x33 (FA n1 x9 fun x34 =>
 LD x34 h11 fun x35 =>
 kr x35 h11)
 (EQL Pr 3 true x13 (.int .i64 n4) fun x36 =>
 IFB x36 (B116x48 x3 h11 x9 cl kr kp)
 (EQL Pr 3 true x13 (.int .i64 n5) fun x49 =>
 IFB x49 (B116x65 x9 h11 x3 cl kr kp)
 (B116x301 x13 x3 h11 x9 cl kr kp)))
def B116x303 (x13 : AV) (x9 : AV) (h11 : Heap) (cl : CL) (kr : KR) (kp : KP) (x3 : AV) : Ans := EQL Pr 3 true x13 (.int .i64 n1) fun x21 =>
 IFB x21 (FA n1 x9 fun x22 =>
 LD x22 h11 fun x23 =>
 cl n175 [x23] h11 (fun x24 h25 =>
 kr x24 h25) kp)
 (EQL Pr 3 true x13 (.int .i64 n2) fun x28 =>
 IFB x28 (FA n1 x9 fun x29 =>
 LD x29 h11 fun x30 =>
 ADD Pr 9 true (.str n2 (nat_lit 12072)) x30 fun x31 =>
 ADD Pr 9 true x31 (.str n2 (nat_lit 10543)) fun x32 =>
 kr x32 h11)
 (B116x302 x13 x9 h11 kr x3 cl kp))
def F116 (fu : Nat) (oR : Orc) (cl : CL) (args : List AV) (h2 : Heap) (kr : KR) (kp : KP) : Ans := AR2 args fun x0 x1 =>
 BOX 33 x0 h2 fun x3 h4 =>
 FA n0 x3 fun x5 =>
 LD x5 h4 fun x6 =>
 SA n5 x6 x1 fun x7 =>
 LDN n5 x7 h4 fun x8 =>
 NEWC (.n (some (.int .i64 n0)) (.n (some (.str n0 n0)) (.n (some (.int .i64 n0)) .e .e) .e) (.n (some (.str n0 n0)) (.n (some (.nilslice)) .e .e) .e)) n5 108 h4 fun x9 h10 =>
 ST n5 x9 x8 h10 fun h11 =>
 FA n0 x9 fun x12 =>
 LD x12 h11 fun x13 =>
 EQL Pr 3 true x13 (.int .i64 n0) fun x14 =>
 IFB x14 (FA n3 x9 fun x15 =>
 LD x15 h11 fun x16 =>
 cl n6 [x16] h11 (fun x17 h18 =>
 kr x17 h18) kp)
 (B116x303 x13 x9 h11 cl kr kp x3)

theorem eqF116 : F116 = fun fu oR => compF Pr fu oR 116 2 := by kernel_rfl

def B117x84 (x65 : AV) (x3 : AV) (h62 : Heap) (x9 : AV) (cl : CL) (j68 : AV → Heap → Ans) (kp : KP) : Ans := ADD Pr 9 true x65 (.str n6 (nat_lit 35620100269344)) fun x73 =>
 LDN n2 x3 h62 fun x74 =>
 FA n4 x9 fun x75 =>
 LD x75 h62 fun x76 =>
 SA n1 x76 (.int .i64 n2) fun x77 =>
 LD x77 h62 fun x78 =>
 cl n117 [x74, x78] h62 (fun x79 h80 =>
 ADD Pr 9 false x73 x79 fun x83 =>
 j68 x83 h80) kp
def B117x85 (x3 : AV) (h11 : Heap) (x9 : AV) (cl : CL) (kr : KR) (kp : KP) : Ans := LDN n2 x3 h11 fun x42 =>
 FA n4 x9 fun x43 =>
 LD x43 h11 fun x44 =>
 SA n1 x44 (.int .i64 n0) fun x45 =>
 LD x45 h11 fun x46 =>
 LDN n2 x3 h11 fun x47 =>
 FA n4 x9 fun x48 =>
 LD x48 h11 fun x49 =>
 SA n1 x49 (.int .i64 n1) fun x50 =>
 LD x50 h11 fun x51 =>
 cl n116 [x42, x46] h11 (fun x52 h53 =>
 LD x50 h53 fun x56 =>
 EQV x51 x56 <|
 LD x48 h53 fun x57 =>
 EQV x49 x57 <|
 LDN n2 x3 h53 fun x58 =>
 EQV x47 x58 <|
 ADD Pr 9 true (.str n4 (nat_lit 673212009)) x52 fun x59 =>
 ADD Pr 9 true x59 (.str n2 n8233) fun x60 =>
 cl n117 [x47, x51] h53 (fun x61 h62 =>
 ADD Pr 9 false x60 x61 fun x65 =>
 JO (fun x66 h67 =>
 kr x66 h67) fun j68 =>
 FA n4 x9 fun x69 =>
 LD x69 h62 fun x70 =>
 LENS x70 fun x71 =>
 EQL Pr 3 true x71 (.int .i64 n3) fun x72 =>
 IFB x72 (B117x84 x65 x3 h62 x9 cl j68 kp)
 (j68 x65 h62)) kp) kp
def B117x111 (x3 : AV) (h11 : Heap) (x9 : AV) (cl : CL) (kr : KR) (kp : KP) : Ans := LDN n2 x3 h11 fun x87 =>
 FA n4 x9 fun x88 =>
 LD x88 h11 fun x89 =>
 SA n1 x89 (.int .i64 n0) fun x90 =>
 LD x90 h11 fun x91 =>
 LDN n2 x3 h11 fun x92 =>
 FA n4 x9 fun x93 =>
 LD x93 h11 fun x94 =>
 SA n1 x94 (.int .i64 n1) fun x95 =>
 LD x95 h11 fun x96 =>
 cl n116 [x87, x91] h11 (fun x97 h98 =>
 LD x95 h98 fun x101 =>
 EQV x96 x101 <|
 LD x93 h98 fun x102 =>
 EQV x94 x102 <|
 LDN n2 x3 h98 fun x103 =>
 EQV x92 x103 <|
 ADD Pr 9 true (.str n7 (nat_lit 11294619051059319)) x97 fun x104 =>
 ADD Pr 9 true x104 (.str n2 n8233) fun x105 =>
 cl n117 [x92, x96] h98 (fun x106 h107 =>
 ADD Pr 9 false x105 x106 fun x110 =>
 kr x110 h107) kp) kp
def B117x174 (x3 : AV) (h11 : Heap) (x9 : AV) (cl : CL) (kr : KR) (kp : KP) : Ans := LDN n2 x3 h11 fun x113 =>
 FA n4 x9 fun x114 =>
 LD x114 h11 fun x115 =>
 SA n1 x115 (.int .i64 n0) fun x116 =>
 LD x116 h11 fun x117 =>
 LDN n2 x3 h11 fun x118 =>
 FA n4 x9 fun x119 =>
 LD x119 h11 fun x120 =>
 SA n1 x120 (.int .i64 n1) fun x121 =>
 LD x121 h11 fun x122 =>
 LDN n2 x3 h11 fun x123 =>
 FA n4 x9 fun x124 =>
 LD x124 h11 fun x125 =>
 SA n1 x125 (.int .i64 n2) fun x126 =>
 LD x126 h11 fun x127 =>
 LDN n2 x3 h11 fun x128 =>
 FA n4 x9 fun x129 =>
 LD x129 h11 fun x130 =>
 SA n1 x130 (.int .i64 n3) fun x131 =>
 LD x131 h11 fun x132 =>
 cl n116 [x113, x117] h11 (fun x133 h134 =>
 LD x131 h134 fun x137 =>
 EQV x132 x137 <|
 LD x129 h134 fun x138 =>
 EQV x130 x138 <|
 LDN n2 x3 h134 fun x139 =>
 EQV x128 x139 <|
 LD x126 h134 fun x140 =>
 EQV x127 x140 <|
 LD x124 h134 fun x141 =>
 EQV x125 x141 <|
 LDN n2 x3 h134 fun x142 =>
 EQV x123 x142 <|
 LD x121 h134 fun x143 =>
 EQV x122 x143 <|
 LD x119 h134 fun x144 =>
 EQV x120 x144 <|
 LDN n2 x3 h134 fun x145 =>
 EQV x118 x145 <|
 ADD Pr 9 true (.str n5 (nat_lit 172343062374)) x133 fun x146 =>
 ADD Pr 9 true x146 (.str n2 n8251) fun x147 =>
 cl n116 [x118, x122] h134 (fun x148 h149 =>
 LD x131 h149 fun x152 =>
 EQV x132 x152 <|
 LD x129 h149 fun x153 =>
 EQV x130 x153 <|
 LDN n2 x3 h149 fun x154 =>
 EQV x128 x154 <|
 LD x126 h149 fun x155 =>
 EQV x127 x155 <|
 LD x124 h149 fun x156 =>
 EQV x125 x156 <|
 LDN n2 x3 h149 fun x157 =>
 EQV x123 x157 <|
 ADD Pr 9 false x147 x148 fun x158 =>
 ADD Pr 9 true x158 (.str n2 n8251) fun x159 =>
 cl n116 [x123, x127] h149 (fun x160 h161 =>
 LD x131 h161 fun x164 =>
 EQV x132 x164 <|
 LD x129 h161 fun x165 =>
 EQV x130 x165 <|
 LDN n2 x3 h161 fun x166 =>
 EQV x128 x166 <|
 ADD Pr 9 false x159 x160 fun x167 =>
 ADD Pr 9 true x167 (.str n2 n8233) fun x168 =>
 cl n117 [x128, x132] h161 (fun x169 h170 =>
 ADD Pr 9 false x168 x169 fun x173 =>
 kr x173 h170) kp) kp) kp) kp
def B117x196 (x9 : AV) (h11 : Heap) (x3 : AV) (cl : CL) (kr : KR) (kp : KP) : Ans := FA n1 x9 fun x176 =>
 LD x176 h11 fun x177 =>
 ADD Pr 9 true (.str n5 (nat_lit 172343062374)) x177 fun x178 =>
 ADD Pr 9 true x178 (.str n4 (nat_lit 544106784)) fun x179 =>
 FA n2 x9 fun x180 =>
 LD x180 h11 fun x181 =>
 ADD Pr 9 false x179 x181 fun x182 =>
 ADD Pr 9 true x182 (.str n2 n8233) fun x183 =>
 LDN n2 x3 h11 fun x184 =>
 FA n4 x9 fun x185 =>
 LD x185 h11 fun x186 =>
 SA n1 x186 (.int .i64 n0) fun x187 =>
 LD x187 h11 fun x188 =>
 cl n117 [x184, x188] h11 (fun x189 h190 =>
 LD x180 h190 fun x193 =>
 EQV x181 x193 <|
 LD x176 h190 fun x194 =>
 EQV x177 x194 <|
 ADD Pr 9 false x183 x189 fun x195 =>
 kr x195 h190) kp
def B117x233 (x9 : AV) (h11 : Heap) (x3 : AV) (cl : CL) (kr : KR) (kp : KP) : Ans := FA n1 x9 fun x217 =>
 LD x217 h11 fun x218 =>
 ADD Pr 9 true (.str n7 (nat_lit 9118749846955364)) x218 fun x219 =>
 ADD Pr 9 true x219 (.str n1 n91) fun x220 =>
 LDN n2 x3 h11 fun x221 =>
 FA n4 x9 fun x222 =>
 LD x222 h11 fun x223 =>
 SA n1 x223 (.int .i64 n0) fun x224 =>
 LD x224 h11 fun x225 =>
 cl n116 [x221, x225] h11 (fun x226 h227 =>
 LD x217 h227 fun x230 =>
 EQV x218 x230 <|
 ADD Pr 9 false x220 x226 fun x231 =>
 ADD Pr 9 true x231 (.str n2 (nat_lit 15197)) fun x232 =>
 kr x232 h227) kp
def B117x254 (x3 : AV) (h236 : Heap) (x9 : AV) (x234 : AV) (cl : CL) (x235 : AV) (j237 : AV → AV → Heap → Ans) (kp : KP) : Ans := LDN n2 x3 h236 fun x242 =>
 FA n4 x9 fun x243 =>
 LD x243 h236 fun x244 =>
 SA n1 x244 x234 fun x245 =>
 LD x245 h236 fun x246 =>
 cl n117 [x242, x246] h236 (fun x247 h248 =>
 ADD Pr 9 false x235 x247 fun x251 =>
 ADD Pr 9 true x251 (.str n1 n32) fun x252 =>
 ADD Pr 3 true x234 (.int .i64 n1) fun x253 =>
 j237 x253 x252 h248) kp
def B117x256 (fu : Nat) (x9 : AV) (x3 : AV) (cl : CL) (kp : KP) (kr : KR) (h11 : Heap) : Ans := LP fu (fun _ _ _ => Ans.no) (fun j237 x234 x235 h236 =>
 FA n4 x9 fun x238 =>
 LD x238 h236 fun x239 =>
 LENS x239 fun x240 =>
 LSS Pr 3 false x234 x240 fun x241 =>
 IFB x241 (B117x254 x3 h236 x9 x234 cl x235 j237 kp)
 (ADD Pr 9 true x235 (.str n1 n125) fun x255 =>
 kr x255 h236)) (.int .i64 n0) (.str n2 n8315) h11
def B117x257 (x13 : AV) (x3 : AV) (h11 : Heap) (x9 : AV) (cl : CL) (kr : KR) (kp : KP) (fu : Nat) : Ans := EQL Pr 3 true x13 (.int .i64 n51) fun x208 =>
 IFB x208 (LDN n2 x3 h11 fun x209 =>
 FA n4 x9 fun x210 =>
 LD x210 h11 fun x211 =>
 cl n179 [x209, (.str n6 (nat_lit 121437875889522)), x211] h11 (fun x212 h213 =>
 kr x212 h213) kp)
 (EQL Pr 3 true x13 (.int .i64 n52) fun x216 =>
 IFB x216 (B117x233 x9 h11 x3 cl kr kp)
 (B117x256 fu x9 x3 cl kp kr h11))
def B117x258 (x13 : AV) (x3 : AV) (h11 : Heap) (x9 : AV) (cl : CL) (kr : KR) (kp : KP) (fu : Nat) : Ans := EQL Pr 3 true x13 (.int .i64 n50) fun x200 =>
 IFB x200 (LDN n2 x3 h11 fun x201 =>
 FA n4 x9 fun x202 =>
 LD x202 h11 fun x203 =>
 cl n179 [x201, (.str n4 (nat_lit 1953069157)), x203] h11 (fun x204 h205 =>
 kr x204 h205) kp)
 (B117x257 x13 x3 h11 x9 cl kr kp fu)
def B117x259 (x13 : AV) (kr : KR) (h11 : Heap) (x3 : AV) (x9 : AV) (cl : CL) (kp : KP) (fu : Nat) : Ans := EQL Pr 3 true x13 (.int .i64 n47) fun x197 =>
 IFB x197 (kr (.str n6 (nat_lit 65332381577826)) h11)
 (EQL Pr 3 true x13 (.int .i64 n48) fun x198 =>
 IFB x198 (kr (.str n9 (nat_lit 1095668771318173429603)) h11)
 (EQL Pr 3 true x13 (.int .i64 n49) fun x199 =>
 IFB x199 (kr (.str n5 (nat_lit 255357117806)) h11)
 (B117x258 x13 x3 h11 x9 cl kr kp fu)))
def B117x260 (x13 : AV) (x3 : AV) (h11 : Heap) (x9 : AV) (cl : CL) (kr : KR) (kp : KP) (fu : Nat) : Ans := EQL Pr 3 true x13 (.int .i64 n44) fun x86 =>
 IFB x86 (B117x111 x3 h11 x9 cl kr kp)
 (EQL Pr 3 true x13 (.int .i64 n45) fun x112 =>
 IFB x112 (B117x174 x3 h11 x9 cl kr kp)
 (EQL Pr 3 true x13 (.int .i64 n46) fun x175 =>
 IFB x175 (B117x196 x9 h11 x3 cl kr kp)
 (B117x259 x13 kr h11 x3 x9 cl kp fu)))
def B117x261 (x13 : AV) (x3 : AV) (h11 : Heap) (x9 : AV) (cl : CL) (kr : KR) (kp : KP) (fu : Nat) : Ans := EQL Pr 3 true x13 (.int .i64 n42) fun x33 =>
 IFB x33 (LDN n2 x3 h11 fun x34 =>
 FA n4 x9 fun x35 =>
 LD x35 h11 fun x36 =>
 cl n179 [x34, (.str n6 (nat_lit 112650254643824)), x36] h11 (fun x37 h38 =>
 kr x37 h38) kp)
 (EQL Pr 3 true x13 (.int .i64 n43) fun x41 =>
 IFB x41 (B117x85 x3 h11 x9 cl kr kp)
 (B117x260 x13 x3 h11 x9 cl kr kp fu))
def F117 (fu : Nat) (oR : Orc) (cl : CL) (args : List AV) (h2 : Heap) (kr : KR) (kp : KP) : Ans := AR2 args fun x0 x1 =>
 BOX 33 x0 h2 fun x3 h4 =>
 FA n0 x3 fun x5 =>
 LD x5 h4 fun x6 =>
 SA n5 x6 x1 fun x7 =>
 LDN n5 x7 h4 fun x8 =>
 NEWC (.n (some (.int .i64 n0)) (.n (some (.str n0 n0)) (.n (some (.int .i64 n0)) .e .e) .e) (.n (some (.str n0 n0)) (.n (some (.nilslice)) .e .e) .e)) n5 108 h4 fun x9 h10 =>
 ST n5 x9 x8 h10 fun h11 =>
 FA n0 x9 fun x12 =>
 LD x12 h11 fun x13 =>
 EQL Pr 3 true x13 (.int .i64 n40) fun x14 =>
 IFB x14 (LDN n2 x3 h11 fun x15 =>
 FA n4 x9 fun x16 =>
 LD x16 h11 fun x17 =>
 SA n1 x17 (.int .i64 n0) fun x18 =>
 LD x18 h11 fun x19 =>
 cl n116 [x15, x19] h11 (fun x20 h21 =>
 ADD Pr 9 true x20 (.str n1 n59) fun x24 =>
 kr x24 h21) kp)
 (EQL Pr 3 true x13 (.int .i64 n41) fun x25 =>
 IFB x25 (LDN n2 x3 h11 fun x26 =>
 FA n4 x9 fun x27 =>
 LD x27 h11 fun x28 =>
 cl n179 [x26, (.str n5 (nat_lit 500068610672)), x28] h11 (fun x29 h30 =>
 kr x29 h30) kp)
 (B117x261 x13 x3 h11 x9 cl kr kp fu))

theorem eqF117 : F117 = fun fu oR => compF Pr fu oR 117 2 := by kernel_rfl

def B118x18 (x2 : AV) (kr : KR) (x0 : AV) (x3 : AV) (h4 : Heap) : Ans := JO (fun x5 h6 =>
 SEL x2 (.bool true) x5 fun x7 =>
 JO (fun x8 h9 =>
 JO (fun x10 h11 =>
 SEL x7 (.bool true) x10 fun x12 =>
 kr x12 h11) fun j13 =>
 GW false x7 (EQL Pr 5 true x8 (.int .u8 n10) fun x14 =>
 j13 x14 h9)
 (j13 undefA h9)) fun j15 =>
 GW false x7 (j15 x0 h6)
 (j15 undefA h6)) fun j16 =>
 GW false x2 (EQL Pr 5 true x3 (.int .u8 n9) fun x17 =>
 j16 x17 h4)
 (j16 undefA h4)
def F118 (fu : Nat) (oR : Orc) (cl : CL) (args : List AV) (h1 : Heap) (kr : KR) (kp : KP) : Ans := AR1 args fun x0 =>
 EQL Pr 5 true x0 (.int .u8 n32) fun x2 =>
 JO (fun x3 h4 =>
 B118x18 x2 kr x0 x3 h4) fun j19 =>
 GW false x2 (j19 x0 h1)
 (j19 undefA h1)

theorem eqF118 : F118 = fun fu oR => compF Pr fu oR 118 1 := by kernel_rfl

def B120x30 (cl : CL) (x18 : AV) (x1 : AV) (h19 : Heap) (kr : KR) (x17 : AV) (j20 : AV → AV → Heap → Ans) (kp : KP) : Ans := cl n121 [x18, x1] h19 (fun x21 h22 =>
 EQL Pr 3 true x21 (.int .i64 (nat_lit 18446744073709551615)) fun x25 =>
 IFB x25 (kr x17 h22)
 (ADD Pr 3 true x17 (.int .i64 n1) fun x26 =>
 LENT x1 fun x27 =>
 ADD Pr 3 false x21 x27 fun x28 =>
 OV (sliceA Pr 9 x18 (some x28) none none) fun x29 =>
 j20 x26 x29 h22)) kp
def B120x31 (x1 : AV) (h2 : Heap) (x0 : AV) (cl : CL) (kr : KR) (kp : KP) (fu : Nat) : Ans := LENT x1 fun x10 =>
 EQL Pr 3 true x10 (.int .i64 n1) fun x11 =>
 IFB x11 (SAT x1 (.int .i64 n0) fun x12 =>
 GEN (callF Pr h2 182 [x0, x12]) cl (fun x13 h14 =>
 kr x13 h14) kp)
 (LP fu (fun _ _ _ => Ans.no) (fun j20 x17 x18 h19 =>
 B120x30 cl x18 x1 h19 kr x17 j20 kp) (.int .i64 n0) x0 h2)
def F120 (fu : Nat) (oR : Orc) (cl : CL) (args : List AV) (h2 : Heap) (kr : KR) (kp : KP) : Ans := AR2 args fun x0 x1 =>
 LENT x1 fun x3 =>
 EQL Pr 3 true x3 (.int .i64 n0) fun x4 =>
 IFB x4 (cl n180 [x0] h2 (fun x5 h6 =>
 ADD Pr 3 true x5 (.int .i64 n1) fun x9 =>
 kr x9 h6) kp)
 (B120x31 x1 h2 x0 cl kr kp fu)

theorem eqF120 : F120 = fun fu oR => compF Pr fu oR 120 2 := by kernel_rfl

def F121 (fu : Nat) (oR : Orc) (cl : CL) (args : List AV) (h2 : Heap) (kr : KR) (kp : KP) : Ans := AR2 args fun x0 x1 =>
 cl n183 [x0, x1] h2 (fun x3 h4 =>
 kr x3 h4) kp

theorem eqF121 : F121 = fun fu oR => compF Pr fu oR 121 2 := by kernel_rfl

def F122 (fu : Nat) (oR : Orc) (cl : CL) (args : List AV) (h2 : Heap) (kr : KR) (kp : KP) : Ans := AR2 args fun x0 x1 =>
 cl n184 [x0] h2 (fun x3 h4 =>
 NC x0 fun x7 =>
 FA n1 x7 fun x8 =>
 LD x8 h4 fun x9 =>
 GEN (builtinF .append Pr [22, 9] [x9, x1] h4) cl (fun x10 h11 =>
 NC x0 fun x14 =>
 FA n1 x14 fun x15 =>
 ST n1 x15 x10 h11 fun h16 =>
 LENT x1 fun x17 =>
 kr (.tuple [x17, (.niliface)]) h16) kp) kp

theorem eqF122 : F122 = fun fu oR => compF Pr fu oR 122 2 := by kernel_rfl

def F123 (fu : Nat) (oR : Orc) (cl : CL) (args : List AV) (h1 : Heap) (kr : KR) (kp : KP) : Ans := AR1 args fun x0 =>
 NC x0 fun x2 =>
 FA n1 x2 fun x3 =>
 LD x3 h1 fun x4 =>
 LENS x4 fun x5 =>
 kr x5 h1

theorem eqF123 : F123 = fun fu oR => compF Pr fu oR 123 1 := by kernel_rfl

def B124x18 (x0 : AV) (kr : KR) (h1 : Heap) : Ans := EQL Pr 3 true x0 (.int .i64 n22) fun x15 =>
 IFB x15 (kr (.str n3 (nat_lit 2107936)) h1)
 (EQL Pr 3 true x0 (.int .i64 n23) fun x16 =>
 IFB x16 (kr (.str n3 (nat_lit 2109216)) h1)
 (EQL Pr 3 true x0 (.int .i64 n24) fun x17 =>
 IFB x17 (kr (.str n3 (nat_lit 2106656)) h1)
 (kr (.str n0 n0) h1)))
def B124x19 (x0 : AV) (kr : KR) (h1 : Heap) : Ans := EQL Pr 3 true x0 (.int .i64 n19) fun x12 =>
 IFB x12 (kr (.str n1 n32) h1)
 (EQL Pr 3 true x0 (.int .i64 n20) fun x13 =>
 IFB x13 (kr (.str n3 (nat_lit 2108192)) h1)
 (EQL Pr 3 true x0 (.int .i64 n21) fun x14 =>
 IFB x14 (kr (.str n3 (nat_lit 2108704)) h1)
 (B124x18 x0 kr h1)))
def B124x20 (x0 : AV) (kr : KR) (h1 : Heap) : Ans := EQL Pr 3 true x0 (.int .i64 n16) fun x9 =>
 IFB x9 (kr (.str n4 (nat_lit 540884000)) h1)
 (EQL Pr 3 true x0 (.int .i64 n17) fun x10 =>
 IFB x10 (kr (.str n4 (nat_lit 540884256)) h1)
 (EQL Pr 3 true x0 (.int .i64 n18) fun x11 =>
 IFB x11 (kr (.str n4 (nat_lit 540877088)) h1)
 (B124x19 x0 kr h1)))
def B124x21 (x0 : AV) (kr : KR) (h1 : Heap) : Ans := EQL Pr 3 true x0 (.int .i64 n13) fun x6 =>
 IFB x6 (kr (.str n3 (nat_lit 2129440)) h1)
 (EQL Pr 3 true x0 (.int .i64 n14) fun x7 =>
 IFB x7 (kr (.str n4 (nat_lit 545136928)) h1)
 (EQL Pr 3 true x0 (.int .i64 n15) fun x8 =>
 IFB x8 (kr (.str n3 (nat_lit 2112544)) h1)
 (B124x20 x0 kr h1)))
def B124x22 (x0 : AV) (kr : KR) (h1 : Heap) : Ans := EQL Pr 3 true x0 (.int .i64 n8) fun x3 =>
 IFB x3 (kr (.str n4 (nat_lit 540879648)) h1)
 (EQL Pr 3 true x0 (.int .i64 n10) fun x4 =>
 IFB x4 (kr (.str n4 (nat_lit 545029152)) h1)
 (EQL Pr 3 true x0 (.int .i64 n11) fun x5 =>
 IFB x5 (kr (.str n4 (nat_lit 539371040)) h1)
 (B124x21 x0 kr h1)))
def F124 (fu : Nat) (oR : Orc) (cl : CL) (args : List AV) (h1 : Heap) (kr : KR) (kp : KP) : Ans := AR1 args fun x0 =>
 EQL Pr 3 true x0 (.int .i64 n7) fun x2 =>
 IFB x2 (kr (.str n3 (nat_lit 2112800)) h1)
 (B124x22 x0 kr h1)

theorem eqF124 : F124 = fun fu oR => compF Pr fu oR 124 1 := by kernel_rfl

def B125x42 (x11 : AV) (x24 : AV) (h25 : Heap) (x1 : AV) (cl : CL) (x0 : AV) (x3 : AV) (kr : KR) (j26 : AV → Heap → Ans) (kp : KP) : Ans := SA n1 x11 x24 fun x28 =>
 LD x28 h25 fun x29 =>
 SUB Pr 3 true x1 (.int .i64 n1) fun x30 =>
 cl n24 [x29, (.int .i64 n0), x30] h25 (fun x31 h32 =>
 OV (unOpA .not x31) fun x35 =>
 IFB x35 (NC x0 fun x36 =>
 FA n4 x36 fun x37 =>
 ST n1 x37 (.bool true) h32 fun h38 =>
 OVH (makeSliceA Pr h38 106 x3 x3) fun x39 h40 =>
 kr x39 h40)
 (ADD Pr 3 true x24 (.int .i64 n1) fun x41 =>
 j26 x41 h32)) kp
def F125 (fu : Nat) (oR : Orc) (cl : CL) (args : List AV) (h4 : Heap) (kr : KR) (kp : KP) : Ans := AR4 args fun x0 x1 x2 x3 =>
 NC x0 fun x5 =>
 FA n0 x5 fun x6 =>
 FA n0 x6 fun x7 =>
 LD x7 h4 fun x8 =>
 SA n5 x8 x1 fun x9 =>
 FA n4 x9 fun x10 =>
 LD x10 h4 fun x11 =>
 LENS x11 fun x12 =>
 cl n24 [x12, x2, x3] h4 (fun x13 h14 =>
 OV (unOpA .not x13) fun x17 =>
 IFB x17 (NC x0 fun x18 =>
 FA n4 x18 fun x19 =>
 ST n1 x19 (.bool true) h14 fun h20 =>
 OVH (makeSliceA Pr h20 106 x3 x3) fun x21 h22 =>
 kr x21 h22)
 (LENS x11 fun x23 =>
 LP fu (fun _ _ => Ans.no) (fun j26 x24 h25 =>
 LSS Pr 3 false x24 x23 fun x27 =>
 IFB x27 (B125x42 x11 x24 h25 x1 cl x0 x3 kr j26 kp)
 (kr x11 h25)) (.int .i64 n0) h14)) kp

theorem eqF125 : F125 = fun fu oR => compF Pr fu oR 125 4 := by kernel_rfl

def B126x25 (x1 : AV) (x5 : AV) (h6 : Heap) (cl : CL) (x0 : AV) (j7 : AV → Heap → Ans) (kp : KP) (x2 : AV) : Ans := SA n1 x1 x5 fun x9 =>
 LD x9 h6 fun x10 =>
 JO (fun h11 =>
 cl n81 [x0, x10] h11 (fun x12 h13 =>
 ADD Pr 3 true x5 (.int .i64 n1) fun x16 =>
 j7 x16 h13) kp) fun j17 =>
 GTR Pr 3 true x5 (.int .i64 n0) fun x18 =>
 IFB x18 (BSL n9 n1 [(.str n0 n0)] n1 [(n0, x2)] h6 fun x19 h20 =>
 cl n80 [x0, x19] h20 (fun x21 h22 =>
 j17  h22) kp)
 (j17  h6)
def F126 (fu : Nat) (oR : Orc) (cl : CL) (args : List AV) (h3 : Heap) (kr : KR) (kp : KP) : Ans := AR3 args fun x0 x1 x2 =>
 LENS x1 fun x4 =>
 LP fu (fun _ _ => Ans.no) (fun j7 x5 h6 =>
 LSS Pr 3 false x5 x4 fun x8 =>
 IFB x8 (B126x25 x1 x5 h6 cl x0 j7 kp x2)
 (kr (.tuple []) h6)) (.int .i64 n0) h3

theorem eqF126 : F126 = fun fu oR => compF Pr fu oR 126 3 := by kernel_rfl

def B127x35 (x8 : AV) (cl : CL) (h13 : Heap) (x16 : AV) (j19 : AV → Heap → Ans) (kp : KP) : Ans := BOP Pr .rem 3 true x8 (.int .i64 (nat_lit 1000000)) fun x22 =>
 ADD Pr 3 true (.int .i64 (nat_lit 1000000)) x22 fun x23 =>
 cl n186 [x23] h13 (fun x24 h25 =>
 OV (sliceA Pr 9 x24 (some (.int .i64 n1)) none none) fun x28 =>
 cl n187 [x28, (.str n1 n48)] h25 (fun x29 h30 =>
 ADD Pr 9 true (.str n1 n46) x29 fun x33 =>
 ADD Pr 9 false x16 x33 fun x34 =>
 j19 x34 h30) kp) kp
def B127x36 (x8 : AV) (cl : CL) (h10 : Heap) (x9 : AV) (kr : KR) (kp : KP) : Ans := BOP Pr .quo 3 true x8 (.int .i64 (nat_lit 1000000)) fun x11 =>
 cl n186 [x11] h10 (fun x12 h13 =>
 ADD Pr 9 false x9 x12 fun x16 =>
 JO (fun x17 h18 =>
 kr x17 h18) fun j19 =>
 BOP Pr .rem 3 true x8 (.int .i64 (nat_lit 1000000)) fun x20 =>
 GTR Pr 3 true x20 (.int .i64 n0) fun x21 =>
 IFB x21 (B127x35 x8 cl h13 x16 j19 kp)
 (j19 x16 h13)) kp
def F127 (fu : Nat) (oR : Orc) (cl : CL) (args : List AV) (h1 : Heap) (kr : KR) (kp : KP) : Ans := AR1 args fun x0 =>
 cl n185 [x0] h1 (fun x2 h3 =>
 OV (unOpA .not x2) fun x6 =>
 IFB x6 (kr (.str n0 n0) h3)
 (OV (unOpA .neg x0) fun x7 =>
 OPV (builtinF .max Pr [3, 3] [x0, x7] h3) fun x8 =>
 JO (fun x9 h10 =>
 B127x36 x8 cl h10 x9 kr kp) fun j37 =>
 LSS Pr 3 true x0 (.int .i64 n0) fun x38 =>
 IFB x38 (j37 (.str n1 n45) h3)
 (j37 (.str n0 n0) h3))) kp

theorem eqF127 : F127 = fun fu oR => compF Pr fu oR 127 1 := by kernel_rfl

def B129x48 (x0 : AV) (h9 : Heap) (x1 : AV) (x3 : AV) (x4 : AV) (cl : CL) (kr : KR) (kp : KP) : Ans := NC x0 fun x24 =>
 FA n0 x24 fun x25 =>
 FA n0 x25 fun x26 =>
 LD x26 h9 fun x27 =>
 SA n5 x27 x1 fun x28 =>
 FA n4 x28 fun x29 =>
 LD x29 h9 fun x30 =>
 LENS x30 fun x31 =>
 OPV (builtinF .max Pr [3, 3] [x3, x31] h9) fun x32 =>
 OPV (builtinF .min Pr [3, 3] [x4, x32] h9) fun x33 =>
 cl n125 [x0, x1, x3, x33] h9 (fun x34 h35 =>
 cl n126 [x0, x34, (.str n2 n8236)] h35 (fun x38 h39 =>
 BSL n9 n1 [(.str n0 n0)] n1 [(n0, (.str n1 n41))] h39 fun x42 h43 =>
 cl n80 [x0, x42] h43 (fun x44 h45 =>
 kr (.tuple []) h45) kp) kp) kp
def F129 (fu : Nat) (oR : Orc) (cl : CL) (args : List AV) (h5 : Heap) (kr : KR) (kp : KP) : Ans := AR5 args fun x0 x1 x2 x3 x4 =>
 BSL n9 n1 [(.str n0 n0), (.str n0 n0)] n2 [(n0, x2), (n1, (.str n1 n40))] h5 fun x6 h7 =>
 cl n80 [x0, x6] h7 (fun x8 h9 =>
 NC x0 fun x12 =>
 FA n0 x12 fun x13 =>
 FA n0 x13 fun x14 =>
 LD x14 h9 fun x15 =>
 SA n5 x15 x1 fun x16 =>
 FA n4 x16 fun x17 =>
 LD x17 h9 fun x18 =>
 LENS x18 fun x19 =>
 GTR Pr 3 true x19 (.int .i64 n4000) fun x20 =>
 IFB x20 (NC x0 fun x21 =>
 FA n4 x21 fun x22 =>
 ST n1 x22 (.bool true) h9 fun h23 =>
 kr (.tuple []) h23)
 (B129x48 x0 h9 x1 x3 x4 cl kr kp)) kp

theorem eqF129 : F129 = fun fu oR => compF Pr fu oR 129 5 := by kernel_rfl
end
end Go.Ev
