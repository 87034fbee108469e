import Derived.Test.YtodmelapdoahpaaGreatDoorEvB
import Derived.KernelRfl
import Derived.Test.YtodmelapdoahpaaGreatDoorChecked
set_option linter.all false
namespace Go.Ev
noncomputable section
noncomputable def Pr : Program := Go.Proofs.Tryz.prog
noncomputable def AR0 (l : List AV) (k : Ans) : Ans := lcase l (k ) fun _ _ => .no
noncomputable def AR1 (l : List AV) (k : AV → Ans) : Ans := lcase l .no fun x0 l => lcase l (k x0) fun _ _ => .no
noncomputable def AR2 (l : List AV) (k : AV → AV → Ans) : Ans := lcase l .no fun x0 l => lcase l .no fun x1 l => lcase l (k x0 x1) fun _ _ => .no
noncomputable def AR3 (l : List AV) (k : AV → AV → AV → Ans) : Ans := lcase l .no fun x0 l => lcase l .no fun x1 l => lcase l .no fun x2 l => lcase l (k x0 x1 x2) fun _ _ => .no
noncomputable def AR4 (l : List AV) (k : AV → AV → AV → AV → Ans) : Ans := lcase l .no fun x0 l => lcase l .no fun x1 l => lcase l .no fun x2 l => lcase l .no fun x3 l => lcase l (k x0 x1 x2 x3) fun _ _ => .no
noncomputable def AR5 (l : List AV) (k : AV → AV → AV → AV → AV → Ans) : Ans := lcase l .no fun x0 l => lcase l .no fun x1 l => lcase l .no fun x2 l => lcase l .no fun x3 l => lcase l .no fun x4 l => lcase l (k x0 x1 x2 x3 x4) fun _ _ => .no
noncomputable def AR6 (l : List AV) (k : AV → AV → AV → AV → AV → AV → Ans) : Ans := lcase l .no fun x0 l => lcase l .no fun x1 l => lcase l .no fun x2 l => lcase l .no fun x3 l => lcase l .no fun x4 l => lcase l .no fun x5 l => lcase l (k x0 x1 x2 x3 x4 x5) fun _ _ => .no
noncomputable def AR7 (l : List AV) (k : AV → AV → AV → AV → AV → AV → AV → Ans) : Ans := lcase l .no fun x0 l => lcase l .no fun x1 l => lcase l .no fun x2 l => lcase l .no fun x3 l => lcase l .no fun x4 l => lcase l .no fun x5 l => lcase l .no fun x6 l => lcase l (k x0 x1 x2 x3 x4 x5 x6) fun _ _ => .no
noncomputable def AR8 (l : List AV) (k : AV → AV → AV → AV → AV → AV → AV → AV → Ans) : Ans := lcase l .no fun x0 l => lcase l .no fun x1 l => lcase l .no fun x2 l => lcase l .no fun x3 l => lcase l .no fun x4 l => lcase l .no fun x5 l => lcase l .no fun x6 l => lcase l .no fun x7 l => lcase l (k x0 x1 x2 x3 x4 x5 x6 x7) fun _ _ => .no
noncomputable def AR9 (l : List AV) (k : AV → AV → AV → AV → AV → AV → AV → AV → AV → Ans) : Ans := lcase l .no fun x0 l => lcase l .no fun x1 l => lcase l .no fun x2 l => lcase l .no fun x3 l => lcase l .no fun x4 l => lcase l .no fun x5 l => lcase l .no fun x6 l => lcase l .no fun x7 l => lcase l .no fun x8 l => lcase l (k x0 x1 x2 x3 x4 x5 x6 x7 x8) fun _ _ => .no
abbrev FX := Nat → Orc → CL → List AV → Heap → KR → KP → Ans
def CF (n k : Nat) : Nat → Orc → CL → List AV → Heap → KR → KP → Ans := fun fu oR => compF Pr fu oR n k
def n0 : Nat := nat_lit 0
def n1 : Nat := nat_lit 1
def n2 : Nat := nat_lit 2
def n3 : Nat := nat_lit 3
def n4 : Nat := nat_lit 4
def n5 : Nat := nat_lit 5
def n6 : Nat := nat_lit 6
def n7 : Nat := nat_lit 7
def n8 : Nat := nat_lit 8
def n9 : Nat := nat_lit 9
def n10 : Nat := nat_lit 10
def n11 : Nat := nat_lit 11
def n12 : Nat := nat_lit 12
def n13 : Nat := nat_lit 13
def n14 : Nat := nat_lit 14
def n15 : Nat := nat_lit 15
def n16 : Nat := nat_lit 16
def n17 : Nat := nat_lit 17
def n18 : Nat := nat_lit 18
def n19 : Nat := nat_lit 19
def n20 : Nat := nat_lit 20
def n21 : Nat := nat_lit 21
def n22 : Nat := nat_lit 22
def n23 : Nat := nat_lit 23
def n24 : Nat := nat_lit 24
def n25 : Nat := nat_lit 25
def n26 : Nat := nat_lit 26
def n27 : Nat := nat_lit 27
def n28 : Nat := nat_lit 28
def n29 : Nat := nat_lit 29
def n30 : Nat := nat_lit 30
def n31 : Nat := nat_lit 31
def n32 : Nat := nat_lit 32
def n33 : Nat := nat_lit 33
def n34 : Nat := nat_lit 34
def n35 : Nat := nat_lit 35
def n36 : Nat := nat_lit 36
def n37 : Nat := nat_lit 37
def n38 : Nat := nat_lit 38
def n39 : Nat := nat_lit 39
def n40 : Nat := nat_lit 40
def n41 : Nat := nat_lit 41
def n42 : Nat := nat_lit 42
def n43 : Nat := nat_lit 43
def n44 : Nat := nat_lit 44
def n45 : Nat := nat_lit 45
def n46 : Nat := nat_lit 46
def n47 : Nat := nat_lit 47
def n48 : Nat := nat_lit 48
def n49 : Nat := nat_lit 49
def n51 : Nat := nat_lit 51
def n52 : Nat := nat_lit 52
def n53 : Nat := nat_lit 53
def n54 : Nat := nat_lit 54
def n55 : Nat := nat_lit 55
def n56 : Nat := nat_lit 56
def n57 : Nat := nat_lit 57
def n58 : Nat := nat_lit 58
def n59 : Nat := nat_lit 59
def n60 : Nat := nat_lit 60
def n61 : Nat := nat_lit 61
def n63 : Nat := nat_lit 63
def n64 : Nat := nat_lit 64
def n65 : Nat := nat_lit 65
def n66 : Nat := nat_lit 66
def n67 : Nat := nat_lit 67
def n68 : Nat := nat_lit 68
def n69 : Nat := nat_lit 69
def n70 : Nat := nat_lit 70
def n71 : Nat := nat_lit 71
def n72 : Nat := nat_lit 72
def n74 : Nat := nat_lit 74
def n75 : Nat := nat_lit 75
def n77 : Nat := nat_lit 77
def n78 : Nat := nat_lit 78
def n80 : Nat := nat_lit 80
def n81 : Nat := nat_lit 81
def n82 : Nat := nat_lit 82
def n83 : Nat := nat_lit 83
def n84 : Nat := nat_lit 84
def n85 : Nat := nat_lit 85
def n86 : Nat := nat_lit 86
def n87 : Nat := nat_lit 87
def n88 : Nat := nat_lit 88
def n89 : Nat := nat_lit 89
def n90 : Nat := nat_lit 90
def n91 : Nat := nat_lit 91
def n92 : Nat := nat_lit 92
def n93 : Nat := nat_lit 93
def n94 : Nat := nat_lit 94
def n95 : Nat := nat_lit 95
def n96 : Nat := nat_lit 96
def n97 : Nat := nat_lit 97
def n98 : Nat := nat_lit 98
def n99 : Nat := nat_lit 99
def n100 : Nat := nat_lit 100
def n101 : Nat := nat_lit 101
def n102 : Nat := nat_lit 102
def n103 : Nat := nat_lit 103
def n104 : Nat := nat_lit 104
def n105 : Nat := nat_lit 105
def n106 : Nat := nat_lit 106
def n107 : Nat := nat_lit 107
def n108 : Nat := nat_lit 108
def n109 : Nat := nat_lit 109
def n110 : Nat := nat_lit 110
def n111 : Nat := nat_lit 111
def n112 : Nat := nat_lit 112
def n113 : Nat := nat_lit 113
def n114 : Nat := nat_lit 114
def n115 : Nat := nat_lit 115
def n116 : Nat := nat_lit 116
def n117 : Nat := nat_lit 117
def n118 : Nat := nat_lit 118
def n119 : Nat := nat_lit 119
def n120 : Nat := nat_lit 120
def n121 : Nat := nat_lit 121
def n122 : Nat := nat_lit 122
def n123 : Nat := nat_lit 123
def n124 : Nat := nat_lit 124
def n125 : Nat := nat_lit 125
def n126 : Nat := nat_lit 126
def n127 : Nat := nat_lit 127
def n128 : Nat := nat_lit 128
def n129 : Nat := nat_lit 129
def n130 : Nat := nat_lit 130
def n131 : Nat := nat_lit 131
def n132 : Nat := nat_lit 132
def n133 : Nat := nat_lit 133
def n134 : Nat := nat_lit 134
def n135 : Nat := nat_lit 135
def n136 : Nat := nat_lit 136
def n137 : Nat := nat_lit 137
def n138 : Nat := nat_lit 138
def n139 : Nat := nat_lit 139
def n140 : Nat := nat_lit 140
def n141 : Nat := nat_lit 141
def n142 : Nat := nat_lit 142
def n143 : Nat := nat_lit 143
def n144 : Nat := nat_lit 144
def n145 : Nat := nat_lit 145
def n146 : Nat := nat_lit 146
def n147 : Nat := nat_lit 147
def n153 : Nat := nat_lit 153
def n154 : Nat := nat_lit 154
def n155 : Nat := nat_lit 155
def n156 : Nat := nat_lit 156
def n157 : Nat := nat_lit 157
def n158 : Nat := nat_lit 158
def n159 : Nat := nat_lit 159
def n160 : Nat := nat_lit 160
def n161 : Nat := nat_lit 161
def n162 : Nat := nat_lit 162
def n163 : Nat := nat_lit 163
def n164 : Nat := nat_lit 164
def n165 : Nat := nat_lit 165
def n166 : Nat := nat_lit 166
def n167 : Nat := nat_lit 167
def n168 : Nat := nat_lit 168
def n169 : Nat := nat_lit 169
def n170 : Nat := nat_lit 170
def n173 : Nat := nat_lit 173
def n174 : Nat := nat_lit 174
def n175 : Nat := nat_lit 175
def n176 : Nat := nat_lit 176
def n177 : Nat := nat_lit 177
def n178 : Nat := nat_lit 178
def n179 : Nat := nat_lit 179
def n180 : Nat := nat_lit 180
def n181 : Nat := nat_lit 181
def n182 : Nat := nat_lit 182
def n183 : Nat := nat_lit 183
def n184 : Nat := nat_lit 184
def n185 : Nat := nat_lit 185
def n187 : Nat := nat_lit 187
def n188 : Nat := nat_lit 188
def n189 : Nat := nat_lit 189
def n190 : Nat := nat_lit 190
def n191 : Nat := nat_lit 191
def n192 : Nat := nat_lit 192
def n193 : Nat := nat_lit 193
def n194 : Nat := nat_lit 194
def n195 : Nat := nat_lit 195
def n196 : Nat := nat_lit 196
def n199 : Nat := nat_lit 199
def n200 : Nat := nat_lit 200
def n201 : Nat := nat_lit 201
def n202 : Nat := nat_lit 202
def n203 : Nat := nat_lit 203
def n204 : Nat := nat_lit 204
def n205 : Nat := nat_lit 205
def n206 : Nat := nat_lit 206
def n207 : Nat := nat_lit 207
def n209 : Nat := nat_lit 209
def n210 : Nat := nat_lit 210
def n211 : Nat := nat_lit 211
def n212 : Nat := nat_lit 212
def n213 : Nat := nat_lit 213
def n214 : Nat := nat_lit 214
def n215 : Nat := nat_lit 215
def n216 : Nat := nat_lit 216
def n217 : Nat := nat_lit 217
def n218 : Nat := nat_lit 218
def n220 : Nat := nat_lit 220
def n222 : Nat := nat_lit 222
def n225 : Nat := nat_lit 225
def n226 : Nat := nat_lit 226
def n227 : Nat := nat_lit 227
def n228 : Nat := nat_lit 228
def n229 : Nat := nat_lit 229
def n230 : Nat := nat_lit 230
def n232 : Nat := nat_lit 232
def n234 : Nat := nat_lit 234
def n235 : Nat := nat_lit 235
def n237 : Nat := nat_lit 237
def n238 : Nat := nat_lit 238
def n239 : Nat := nat_lit 239
def n240 : Nat := nat_lit 240
def n241 : Nat := nat_lit 241
def n243 : Nat := nat_lit 243
def n244 : Nat := nat_lit 244
def n245 : Nat := nat_lit 245
def n246 : Nat := nat_lit 246
def n247 : Nat := nat_lit 247
def n248 : Nat := nat_lit 248
def n250 : Nat := nat_lit 250
def n251 : Nat := nat_lit 251
def n252 : Nat := nat_lit 252
def n255 : Nat := nat_lit 255
def n256 : Nat := nat_lit 256
def n257 : Nat := nat_lit 257
def n260 : Nat := nat_lit 260
def n261 : Nat := nat_lit 261
def n262 : Nat := nat_lit 262
def n263 : Nat := nat_lit 263
def n264 : Nat := nat_lit 264
def n266 : Nat := nat_lit 266
def n278 : Nat := nat_lit 278
def n280 : Nat := nat_lit 280
def n283 : Nat := nat_lit 283
def n287 : Nat := nat_lit 287
def n288 : Nat := nat_lit 288
def n297 : Nat := nat_lit 297
def n298 : Nat := nat_lit 298
def n307 : Nat := nat_lit 307
def n308 : Nat := nat_lit 308
def n309 : Nat := nat_lit 309
def n310 : Nat := nat_lit 310
def n311 : Nat := nat_lit 311
def n314 : Nat := nat_lit 314
def n316 : Nat := nat_lit 316
def n317 : Nat := nat_lit 317
def n318 : Nat := nat_lit 318
def n331 : Nat := nat_lit 331
def n332 : Nat := nat_lit 332
def n333 : Nat := nat_lit 333
def n334 : Nat := nat_lit 334
def n335 : Nat := nat_lit 335
def n338 : Nat := nat_lit 338
def n349 : Nat := nat_lit 349
def n350 : Nat := nat_lit 350
def n351 : Nat := nat_lit 351
def n352 : Nat := nat_lit 352
def n360 : Nat := nat_lit 360
def n363 : Nat := nat_lit 363
def n364 : Nat := nat_lit 364
def n365 : Nat := nat_lit 365
def n366 : Nat := nat_lit 366
def n367 : Nat := nat_lit 367
def n368 : Nat := nat_lit 368
def n370 : Nat := nat_lit 370
def n372 : Nat := nat_lit 372
def n373 : Nat := nat_lit 373
def n374 : Nat := nat_lit 374
def n375 : Nat := nat_lit 375
def n2657 : Nat := nat_lit 2657
def n2658 : Nat := nat_lit 2658
def n2659 : Nat := nat_lit 2659
def n2661 : Nat := nat_lit 2661
def n2680 : Nat := nat_lit 2680
def n8233 : Nat := nat_lit 8233
def n8236 : Nat := nat_lit 8236
def n8251 : Nat := nat_lit 8251
def n8315 : Nat := nat_lit 8315
def n8488 : Nat := nat_lit 8488
def n9766 : Nat := nat_lit 9766
def s0 : AV := .str (nat_lit 0) (nat_lit 0)
def bT : AV := .bool true
def bF : AV := .bool false
def uU : AV := undefA
def i0 : AV := .int .i64 (nat_lit 0)
def i1 : AV := .int .i64 (nat_lit 1)
def i2 : AV := .int .i64 (nat_lit 2)
def i3 : AV := .int .i64 (nat_lit 3)
def i4 : AV := .int .i64 (nat_lit 4)
def i5 : AV := .int .i64 (nat_lit 5)
def i6 : AV := .int .i64 (nat_lit 6)
def i7 : AV := .int .i64 (nat_lit 7)
def i8 : AV := .int .i64 (nat_lit 8)
def i9 : AV := .int .i64 (nat_lit 9)
def i10 : AV := .int .i64 (nat_lit 10)
def i11 : AV := .int .i64 (nat_lit 11)
def i12 : AV := .int .i64 (nat_lit 12)
def i13 : AV := .int .i64 (nat_lit 13)
def i14 : AV := .int .i64 (nat_lit 14)
def i15 : AV := .int .i64 (nat_lit 15)
def i16 : AV := .int .i64 (nat_lit 16)
def i17 : AV := .int .i64 (nat_lit 17)
def i18 : AV := .int .i64 (nat_lit 18)
def i19 : AV := .int .i64 (nat_lit 19)
def i20 : AV := .int .i64 (nat_lit 20)
def i21 : AV := .int .i64 (nat_lit 21)
def i22 : AV := .int .i64 (nat_lit 22)
def i23 : AV := .int .i64 (nat_lit 23)
def i24 : AV := .int .i64 (nat_lit 24)
def i25 : AV := .int .i64 (nat_lit 25)
def i26 : AV := .int .i64 (nat_lit 26)
def i27 : AV := .int .i64 (nat_lit 27)
def i28 : AV := .int .i64 (nat_lit 28)
def i29 : AV := .int .i64 (nat_lit 29)
def i30 : AV := .int .i64 (nat_lit 30)
def i31 : AV := .int .i64 (nat_lit 31)
def i32 : AV := .int .i64 (nat_lit 32)
def i36 : AV := .int .i64 (nat_lit 36)
def i40 : AV := .int .i64 (nat_lit 40)
def i41 : AV := .int .i64 (nat_lit 41)
def i42 : AV := .int .i64 (nat_lit 42)
def i43 : AV := .int .i64 (nat_lit 43)
def i44 : AV := .int .i64 (nat_lit 44)
def i45 : AV := .int .i64 (nat_lit 45)
def i46 : AV := .int .i64 (nat_lit 46)
def i47 : AV := .int .i64 (nat_lit 47)
def i48 : AV := .int .i64 (nat_lit 48)
def i49 : AV := .int .i64 (nat_lit 49)
def i50 : AV := .int .i64 (nat_lit 50)
def i51 : AV := .int .i64 (nat_lit 51)
def i52 : AV := .int .i64 (nat_lit 52)
def i53 : AV := .int .i64 (nat_lit 53)
def i64 : AV := .int .i64 (nat_lit 64)
def i65 : AV := .int .i64 (nat_lit 65)
def i100 : AV := .int .i64 (nat_lit 100)
def i500 : AV := .int .i64 (nat_lit 500)
def i800 : AV := .int .i64 (nat_lit 800)
def i3000 : AV := .int .i64 (nat_lit 3000)
def i4000 : AV := .int .i64 (nat_lit 4000) variable (a b d e f g m n p q r s t : AV) (h k l o D : Heap) (j J ja jb jc : AV → Heap → Ans) (fu : Nat) (oR : Orc) (cl : CL) (kr : KR) (kp : KP)
def B3x41 (j:AV → AV → Heap → Ans):Ans:=JO (fun e k=>EQL Pr 3 true a i2 fun f=>IFB f (ADD Pr 9 true e (.str n2 n2659) fun g=>j g b k) (j e b k)) fun J=>EQL Pr 3 true a i0 fun m=>IFB m (ADD Pr 9 true d (.str n2 n2657) fun n=>J n h) (J d h)
def B3x42 (J:AV → AV → AV → Heap → Ans):Ans:=JO (fun n p l=>ADD Pr 3 true a i1 fun q=>J q n p l) fun j=>ADD Pr 3 true a i2 fun r=>cl n5 [g,r] k (fun s o=>BOP Pr .rem 3 true s i3 fun f=>cl n6 [f] o (fun t h=>ADD Pr 9 false m t fun u=>ADD Pr 9 true u (.str n1 n10) fun d=>GEQ Pr 3 false a e fun v=>IFB v (j b d h) (ADD Pr 3 true a i1 fun w=>EQL Pr 3 false w e fun x=>IFB x (ADD Pr 9 true b (.str n2 n2680) fun y=>j y d h) (B3x41 f d b h j))) kp) kp
def B3x64:Ans:=ADD Pr 9 true b (.str n2 n2658) fun e=>cl n7 [(.str n39 (nat_lit 4078175433510786856536984595197529795594659240974750576819580829872039284296199975987563208827)),d] k (fun f h=>EQL Pr 9 false f e fun a=>JO (fun g l=>SEL a g bF fun m=>kr m l) fun j=>GW true a (cl n8 [] h j kp) (j uU h)) kp
def B3x74:Ans:=cl n6 [a] k (fun e h=>ADD Pr 9 true (.str n6 (nat_lit 35447390622286)) e fun f=>ADD Pr 9 true f (.str n22 (nat_lit 12155493131270667495917673853134945585569855617137440)) fun g=>EQL Pr 3 true a i0 fun m=>IFB m (B3x64 b d h cl kr kp) (JO (fun n l=>cl n9 [g,d,n] l kr kp) fun j=>GTR Pr 3 true a i6 fun q=>IFB q (ADD Pr 9 true b (.str n2 n2661) fun r=>j r h) (j b h))) kp
def F3:FX:=fun fu oR cl args k kr kp=>AR1 args fun a=>cl n5 [a,i1] k (fun g l=>BOP Pr .rem 3 true g i8 fun b=>LP fu (fun _ _ _ _=>Ans.no) (fun j d e f h=>LSS Pr 3 true d i6 fun m=>IFB m (B3x42 d e b a f h cl kp j) (B3x74 b e f h cl kr kp)) i0 s0 s0 l) kp
theorem eqF3:F3=CF 3 1:=by kernel_rfl
def F5:FX:=fun fu oR cl args h kr kp=>AR2 args fun a b=>LENS a fun d=>EQL Pr 3 true d i0 fun e=>IFB e (kr i0 h) (LENS a fun f=>BOP Pr .rem 3 false b f fun g=>SA n1 a g fun m=>LD m h fun n=>OV (convV Pr h 5 3 n) fun p=>kr p h)
theorem eqF5:F5=CF 5 2:=by kernel_rfl
def F6:FX:=fun fu oR cl args h kr kp=>AR1 args fun a=>BOP Pr .mul 3 true a (.int .i64 (nat_lit 1000000)) fun b=>cl n13 [b] h kr kp
theorem eqF6:F6=CF 6 1:=by kernel_rfl
def F7:FX:=fun fu oR cl args k kr kp=>AR2 args fun b d=>cl n15 [b] k (fun e l=>cl n14 [e,d,i3000] l (fun f o=>NEWC (.n (some i0) (.n (some i0) (.n (some i0) .e .e) (.n (some (.nilslice)) .e .e)) (.n (some s0) (.n (some (.nilslice)) .e .e) .e)) n6 35 o fun a A=>ST n6 a f A fun h=>FA n0 a fun g=>LD g h fun m=>NEQ Pr 3 true m i0 fun n=>IFB n (FA n2 a fun p=>LD p h fun q=>ADD Pr 9 true q (.str n1 n33) fun r=>kr r h) (FA n2 a fun s=>LD s h fun t=>kr t h)) kp) kp
theorem eqF7:F7=CF 7 2:=by kernel_rfl
def B8x57:Ans:=JO (fun d h=>JO (fun e l=>JO (fun f o=>SEL a f bF fun g=>kr g o) fun j=>GW true a (EQL Pr 3 true e i3 fun m=>j m l) (j uU l)) fun J=>GW true a (LD d h fun n=>J n h) (J uU h)) fun ja=>GW true a (FA n3 b fun p=>ja p k) (ja uU k)
def B8x64:Ans:=SEL b d bF fun a=>JO (fun f h=>JO (fun g l=>JO (fun m o=>B8x57 a m o kr) fun j=>GW true a (SA n4 g i0 fun n=>j n l) (j uU l)) fun J=>GW true a (LD f h fun p=>J p h) (J uU h)) fun ja=>GW true a (FA n4 e fun q=>ja q k) (ja uU k)
def B8x71:Ans:=JO (fun e k=>JO (fun f l=>JO (fun g o=>B8x64 a g b o kr) fun j=>GW true a (EQL Pr 3 true f i1 fun m=>j m l) (j uU l)) fun J=>GW true a (LENS e fun n=>J n k) (J uU k)) fun ja=>GW true a (LD d h fun p=>ja p h) (ja uU h)
def B8x78:Ans:=JO (fun f k=>JO (fun g l=>SEL a g bF fun d=>JO (fun m o=>B8x71 d b m o kr) fun j=>GW true d (FA n4 b fun n=>j n l) (j uU l)) fun J=>GW true a (GTR Pr 3 true f i0 fun p=>J p k) (J uU k)) fun ja=>GW true a (LD e h fun q=>ja q h) (ja uU h)
def B8x83:Ans:=JO (fun f k=>SEL a f bF fun d=>JO (fun g l=>B8x78 d b g l kr) fun j=>GW true d (FA n3 b fun m=>j m k) (j uU k)) fun J=>GW true a (EQL Pr 9 true e (.str n6 (nat_lit 11210404998707)) fun n=>J n h) (J uU h)
def F8:FX:=fun fu oR cl args l kr kp=>AR0 args <| cl n15 [(.str n33 (nat_lit 14488589977845475424764176761743833233575297252101149920416841758886978143527035))] l (fun d o=>cl n14 [d,(.str n10 (nat_lit 48204671023283088466017)),i500] o (fun e A=>NEWC (.n (some i0) (.n (some i0) (.n (some i0) .e .e) (.n (some (.nilslice)) .e .e)) (.n (some s0) (.n (some (.nilslice)) .e .e) .e)) n6 35 A fun a C=>ST n6 a e C fun h=>FA n0 a fun f=>LD f h fun g=>EQL Pr 3 true g i0 fun b=>JO (fun m k=>JO (fun n D=>B8x83 b a n D kr) fun j=>GW true b (LD m k fun p=>j p k) (j uU k)) fun J=>GW true b (FA n2 a fun q=>J q h) (J uU h)) kp) kp
theorem eqF8:F8=CF 8 0:=by kernel_rfl
def F9:FX:=fun fu oR cl args k kr kp=>AR3 args fun b d e=>ADD Pr 9 true b (.str n126 (nat_lit 1340734865582825058651034774622048084379473654246491312986527209178974086365008323383936103377834777735274787768795230845224512009233615190798328960350981633088877569865438617666959940156180721777068434732061444825937229202930610919551959997845882804824738417465812300046579169491598197310443206937162020)) fun f=>cl n7 [f,d] k (fun g h=>EQL Pr 9 false g e fun a=>JO (fun m l=>SEL a m bF fun n=>kr n l) fun j=>GW true a (cl n8 [] h j kp) (j uU h)) kp
theorem eqF9:F9=CF 9 3:=by kernel_rfl
def B13x39 (j:AV → AV → AV → Heap → Ans):Ans:=GTR Pr 3 true a i0 fun e=>IFB e (BOP Pr .quo 3 false a b fun f=>cl n17 [f] h (fun g k=>ADD Pr 9 false d g fun m=>BOP Pr .rem 3 false a b fun n=>BOP Pr .quo 3 true b i10 fun p=>j p n m k) kp) (kr d h)
def B13x40:Ans:=cl n18 [d] k (fun e h=>BOP Pr .rem 3 true e (.int .i64 (nat_lit 1000000)) fun b=>EQL Pr 3 true b i0 fun f=>IFB f (kr a h) (ADD Pr 9 true a (.str n1 n46) fun g=>LP fu (fun _ _ _ _=>Ans.no) (fun j m n p l=>B13x39 n m p l cl kr kp j) (.int .i64 (nat_lit 100000)) b g h)) kp
def B13x44:Ans:=cl n18 [a] k (fun d l=>BOP Pr .quo 3 true d (.int .i64 (nat_lit 1000000)) fun e=>cl n17 [e] l (fun b h=>JO (fun f o=>B13x40 f a o fu cl kr kp) fun j=>LSS Pr 3 true a i0 fun g=>IFB g (ADD Pr 9 true (.str n1 n45) b fun m=>j m h) (j b h)) kp) kp
def F13:FX:=fun fu oR cl args k kr kp=>AR1 args fun a=>cl n16 [a] k (fun b h=>OV (unOpA .not b) fun d=>IFB d (kr s0 h) (B13x44 a h fu cl kr kp)) kp
theorem eqF13:F13=CF 13 1:=by kernel_rfl
def B14x74:Ans:=NC d fun g=>FA n2 g fun a=>LD a h fun b=>cl n24 [f,e] h (fun m k=>LD a k fun n=>EQV b n <| BSL n61 n5 [i0,s0,(.nilslice),i0,i0] n1 [(n0,m)] k fun p l=>LD a l fun q=>EQV b q <| GEN (builtinF .append Pr [38,38] [b,p] l) cl (fun r o=>NC d fun s=>FA n2 s fun t=>ST n1 t r o fun A=>ADD Pr 3 true e i1 fun u=>j u A) kp) kp
def B14x132 (j:Heap → Ans):Ans:=OV (entryA k g) fun d=>EX n0 d fun m=>EX n1 d fun n=>NEWC (.n (some s0) (.n (some s0) (.n (some i0) .e .e) .e) (.n (some i0) .e .e)) n4 43 k fun a o=>ST n4 a m o fun A=>FA n3 a fun p=>ST n1 p n A fun h=>NC b fun q=>FA n12 q fun r=>FA n4 r fun e=>LD e h fun f=>LDN n4 a h fun s=>BSL n43 n4 [s0,s0,i0,i0] n1 [(n0,s)] h fun t l=>LD e l fun u=>EQV f u <| GEN (builtinF .append Pr [32,32] [f,t] l) cl (fun v C=>NC b fun w=>FA n12 w fun x=>FA n4 x fun y=>ST n1 y v C fun D=>j D) kp
def B14x146:Ans:=NC a fun d=>FA n12 d fun e=>FA n4 e fun f=>LD f h fun g=>cl n26 [g] h (fun r k=>NC a fun m=>FA n12 m fun n=>LDN n6 n k fun p=>ST n6 b p k fun l=>LDN n6 b l fun q=>kr q l) kp
def B14x147:Ans:=FA n0 e fun n=>LD n h fun p=>LENS p fun b=>OVH (makeSliceA Pr h 33 b b) fun q o=>NEWB h o fun b80 i81 A=>NC a fun r=>FA n12 r fun s=>FA n3 s fun t=>ST n1 t f A fun C=>NC a fun u=>FA n12 u fun v=>FA n5 v fun w=>SETB C i81 b80 fun D=>ST n1 w q D fun E=>cl n25 [a,g] E (fun aa k=>NC a fun x=>FA n5 x fun y=>LD y k fun z=>OVH (rangeA Pr k 54 z) fun d G=>LP fu (fun _=>Ans.no) (fun j H=>GEN (nextA H d false) cl (fun c l=>EX n0 c fun i=>IFB i (B14x132 a d l cl kp j) (B14x146 a m l cl kr kp)) kp) G) kp
def B14x148:Ans:=LDN n2 a h fun m=>OPVH (newMap Pr 53 h) fun n o=>OPVH (newMap Pr 54 o) fun p A=>OV (buildA Pr 59 [(n0,m),(n2,n),(n4,p)]) fun q=>BOX 59 q A fun b k=>FA n0 a fun r=>LD r k fun s=>LENS s fun t=>LP fu (fun _ _=>Ans.no) (fun j d l=>LSS Pr 3 false d t fun u=>IFB u (B14x74 b d a l j cl kp) (B14x147 b a e f g l fu cl kr kp)) i0 k
def B14x151:Ans:=JO (fun m k=>SEL b bT m fun n=>IFB n (OV (buildA Pr 35 [(n0,i13)]) fun p=>ST n6 a p k fun l=>LDN n6 a l fun q=>kr q l) (B14x148 d e f a k fu cl kr kp)) fun j=>GW false b (OV (unOpA .not g) fun r=>j r h) (j uU h)
def B14x158:Ans:=SEL d bT e fun a=>JO (fun n k=>JO (fun p l=>B14x151 f a g b m p l fu cl kr kp) fun j=>GW false a (cl n23 [n,i0,(.int .i64 (nat_lit 20000))] k j kp) (j uU k)) fun J=>GW false a (J b h) (J uU h)
def B14x165:Ans:=SEL d bT e fun a=>JO (fun n k=>JO (fun p l=>B14x158 m a p f g b l fu cl kr kp) fun j=>GW false a (cl n21 [n,(.func (.func 22) [] [])] k j kp) (j uU k)) fun J=>GW false a (J b h) (J uU h)
def F14:FX:=fun fu oR cl args A kr kp=>AR3 args fun e b f=>BOX 40 e A fun d C=>NEWC (.n (some i0) (.n (some i0) (.n (some i0) .e .e) (.n (some (.nilslice)) .e .e)) (.n (some s0) (.n (some (.nilslice)) .e .e) .e)) n6 35 C fun g D=>cl n19 [b] D (fun m h=>LDN n2 d h fun n=>cl n20 [n] h (fun p k=>OV (unOpA .not p) fun a=>JO (fun q l=>JO (fun r o=>JO (fun s E=>B14x165 m a s g d f E fu cl kr kp) fun j=>GW false a (GTR Pr 3 true r i3000 fun t=>j t o) (j uU o)) fun J=>GW false a (LENT q fun u=>J u l) (J uU l)) fun ja=>GW false a (ja b k) (ja uU k)) kp) kp
theorem eqF14:F14=CF 14 3:=by kernel_rfl
def F15:FX:=fun fu oR cl args l kr kp=>AR1 args fun e=>NEWC (.n (some (.nilslice)) (.n (some (.nilslice)) .e .e) .e) n2 40 l fun a o=>cl n27 [e] o (fun b A=>EX n0 b fun f=>EX n1 b fun n=>NEWC (.n (some (.nilslice)) (.n (some (.nilslice)) .e .e) .e) n2 40 A fun d C=>ST n2 d f C fun h=>LDN n2 d h fun g=>ST n2 a g h fun k=>LDN n2 a k fun m=>kr m k) kp
theorem eqF15:F15=CF 15 1:=by kernel_rfl
def F16:FX:=fun fu oR cl args h kr kp=>AR1 args fun b=>GEQ Pr 3 true b (.int .i64 (nat_lit 18446735073709551616)) fun a=>JO (fun d k=>JO (fun e l=>SEL a e bF fun f=>kr f l) fun j=>GW true a (LEQ Pr 3 true d (.int .i64 (nat_lit 9000000000000)) fun g=>j g k) (j uU k)) fun J=>GW true a (J b h) (J uU h)
theorem eqF16:F16=CF 16 1:=by kernel_rfl
def F17:FX:=fun fu oR cl args k kr kp=>AR1 args fun a=>BOP Pr .rem 3 true a i10 fun d=>ADD Pr 3 true i48 d fun e=>OV (convV Pr k 3 5 e) fun f=>BSL n5 n1 [(.int .u8 n0)] n1 [(n0,f)] k fun g h=>OV (convV Pr h 22 9 g) fun b=>LSS Pr 3 true a i10 fun m=>IFB m (kr b h) (BOP Pr .quo 3 true a i10 fun n=>cl n17 [n] h (fun p l=>ADD Pr 9 false p b fun q=>kr q l) kp)
theorem eqF17:F17=CF 17 1:=by kernel_rfl
def F18:FX:=fun fu oR cl args h kr kp=>AR1 args fun a=>LSS Pr 3 true a i0 fun b=>IFB b (OV (unOpA .neg a) fun d=>kr d h) (kr a h)
theorem eqF18:F18=CF 18 1:=by kernel_rfl
def F19:FX:=fun fu oR cl args h kr kp=>AR1 args fun a=>LENT a fun b=>GTR Pr 3 true b i3000 fun d=>IFB d (kr (.nilslice) h) (cl n28 [a] h kr kp)
theorem eqF19:F19=CF 19 1:=by kernel_rfl
def B20x38:Ans:=cl n30 [e] o (fun b A=>EX n0 b fun g=>EX n1 b fun m=>NEWC (.n (some (.nilslice)) (.n (some (.nilslice)) .e .e) .e) n2 40 A fun d C=>ST n2 d g C fun h=>LSS Pr 3 true m i0 fun a=>JO (fun n k=>JO (fun p l=>JO (fun q D=>SEL a q bF fun r=>kr r D) fun j=>GW true a (cl n31 [n,p] l j kp) (j uU l)) fun J=>GW true a (LDN n2 d k fun t=>J t k) (J uU k)) fun ja=>GW true a (LDN n2 f h fun u=>ja u h) (ja uU h)) kp
def F20:FX:=fun fu oR cl args l kr kp=>AR1 args fun d=>BOX 40 d l fun a h=>LDN n2 a h fun e=>cl n29 [e] h (fun b k=>EX n0 b fun f=>EX n1 b fun g=>OV (unOpA .not g) fun m=>IFB m (kr bF k) (B20x38 f a k cl kr kp)) kp
theorem eqF20:F20=CF 20 1:=by kernel_rfl
def F21:FX:=fun fu oR cl args h kr kp=>AR2 args fun a b=>cl n32 [a,b] h (fun d k=>GEQ Pr 3 true d i0 fun e=>kr e k) kp
theorem eqF21:F21=CF 21 2:=by kernel_rfl
def F22:FX:=fun fu oR cl args h kr kp=>AR1 args fun a=>LENT a fun b=>GTR Pr 3 true b i500 fun d=>kr d h
theorem eqF22:F22=CF 22 1:=by kernel_rfl
def F23:FX:=fun fu oR cl args h kr kp=>AR3 args fun b d e=>GEQ Pr 3 false b d fun a=>JO (fun f k=>JO (fun g l=>JO (fun m o=>SEL a m bF fun n=>kr n o) fun j=>GW true a (LEQ Pr 3 false f g fun p=>j p l) (j uU l)) fun J=>GW true a (J e k) (J uU k)) fun ja=>GW true a (ja b h) (ja uU h)
theorem eqF23:F23=CF 23 3:=by kernel_rfl
def F24:FX:=fun fu oR cl args o kr kp=>AR2 args fun a f=>BOX 3 f o fun g A=>NEWC (.n (some i0) (.n (some s0) (.n (some i0) .e .e) .e) (.n (some (.nilslice)) (.n (some i0) .e .e) .e)) n5 61 A fun b h=>NC a fun m=>FA n1 m fun d=>LD d h fun e=>NC a fun n=>FA n1 n fun p=>LD p h fun q=>cl n33 [q,(.func (.func 34) [] [g])] h (fun r k=>LD d k fun s=>EQV e s <| SA n5 e r fun t=>LDN n5 t k fun u=>ST n5 b u k fun l=>LDN n5 b l fun v=>kr v l) kp
theorem eqF24:F24=CF 24 2:=by kernel_rfl
def B25x54 (d18:Dfr) (j:AV → Heap → Dfr → Ans):Ans:=SA n1 m d fun n=>LD n h fun e=>LD a h fun f=>NC f fun p=>FA n8 p fun q=>LD q h fun r=>ADD Pr 3 true r i1 fun s=>NC f fun t=>FA n8 t fun u=>ST n1 u s h fun k=>LD a k fun g=>LD a k fun b=>cl n37 [e] k (fun v l=>LD a l fun w=>EQV b w <| LD a l fun x=>EQV g x <| NC g fun y=>FA n6 y fun z=>ST n1 z e l fun A=>LD a A fun c=>EQV b c <| NC b fun i=>FA n7 i fun aa=>ST n1 aa v A fun C=>LD a C fun ab=>BSL n3 n1 [i0,i0] n2 [(n0,i2),(n1,i3)] C fun ac E=>cl n36 [ab,ac] E (fun ad o=>IFB ad (ENDD d18 (kr (.tuple []) o) (SLOW Pr oR 25 [] d18 .returning o kr kp)) (ADD Pr 3 true d i1 fun ae=>j ae o d18)) (fun c51 D=>ENDD d18 (kp c51 D) (SLOW Pr oR 25 [] d18 (.panicking c51) D kr kp))) (fun c35 G=>ENDD d18 (kp c35 G) (Ans.no))
def B25x62 (d18:Dfr):Ans:=LD a h fun b=>BSL n3 n1 [i0] n1 [(n0,i1)] h fun d o=>cl n36 [b,d] o (fun e k=>ENDD d18 (kr (.tuple []) k) (SLOW Pr oR 25 [] d18 .returning k kr kp)) (fun c60 l=>ENDD d18 (kp c60 l) (SLOW Pr oR 25 [] d18 (.panicking c60) l kr kp))
def F25:FX:=fun fu oR cl args A kr kp=>AR2 args fun e b=>BOX 52 e A fun a C=>GDF (dfrV (some (.func (.func 35) [] [a])) [] C) fun i5 a6 k=>LD a k fun f=>BSL n3 n1 [i0] n1 [(n0,i0)] k fun g D=>cl n36 [f,g] D (fun m h=>IFB m (ENDD ((i5,a6) :: []) (kr (.tuple []) h) (SLOW Pr oR 25 [] ((i5,a6) :: []) .returning h kr kp)) (LENS b fun n=>LP fu (fun _ _ _=>Ans.no) (fun j d l d18=>LSS Pr 3 false d n fun p=>IFB p (B25x54 a d b l oR cl kr kp d18 j) (B25x62 a l oR cl kr kp d18)) i0 h ((i5,a6) :: []))) (fun c13 o=>ENDD ((i5,a6) :: []) (kp c13 o) (SLOW Pr oR 25 [] ((i5,a6) :: []) (.panicking c13) o kr kp))
theorem eqF25:F25=CF 25 2:=by kernel_rfl
def F26:FX:=fun fu oR cl args h kr kp=>AR1 args fun a=>cl n38 [a,(.func (.func 39) [] [])] h (fun b k=>kr (.tuple []) k) kp
theorem eqF26:F26=CF 26 1:=by kernel_rfl
def B27x53:Ans:=cl n43 [d] o (fun b A=>EX n0 b fun g=>EX n1 b fun m=>NEWC (.n (some (.nilslice)) (.n (some (.nilslice)) .e .e) .e) n2 40 A fun n C=>ST n2 n g C fun h=>GEQ Pr 3 true m i0 fun p=>IFB p (OV (buildA Pr 40 []) fun q=>LENT e fun r=>ST n2 a q h fun k=>LDN n2 a k fun s=>kr (.tuple [s,r]) k) (LDN n2 f h fun t=>ST n2 a t h fun l=>LDN n2 a l fun u=>kr (.tuple [u,(.int .i64 (nat_lit 18446744073709551615))]) l)) kp
def B27x54:Ans:=LDN n2 b h fun f=>cl n44 [f] h (fun e k=>LENT e fun g=>GTR Pr 3 true g i4000 fun m=>IFB m (OV (buildA Pr 40 []) fun n=>LENT d fun p=>ST n2 a n k fun l=>LDN n2 a l fun q=>kr (.tuple [q,p]) l) (B27x53 a e d b k cl kr kp)) kp
def B27x55:Ans:=FA n0 b fun e=>LD e h fun f=>LENS f fun g=>GTR Pr 3 true g i800 fun m=>IFB m (OV (buildA Pr 40 []) fun n=>LENT d fun p=>ST n2 a n h fun k=>LDN n2 a k fun q=>kr (.tuple [q,p]) k) (B27x54 a b d h cl kr kp)
def F27:FX:=fun fu oR cl args l kr kp=>AR1 args fun b=>NEWC (.n (some (.nilslice)) (.n (some (.nilslice)) .e .e) .e) n2 40 l fun a o=>cl n43 [b] o (fun d A=>EX n0 d fun g=>EX n1 d fun e=>NEWC (.n (some (.nilslice)) (.n (some (.nilslice)) .e .e) .e) n2 40 A fun f C=>ST n2 f g C fun h=>GEQ Pr 3 true e i0 fun m=>IFB m (OV (buildA Pr 40 []) fun n=>ST n2 a n h fun k=>LDN n2 a k fun p=>kr (.tuple [p,e]) k) (B27x55 a f b h cl kr kp)) kp
theorem eqF27:F27=CF 27 1:=by kernel_rfl
def F28:FX:=fun fu oR cl args k kr kp=>AR1 args fun d=>cl n45 [d,(.str n1 n10)] k (fun a h=>JO kr fun j=>LENS a fun f=>SUB Pr 3 true f i1 fun b=>SA n1 a b fun g=>LD g h fun m=>EQL Pr 9 true m s0 fun n=>IFB n (OV (sliceA Pr 46 a none (some b) none) fun p=>j p h) (j a h)) kp
theorem eqF28:F28=CF 28 1:=by kernel_rfl
def B29x29:Ans:=SA n5 e a fun f=>LDN n5 f k fun g=>NEWC (.n (some i0) (.n (some s0) (.n (some i0) .e .e) .e) (.n (some (.nilslice)) (.n (some i0) .e .e) .e)) n5 61 k fun d o=>ST n5 d g o fun l=>LDN n5 d l fun m=>cl n46 [b,m] l (fun s h=>NC b fun n=>FA n4 n fun p=>LD p h fun q=>IFB q (kr (.tuple [s0,bF]) h) (ADD Pr 3 true a i1 fun r=>j r h)) kp
def F29:FX:=fun fu oR cl args o kr kp=>AR1 args fun f=>BOX 40 f o fun a h=>LDN n2 a h fun g=>OV (buildA Pr 88 [(n0,g)]) fun m=>BOX 88 m h fun b k=>FA n1 a fun n=>LD n k fun d=>LENS d fun p=>LP fu (fun _ _=>Ans.no) (fun j e l=>LSS Pr 3 false e p fun q=>IFB q (B29x29 e b d l j cl kr kp) (NC b fun r=>FA n2 r fun s=>cl n47 [s] l (fun t A=>kr (.tuple [t,bT]) A) kp)) i0 k
theorem eqF29:F29=CF 29 1:=by kernel_rfl
def B30x46:Ans:=cl n48 [d] o (fun b A=>EX n0 b fun g=>EX n1 b fun m=>NEWC (.n (some (.nilslice)) (.n (some (.nilslice)) .e .e) .e) n2 40 A fun n C=>ST n2 n g C fun h=>GEQ Pr 3 true m i0 fun p=>IFB p (OV (buildA Pr 40 []) fun q=>LENT e fun r=>ST n2 a q h fun k=>LDN n2 a k fun s=>kr (.tuple [s,r]) k) (LDN n2 f h fun t=>ST n2 a t h fun l=>LDN n2 a l fun u=>kr (.tuple [u,(.int .i64 (nat_lit 18446744073709551615))]) l)) kp
def B30x47:Ans:=LDN n2 b h fun f=>cl n29 [f] h (fun e k=>EX n0 e fun g=>EX n1 e fun m=>OV (unOpA .not m) fun n=>IFB n (OV (buildA Pr 40 []) fun p=>LENT d fun q=>ST n2 a p k fun l=>LDN n2 a l fun r=>kr (.tuple [r,q]) l) (B30x46 a g d b k cl kr kp)) kp
def F30:FX:=fun fu oR cl args l kr kp=>AR1 args fun b=>NEWC (.n (some (.nilslice)) (.n (some (.nilslice)) .e .e) .e) n2 40 l fun a o=>cl n48 [b] o (fun d A=>EX n0 d fun g=>EX n1 d fun e=>NEWC (.n (some (.nilslice)) (.n (some (.nilslice)) .e .e) .e) n2 40 A fun f C=>ST n2 f g C fun h=>GEQ Pr 3 true e i0 fun m=>IFB m (OV (buildA Pr 40 []) fun n=>ST n2 a n h fun k=>LDN n2 a k fun p=>kr (.tuple [p,e]) k) (B30x47 a f b h cl kr kp)) kp
theorem eqF30:F30=CF 30 1:=by kernel_rfl
def B31x35:Ans:=JO (fun e h=>JO (fun f l=>JO (fun g o=>SEL a g bF fun m=>kr m o) fun j=>GW true a (cl n52 [b,f,(.func (.func 53) [] [])] l j kp) (j uU l)) fun J=>GW true a (LD e h fun p=>J p h) (J uU h)) fun ja=>GW true a (FA n1 d fun q=>ja q k) (ja uU k)
def F31:FX:=fun fu oR cl args o kr kp=>AR2 args fun e f=>BOX 40 e o fun b A=>BOX 40 f A fun d h=>FA n0 b fun g=>LD g h fun m=>FA n0 d fun n=>LD n h fun p=>cl n49 [m,p,(.func (.func 50) [] [])] h (fun a l=>JO (fun q k=>JO (fun r C=>B31x35 a r d C cl kr kp) fun j=>GW true a (LD q k fun s=>j s k) (j uU k)) fun J=>GW true a (FA n1 b fun t=>J t l) (J uU l)) kp
theorem eqF31:F31=CF 31 2:=by kernel_rfl
def F32:FX:=fun fu oR cl args l kr kp=>AR2 args fun b d=>LENS b fun e=>LP fu (fun _ _=>Ans.no) (fun j a h=>LSS Pr 3 false a e fun f=>IFB f (SA n1 b a fun g=>LD g h fun m=>GEN (callV Pr (some d) [m] h) cl (fun n k=>IFB n (kr a k) (ADD Pr 3 true a i1 fun p=>j p k)) kp) (kr (.int .i64 (nat_lit 18446744073709551615)) h)) i0 l
theorem eqF32:F32=CF 32 2:=by kernel_rfl
def F33:FX:=fun fu oR cl args l kr kp=>AR2 args fun b d=>LENS b fun e=>LP fu (fun _ _=>Ans.no) (fun j a h=>LSS Pr 3 false a e fun f=>IFB f (SA n5 b a fun g=>LDN n5 g h fun m=>GEN (callV Pr (some d) [m] h) cl (fun n k=>IFB n (kr a k) (ADD Pr 3 true a i1 fun p=>j p k)) kp) (kr (.int .i64 (nat_lit 18446744073709551615)) h)) i0 l
theorem eqF33:F33=CF 33 2:=by kernel_rfl
def F34:FX:=fun fu oR cl args k kr kp=>AR2 args fun a b=>BOX 61 a k fun d h=>FA n4 d fun e=>LD e h fun f=>LD b h fun g=>GEQ Pr 3 false f g fun m=>kr m h
theorem eqF34:F34=CF 34 2:=by kernel_rfl
def B36x44 (ja:Heap → Ans):Ans:=EQL Pr 3 true b i4 fun a=>JO (fun e k=>JO (fun f l=>SEL a f bF fun g=>IFB g (kr bF l) (ja l)) fun j=>GW true a (cl n55 [e,i2] k j kp) (j uU k)) fun J=>GW true a (J d h) (J uU h)
def B36x53 (J:Heap → Ans):Ans:=JO (fun b k=>EQL Pr 3 true b i5 fun g=>IFB g (kr bT k) (B36x44 b d k cl kr kp J)) fun j=>EQL Pr 3 true a i0 fun m=>IFB m (FA n4 e fun n=>LD n h fun p=>cl n57 [f,p] h j kp) (j a h)
def B36x75 (ja:Heap → Ans):Ans:=FA n3 e fun g=>LD g h fun m=>cl n56 [f,m] h (fun b k=>EX n0 b fun n=>EX n1 b fun d=>EQL Pr 3 true d i0 fun a=>JO (fun p l=>JO (fun q o=>SEL a q bF fun r=>IFB r (ja o) (jb d o)) fun j=>GW true a (OV (unOpA .not p) fun s=>j s l) (j uU l)) fun J=>GW true a (J n k) (J uU k)) kp
def B36x76:Ans:=JO (fun o=>ADD Pr 3 true b i1 fun g=>ja g o) fun j=>SA n5 f b fun m=>LDN n5 m k fun n=>NEWC (.n (some i0) (.n (some s0) (.n (some i0) .e .e) .e) (.n (some (.nilslice)) (.n (some i0) .e .e) .e)) n5 61 k fun a A=>ST n5 a n A fun l=>FA n0 a fun p=>LD p l fun q=>cl n55 [d,q] l (fun r h=>OV (unOpA .not r) fun s=>IFB s (j h) (JO (fun t C=>B36x53 t d a e C cl kr kp j) fun J=>FA n0 a fun u=>LD u h fun v=>EQL Pr 3 true v i3 fun w=>IFB w (B36x75 a e h J cl kp j) (J i0 h))) kp
def F36:FX:=fun fu oR cl args h kr kp=>AR2 args fun a e=>NC a fun f=>FA n0 f fun g=>FA n1 g fun m=>LD m h fun b=>LENS b fun n=>LP fu (fun _ _=>Ans.no) (fun j d k=>LSS Pr 3 false d n fun p=>IFB p (B36x76 d e a b k j cl kr kp) (kr bF k)) i0 h
theorem eqF36:F36=CF 36 2:=by kernel_rfl
def F37:FX:=fun fu oR cl args h kr kp=>AR1 args fun a=>LENT a fun d=>GTR Pr 3 true d i500 fun e=>IFB e (kr (.nilslice) h) (cl n58 [a,(.func (.func 59) [] [])] h (fun b k=>LENS b fun f=>OPV (builtinF .min Pr [3,3] [f,i50] k) fun g=>OV (sliceA Pr 46 b none (some g) none) fun m=>kr m k) kp)
theorem eqF37:F37=CF 37 1:=by kernel_rfl
def F38:FX:=fun fu oR cl args h kr kp=>AR2 args fun a d=>LENS a fun b=>OV (convV Pr h 3 107 b) fun e=>cl n61 [e] h (fun f k=>cl n60 [a,i0,b,f,d] k (fun g l=>kr (.tuple []) l) kp) kp
theorem eqF38:F38=CF 38 2:=by kernel_rfl
def F42:FX:=fun fu oR cl args k kr kp=>AR2 args fun a b=>cl n63 [a] k (fun e l=>cl n63 [b] l (fun d h=>IFB e (IFB d (kr i0 h) (kr (.int .i64 (nat_lit 18446744073709551615)) h)) (IFB d (kr i1 h) (LSS Pr 3 false a b fun f=>IFB f (kr (.int .i64 (nat_lit 18446744073709551615)) h) (GTR Pr 3 false a b fun g=>IFB g (kr i1 h) (kr i0 h))))) kp) kp
theorem eqF42:F42=CF 42 2:=by kernel_rfl
def B43x51 (j:Heap → Ans):Ans:=cl n65 [a] k (fun d l=>NEWC (.n (some i0) (.n (some s0) (.n (some i0) .e .e) .e) (.n (some (.nilslice)) (.n (some i0) .e .e) .e)) n5 61 l fun b o=>ST n5 b d o fun h=>FA n3 a fun e=>FA n1 e fun f=>LD f h fun g=>LDN n5 b h fun m=>BSL n61 n5 [i0,s0,(.nilslice),i0,i0] n1 [(n0,m)] h fun n A=>GEN (builtinF .append Pr [38,38] [g,n] A) cl (fun p C=>FA n3 a fun q=>FA n1 q fun r=>ST n1 r p C fun D=>j D) kp) kp
def B43x68:Ans:=OV (buildA Pr 40 []) fun n=>FA n1 g fun b=>LD b k fun d=>SA n4 m d fun p=>FA n3 p fun e=>LD e k fun f=>ST n2 a n k fun h=>LD e h fun q=>EQV f q <| LD b h fun r=>EQV d r <| LDN n2 a h fun s=>kr (.tuple [s,f]) h
def B43x77:Ans:=FA n5 b fun f=>LD f h fun g=>IFB g (FA n1 b fun m=>LD m h fun n=>LENS d fun p=>LSS Pr 3 false n p fun q=>IFB q (B43x68 a b d h kr) (OV (buildA Pr 40 []) fun r=>LENT e fun s=>ST n2 a r h fun k=>LDN n2 a k fun t=>kr (.tuple [t,s]) k)) (FA n3 b fun u=>LDN n2 u h fun v=>ST n2 a v h fun l=>LDN n2 a l fun w=>kr (.tuple [w,(.int .i64 (nat_lit 18446744073709551615))]) l)
def B43x82 (ja:Heap → Ans):Ans:=JO (fun m k=>JO (fun n l=>SEL a n bF fun p=>IFB p (B43x51 b l cl kp ja) (B43x77 e b d f l kr)) fun j=>GW true a (OV (unOpA .not m) fun q=>j q k) (j uU k)) fun J=>GW true a (LD g h fun r=>J r h) (J uU h)
def B43x85:Ans:=OV (buildA Pr 112 [(n0,b)]) fun g=>NEWC (.n (some (.nilslice)) (.n (some i0) (.n (some (.nilslice)) .e .e) (.n (some bF) .e .e)) (.n (some i0) (.n (some (.nilslice)) .e .e) .e)) n6 112 k fun a l=>ST n6 a g l fun o=>LP fu (fun _=>Ans.no) (fun J h=>FA n1 a fun m=>LD m h fun n=>LENS b fun p=>LSS Pr 3 false n p fun d=>JO (fun q A=>B43x82 d a b e f q A cl kr kp J) fun j=>GW true d (FA n5 a fun r=>j r h) (j uU h)) o
def F43:FX:=fun fu oR cl args l kr kp=>AR1 args fun b=>NEWC (.n (some (.nilslice)) (.n (some (.nilslice)) .e .e) .e) n2 40 l fun a o=>cl n64 [b] o (fun d h=>EX n0 d fun f=>EX n1 d fun e=>GEQ Pr 3 true e i0 fun g=>IFB g (OV (buildA Pr 40 []) fun m=>ST n2 a m h fun k=>LDN n2 a k fun n=>kr (.tuple [n,e]) k) (B43x85 f a b h fu cl kr kp)) kp
theorem eqF43:F43=CF 43 1:=by kernel_rfl
def B44x30 (j:AV → AV → Heap → Ans):Ans:=LDN n2 a h fun e=>FA n1 a fun f=>LD f h fun g=>SA n5 g b fun m=>LDN n5 m h fun n=>cl n66 [e,n] h (fun p k=>ADD Pr 9 false d p fun q=>ADD Pr 3 true b i1 fun r=>j r q k) kp
def B44x35 (ja:AV → AV → Heap → Ans):Ans:=JO (fun g k=>JO (fun m l=>SEL a m bF fun n=>IFB n (B44x30 d e b l cl kp ja) (kr b l)) fun j=>GW true a (LEQ Pr 3 true g i4000 fun p=>j p k) (j uU k)) fun J=>GW true a (LENT f fun q=>J q h) (J uU h)
def F44:FX:=fun fu oR cl args k kr kp=>AR1 args fun f=>BOX 40 f k fun a l=>LP fu (fun _ _ _=>Ans.no) (fun J b d h=>FA n1 a fun g=>LD g h fun m=>LENS m fun n=>LSS Pr 3 false b n fun e=>JO (fun p o=>B44x35 e d a b p o cl kr kp J) fun j=>GW true e (j d h) (j uU h)) i0 s0 l
theorem eqF44:F44=CF 44 1:=by kernel_rfl
def F45:FX:=fun fu oR cl args h kr kp=>AR2 args fun a b=>cl n67 [a,b,i0,(.int .i64 (nat_lit 18446744073709551615))] h kr kp
theorem eqF45:F45=CF 45 2:=by kernel_rfl
def B46x25:Ans:=FA n4 b fun d=>LD d h fun e=>cl n71 [a,e] h (fun g k=>BSL n9 n1 [s0] n1 [(n0,(.str n1 n10))] k fun f l=>cl n68 [a,f] l (fun m o=>kr (.tuple []) o) kp) kp
def B46x71 (j:Heap → Ans):Ans:=FA n1 a fun b=>LD b h fun d=>FA n2 a fun f=>LD f h fun g=>cl n70 [g,(.str n2 n8236)] h (fun m k=>LD b k fun n=>EQV d n <| BSL n9 n1 [s0,s0,s0,s0,s0] n5 [(n0,(.str n9 (nat_lit 598253505373897913702))),(n1,d),(n2,(.str n1 n40)),(n3,m),(n4,(.str n2 n8233))] k fun p l=>cl n68 [e,p] l (fun q o=>j o) kp) kp
def B46x75 (j:Heap → Ans):Ans:=EQL Pr 3 true b i3 fun e=>IFB e (FA n3 d fun f=>LD f h fun g=>cl n69 [a,g] h (fun r k=>BSL n9 n1 [s0] n1 [(n0,(.str n1 n32))] k fun m l=>cl n68 [a,m] l (fun s o=>j o) kp) kp) (EQL Pr 3 true b i4 fun n=>IFB n (B46x71 d a h cl kp j) (NC a fun p=>FA n4 p fun q=>ST n1 q bT h fun A=>j A))
def B46x76 (j:Heap → Ans):Ans:=EQL Pr 3 true a i1 fun e=>IFB e (BSL n9 n1 [s0] n1 [(n0,(.str n4 (nat_lit 541347397)))] h fun f k=>cl n68 [b,f] k (fun m l=>j l) kp) (EQL Pr 3 true a i2 fun g=>IFB g (j h) (B46x75 b a d h cl kp j))
def B46x77:Ans:=FA n0 a fun e=>LD e h fun d=>JO (fun k=>B46x25 b a k cl kr kp) fun j=>EQL Pr 3 true d i0 fun f=>IFB f (BSL n9 n1 [s0] n1 [(n0,(.str n6 (nat_lit 35520608945474)))] h fun g l=>cl n68 [b,g] l (fun m o=>j o) kp) (B46x76 d b a h cl kp j)
def B46x134:Ans:=JO (fun e k=>JO (fun f l=>SEL a bT f fun g=>ja g l) fun j=>GW false a (NEQ Pr 4 false b e fun m=>j m k) (j uU k)) fun J=>GW false a (EQL Pr 3 true d i3 fun n=>J n h) (J uU h)
def B46x141:Ans:=JO (fun e l=>JO (fun f h=>JO (fun g o=>B46x134 a e g o jb) fun j=>GW false a (LD f h fun m=>j m h) (j uU h)) fun J=>GW false a (FA n0 b fun n=>J n l) (J uU l)) fun ja=>GW false a (GEQ Pr 3 true d i0 fun p=>ja p k) (ja uU k)
def B46x148:Ans:=JO (fun f l=>SEL b bT f fun a=>JO (fun g h=>JO (fun m o=>B46x141 a d m o jb) fun j=>GW false a (LD g h fun n=>j n h) (j uU h)) fun J=>GW false a (FA n3 d fun p=>J p l) (J uU l)) fun ja=>GW false b (OV (unOpA .not e) fun q=>ja q k) (ja uU k)
def B46x156:Ans:=JO (fun f k=>JO (fun g l=>B46x148 a b g l ja) fun j=>GW false a (cl n23 [d,(.int .i64 (nat_lit 18446744073709551615)),f] k j kp) (j uU k)) fun J=>GW false a (SUB Pr 3 true e i1 fun n=>J n h) (J uU h)
def B46x163:Ans:=JO (fun f h=>JO (fun g l=>JO (fun m o=>B46x156 a b d m o jb cl kp) fun j=>GW false a (LENS g fun n=>j n l) (j uU l)) fun J=>GW false a (LD f h fun p=>J p h) (J uU h)) fun ja=>GW false a (FA n0 e fun q=>ja q k) (ja uU k)
def B46x169:Ans:=JO (fun f k=>JO (fun g l=>JO (fun m o=>B46x163 a b d m o jb cl kp) fun j=>GW false a (FA n0 g fun n=>j n l) (j uU l)) fun J=>GW false a (NC f fun p=>J p k) (J uU k)) fun ja=>GW false a (ja e h) (ja uU h)
def F46:FX:=fun fu oR cl args A kr kp=>AR2 args fun a e=>BOX 61 e A fun b h=>JO (fun f l=>IFB f (NC a fun g=>FA n4 g fun m=>ST n1 m bT l fun C=>kr (.tuple []) C) (B46x77 b a l cl kr kp)) fun ja=>FA n4 b fun n=>LD n h fun p=>NC a fun q=>FA n0 q fun r=>FA n0 r fun s=>LD s h fun t=>LENS t fun u=>SUB Pr 3 true u i1 fun v=>cl n23 [p,i0,v] h (fun w o=>OV (unOpA .not w) fun d=>JO (fun x k=>JO (fun y D=>B46x169 d b y a D ja cl kp) fun j=>GW false d (LD x k fun z=>j z k) (j uU k)) fun J=>GW false d (FA n3 b fun c=>J c o) (J uU o)) kp
theorem eqF46:F46=CF 46 2:=by kernel_rfl
def F47:FX:=fun fu oR cl args h kr kp=>AR1 args fun a=>NC a fun b=>FA n1 b fun d=>LD d h fun e=>OPV (builtinF .unsafeSliceData Pr [22] [e] h) fun f=>NC a fun g=>FA n1 g fun m=>LD m h fun n=>LENS n fun p=>GEN (builtinF .unsafeString Pr [122,3] [f,p] h) cl kr kp
theorem eqF47:F47=CF 47 1:=by kernel_rfl
def B48x41 (i22:Nat) (a23:List AV):Ans:=OV (buildA Pr 40 []) fun e=>LENT d fun f=>ST n2 a e k fun l=>ST n1 b f l fun h=>ENDD ((i22,a23) :: []) (LDN n2 a h fun g=>LD b h fun m=>kr (.tuple [g,m]) h) (SLOW Pr oR 48 [(2,a),(3,b)] ((i22,a23) :: []) .returning h kr kp)
def B48x49 (i22:Nat) (a23:List AV):Ans:=NC d fun e=>FA n4 e fun f=>LDN n2 f k fun g=>ST n2 a g k fun l=>ST n1 b (.int .i64 (nat_lit 18446744073709551615)) l fun h=>ENDD ((i22,a23) :: []) (LDN n2 a h fun m=>LD b h fun n=>kr (.tuple [m,n]) h) (SLOW Pr oR 48 [(2,a),(3,b)] ((i22,a23) :: []) .returning h kr kp)
def B48x50:Ans:=LENT e fun g=>OV (buildA Pr 125 [(n0,f),(n2,g)]) fun m=>BOX 125 m l fun d o=>GDF (dfrV (some (.func (.func 73) [] [a,b])) [] o) fun i22 a23 A=>cl n74 [d] A (fun u h=>NC d fun n=>FA n4 n fun p=>FA n0 p fun q=>LD q h fun r=>LENS r fun s=>GTR Pr 3 true s i800 fun t=>IFB t (B48x41 a b e h oR kr kp i22 a23) (B48x49 a b d h oR kr kp i22 a23)) (fun c27 k=>ENDD ((i22,a23) :: []) (kp c27 k) (SLOW Pr oR 48 [(2,a),(3,b)] ((i22,a23) :: []) (.panicking c27) k kr kp))
def F48:FX:=fun fu oR cl args l kr kp=>AR1 args fun d=>NEWC (.n (some (.nilslice)) (.n (some (.nilslice)) .e .e) .e) n2 40 l fun a o=>NEWC (.n (some i0) .e .e) n1 3 o fun b A=>cl n72 [d] A (fun e k=>EX n0 e fun g=>EX n1 e fun f=>GEQ Pr 3 true f i0 fun m=>IFB m (OV (buildA Pr 40 []) fun n=>ST n2 a n k fun C=>ST n1 b f C fun h=>LDN n2 a h fun p=>LD b h fun q=>kr (.tuple [p,q]) h) (B48x50 a b d g k oR cl kr kp)) kp
theorem eqF48:F48=CF 48 1:=by kernel_rfl
def B49x30:Ans:=SA n5 e a fun m=>LDN n5 m k fun n=>NEWC (.n (some i0) (.n (some s0) (.n (some i0) .e .e) .e) (.n (some s0) (.n (some (.nilslice)) .e .e) .e)) n5 94 k fun b A=>ST n5 b n A fun l=>SA n5 f a fun p=>LDN n5 p l fun q=>NEWC (.n (some i0) (.n (some s0) (.n (some i0) .e .e) .e) (.n (some s0) (.n (some (.nilslice)) .e .e) .e)) n5 94 l fun d C=>ST n5 d q C fun h=>LDN n5 b h fun r=>LDN n5 d h fun s=>GEN (callV Pr (some g) [r,s] h) cl (fun t o=>OV (unOpA .not t) fun u=>IFB u (kr bF o) (ADD Pr 3 true a i1 fun v=>j v o)) kp
def F49:FX:=fun fu oR cl args h kr kp=>AR3 args fun a b e=>LENS a fun f=>LENS b fun g=>NEQ Pr 3 false f g fun m=>IFB m (kr bF h) (LENS a fun n=>LP fu (fun _ _=>Ans.no) (fun j d k=>LSS Pr 3 false d n fun p=>IFB p (B49x30 d a b e k j cl kr kp) (kr bT k)) i0 h)
theorem eqF49:F49=CF 49 3:=by kernel_rfl
def B50x65:Ans:=JO (fun e h=>JO (fun f l=>JO (fun g o=>SEL a g bF fun m=>kr m o) fun j=>GW true a (cl n51 [b,f] l j kp) (j uU l)) fun J=>GW true a (LD e h fun p=>J p h) (J uU h)) fun ja=>GW true a (FA n4 d fun q=>ja q k) (ja uU k)
def B50x72:Ans:=JO (fun m l=>SEL b m bF fun a=>JO (fun n h=>JO (fun p o=>B50x65 a p d o cl kr kp) fun j=>GW true a (LD n h fun q=>j q h) (j uU h)) fun J=>GW true a (FA n4 e fun r=>J r l) (J uU l)) fun ja=>GW true b (EQL Pr 3 false f g fun s=>ja s k) (ja uU k)
def B50x79:Ans:=JO (fun f l=>JO (fun g k=>JO (fun m o=>B50x72 a b d f m o cl kr kp) fun j=>GW true a (LD g k fun n=>j n k) (j uU k)) fun J=>GW true a (FA n3 b fun p=>J p l) (J uU l)) fun ja=>GW true a (LD e h fun q=>ja q h) (ja uU h)
def B50x86:Ans:=JO (fun m k=>JO (fun n l=>SEL a n bF fun d=>JO (fun p o=>B50x79 d e b p o cl kr kp) fun j=>GW true d (FA n3 b fun q=>j q l) (j uU l)) fun J=>GW true a (EQL Pr 9 false f m fun r=>J r k) (J uU k)) fun ja=>GW true a (LD g h fun s=>ja s h) (ja uU h)
def B50x93:Ans:=SEL e f bF fun a=>JO (fun g h=>JO (fun m l=>JO (fun n o=>B50x86 a d b m n o cl kr kp) fun j=>GW true a (FA n2 b fun p=>j p l) (j uU l)) fun J=>GW true a (LD g h fun q=>J q h) (J uU h)) fun ja=>GW true a (FA n2 d fun r=>ja r k) (ja uU k)
def B50x100:Ans:=JO (fun f h=>JO (fun g l=>JO (fun m o=>B50x93 b d a m o cl kr kp) fun j=>GW true a (EQL Pr 9 false e g fun n=>j n l) (j uU l)) fun J=>GW true a (LD f h fun p=>J p h) (J uU h)) fun ja=>GW true a (FA n1 b fun q=>ja q k) (ja uU k)
def F50:FX:=fun fu oR cl args l kr kp=>AR2 args fun e f=>BOX 94 e l fun a o=>BOX 94 f o fun d h=>FA n0 a fun g=>LD g h fun m=>FA n0 d fun n=>LD n h fun p=>EQL Pr 3 false m p fun b=>JO (fun q k=>JO (fun r A=>B50x100 b d a r A cl kr kp) fun j=>GW true b (LD q k fun s=>j s k) (j uU k)) fun J=>GW true b (FA n1 a fun t=>J t h) (J uU h)
theorem eqF50:F50=CF 50 2:=by kernel_rfl
def B51x17:Ans:=LENS b fun e=>LP fu (fun _ _=>Ans.no) (fun j a h=>LSS Pr 3 false a e fun f=>IFB f (SA n1 b a fun g=>LD g h fun m=>SA n1 d a fun n=>LD n h fun p=>NEQ Pr 3 false m p fun q=>IFB q (kr bF h) (ADD Pr 3 true a i1 fun r=>j r h)) (kr bT h)) i0 k
def F51:FX:=fun fu oR cl args h kr kp=>AR2 args fun a b=>LENS a fun d=>LENS b fun e=>NEQ Pr 3 false d e fun f=>IFB f (kr bF h) (B51x17 a b h fu kr)
theorem eqF51:F51=CF 51 2:=by kernel_rfl
def B52x30:Ans:=SA n5 e a fun m=>LDN n5 m k fun n=>NEWC (.n (some i0) (.n (some s0) (.n (some i0) .e .e) .e) (.n (some (.nilslice)) (.n (some i0) .e .e) .e)) n5 61 k fun b A=>ST n5 b n A fun l=>SA n5 f a fun p=>LDN n5 p l fun q=>NEWC (.n (some i0) (.n (some s0) (.n (some i0) .e .e) .e) (.n (some (.nilslice)) (.n (some i0) .e .e) .e)) n5 61 l fun d C=>ST n5 d q C fun h=>LDN n5 b h fun r=>LDN n5 d h fun s=>GEN (callV Pr (some g) [r,s] h) cl (fun t o=>OV (unOpA .not t) fun u=>IFB u (kr bF o) (ADD Pr 3 true a i1 fun v=>j v o)) kp
def F52:FX:=fun fu oR cl args h kr kp=>AR3 args fun a b e=>LENS a fun f=>LENS b fun g=>NEQ Pr 3 false f g fun m=>IFB m (kr bF h) (LENS a fun n=>LP fu (fun _ _=>Ans.no) (fun j d k=>LSS Pr 3 false d n fun p=>IFB p (B52x30 d a b e k j cl kr kp) (kr bT k)) i0 h)
theorem eqF52:F52=CF 52 3:=by kernel_rfl
def B53x62:Ans:=JO (fun e h=>JO (fun f l=>JO (fun g o=>SEL a g bF fun m=>kr m o) fun j=>GW true a (EQL Pr 3 false b f fun n=>j n l) (j uU l)) fun J=>GW true a (LD e h fun p=>J p h) (J uU h)) fun ja=>GW true a (FA n4 d fun q=>ja q k) (ja uU k)
def B53x69:Ans:=JO (fun m l=>SEL b m bF fun a=>JO (fun n h=>JO (fun p o=>B53x62 a p d o kr) fun j=>GW true a (LD n h fun q=>j q h) (j uU h)) fun J=>GW true a (FA n4 e fun r=>J r l) (J uU l)) fun ja=>GW true b (EQL Pr 3 false f g fun s=>ja s k) (ja uU k)
def B53x76:Ans:=JO (fun f l=>JO (fun g k=>JO (fun m o=>B53x69 a b d f m o kr) fun j=>GW true a (LD g k fun n=>j n k) (j uU k)) fun J=>GW true a (FA n3 b fun p=>J p l) (J uU l)) fun ja=>GW true a (LD e h fun q=>ja q h) (ja uU h)
def B53x86:Ans:=JO (fun m k=>JO (fun n l=>SEL a n bF fun d=>JO (fun p o=>B53x76 d e b p o kr) fun j=>GW true d (FA n3 b fun q=>j q l) (j uU l)) fun J=>GW true a (cl n54 [f,m] k J kp) (J uU k)) fun ja=>GW true a (LD g h fun s=>ja s h) (ja uU h)
def B53x93:Ans:=SEL e f bF fun a=>JO (fun g h=>JO (fun m l=>JO (fun n o=>B53x86 a d b m n o cl kr kp) fun j=>GW true a (FA n2 b fun p=>j p l) (j uU l)) fun J=>GW true a (LD g h fun q=>J q h) (J uU h)) fun ja=>GW true a (FA n2 d fun r=>ja r k) (ja uU k)
def B53x100:Ans:=JO (fun f h=>JO (fun g l=>JO (fun m o=>B53x93 b d a m o cl kr kp) fun j=>GW true a (EQL Pr 9 false e g fun n=>j n l) (j uU l)) fun J=>GW true a (LD f h fun p=>J p h) (J uU h)) fun ja=>GW true a (FA n1 b fun q=>ja q k) (ja uU k)
def F53:FX:=fun fu oR cl args l kr kp=>AR2 args fun e f=>BOX 61 e l fun a o=>BOX 61 f o fun d h=>FA n0 a fun g=>LD g h fun m=>FA n0 d fun n=>LD n h fun p=>EQL Pr 3 false m p fun b=>JO (fun q k=>JO (fun r A=>B53x100 b d a r A cl kr kp) fun j=>GW true b (LD q k fun s=>j s k) (j uU k)) fun J=>GW true b (FA n1 a fun t=>J t h) (J uU h)
theorem eqF53:F53=CF 53 2:=by kernel_rfl
def B54x17:Ans:=LENS b fun e=>LP fu (fun _ _=>Ans.no) (fun j a h=>LSS Pr 3 false a e fun f=>IFB f (SA n1 b a fun g=>LD g h fun m=>SA n1 d a fun n=>LD n h fun p=>NEQ Pr 9 false m p fun q=>IFB q (kr bF h) (ADD Pr 3 true a i1 fun r=>j r h)) (kr bT h)) i0 k
def F54:FX:=fun fu oR cl args h kr kp=>AR2 args fun a b=>LENS a fun d=>LENS b fun e=>NEQ Pr 3 false d e fun f=>IFB f (kr bF h) (B54x17 a b h fu kr)
theorem eqF54:F54=CF 54 2:=by kernel_rfl
def F55:FX:=fun fu oR cl args h kr kp=>AR2 args fun a b=>cl n75 [a,b] h (fun d k=>GEQ Pr 3 true d i0 fun e=>kr e k) kp
theorem eqF55:F55=CF 55 2:=by kernel_rfl
def F56:FX:=fun fu oR cl args A kr kp=>AR2 args fun e f=>BOX 52 e A fun b C=>NEWC (.n (some i0) .e .e) n1 3 C fun a D=>GDF (dfrV (some (.func (.func 76) [] [b,a])) [] D) fun i7 a8 k=>LD b k fun g=>cl n77 [g,f] k (fun m E=>cl n78 [m] E (fun d G=>ST n1 a i0 G fun h=>ENDD ((i7,a8) :: []) (LD a h fun n=>kr (.tuple [d,n]) h) (SLOW Pr oR 56 [(4,d),(5,a)] ((i7,a8) :: []) .returning h kr kp)) (fun c17 l=>ENDD ((i7,a8) :: []) (kp c17 l) (SLOW Pr oR 56 [(4,bF),(5,a)] ((i7,a8) :: []) (.panicking c17) l kr kp))) (fun c13 o=>ENDD ((i7,a8) :: []) (kp c13 o) (SLOW Pr oR 56 [(4,bF),(5,a)] ((i7,a8) :: []) (.panicking c13) o kr kp))
theorem eqF56:F56=CF 56 2:=by kernel_rfl
def F57:FX:=fun fu oR cl args o kr kp=>AR2 args fun d e=>BOX 52 d o fun b A=>NEWC (.n (some i0) .e .e) n1 3 A fun a C=>GDF (dfrV (some (.func (.func 79) [] [b,a])) [] C) fun i7 a8 k=>LD b k fun f=>cl n80 [f,e] k (fun g D=>ST n1 a g D fun h=>ENDD ((i7,a8) :: []) (LD a h fun m=>kr m h) (SLOW Pr oR 57 [(4,a)] ((i7,a8) :: []) .returning h kr kp)) (fun c13 l=>ENDD ((i7,a8) :: []) (kp c13 l) (SLOW Pr oR 57 [(4,a)] ((i7,a8) :: []) (.panicking c13) l kr kp))
theorem eqF57:F57=CF 57 2:=by kernel_rfl
def B58x35 (j:AV → AV → Heap → Ans):Ans:=OV (buildA Pr 133 [(n0,a),(n1,b)]) fun e=>BSL n133 n2 [i0,i0] n1 [(n0,e)] h fun f k=>GEN (builtinF .append Pr [131,131] [d,f] k) cl (fun g l=>OV (unOpA .xor a) fun m=>j m g l) kp
def B58x37 (J:AV → AV → Heap → Ans):Ans:=JO (fun g m l=>J g m l) fun j=>EX n1 d fun e=>EX n2 d fun n=>GEN (callV Pr (some f) [n] k) cl (fun p h=>IFB p (GEQ Pr 3 true a i0 fun q=>IFB q (B58x35 a e b h cl kp j) (j a b h)) (LSS Pr 3 true a i0 fun r=>IFB r (j e b h) (j a b h))) kp
def B58x61:Ans:=SA n2 d a fun g=>LDN n2 g k fun m=>NEWC (.n (some i0) (.n (some i0) .e .e) .e) n2 133 k fun b l=>ST n2 b m l fun h=>FA n0 b fun n=>LD n h fun p=>FA n1 b fun q=>LD q h fun r=>OV (sliceA Pr 9 e (some p) (some r) none) fun s=>SA n1 f a fun t=>ST n1 t s h fun o=>ADD Pr 3 true a i1 fun u=>j u o
def B58x72:Ans:=LENT a fun e=>OV (buildA Pr 133 [(n0,b),(n1,e)]) fun f=>BSL n133 n2 [i0,i0] n1 [(n0,f)] h fun g k=>GEN (builtinF .append Pr [131,131] [d,g] k) cl j kp
def B58x73:Ans:=JO (fun a l=>LENS a fun f=>OVH (makeSliceA Pr l 46 f f) fun g o=>LENS a fun n=>LP fu (fun _ _=>Ans.no) (fun J m k=>LSS Pr 3 false m n fun p=>IFB p (B58x61 m a b g k J) (kr g k)) i0 o) fun j=>GEQ Pr 3 true d i0 fun q=>IFB q (B58x72 b d e h j cl kp) (j e h)
def F58:FX:=fun fu oR cl args k kr kp=>AR2 args fun a f=>OVH (makeSliceA Pr k 131 i0 i32) fun g l=>OVH (rangeA Pr l 9 a) fun m o=>LP fu (fun _ _ _=>Ans.no) (fun j b d A=>GEN (nextA A m true) cl (fun e h=>EX n0 e fun n=>IFB n (B58x37 b d e f h cl kp j) (B58x73 a b d h fu cl kr kp)) kp) (.int .i64 (nat_lit 18446744073709551615)) g o
theorem eqF58:F58=CF 58 2:=by kernel_rfl
def B59x18:Ans:=JO (fun f k=>SEL b bT f fun a=>JO (fun g l=>JO (fun m o=>SEL a bT m fun n=>kr n o) fun j=>GW false a (EQL Pr 21 true g (.int .i32 n10) fun p=>j p l) (j uU l)) fun J=>GW false a (J d k) (J uU k)) fun ja=>GW false b (EQL Pr 21 true e (.int .i32 n9) fun q=>ja q h) (ja uU h)
def F59:FX:=fun fu oR cl args h kr kp=>AR1 args fun a=>EQL Pr 21 true a (.int .i32 n32) fun b=>JO (fun d k=>B59x18 b a d k kr) fun j=>GW false b (j a h) (j uU h)
theorem eqF59:F59=CF 59 1:=by kernel_rfl
def B60x71 (j:AV → AV → AV → AV → AV → Heap → Ans):Ans:=cl n88 [f,b,d,s,g] k (fun m h=>EX n0 m fun a=>EX n1 m fun n=>SUB Pr 3 false a b fun p=>SUB Pr 3 false d a fun q=>BOP Pr .quo 3 true t i8 fun r=>LSS Pr 3 false p q fun u=>IFB u (GEQ Pr 3 false p r fun v=>cl n60 [f,b,a,e,g] h (fun z l=>ADD Pr 3 true a i1 fun w=>j n v e d w l) kp) (GEQ Pr 3 false q r fun x=>ADD Pr 3 true a i1 fun y=>cl n60 [f,y,d,e,g] h (fun c o=>j n x e a b o) kp)) kp
def B60x110:Ans:=JO (fun f k=>JO (fun g l=>JO (fun m o=>SEL a m bF fun n=>jb n o) fun j=>GW true a (OV (unOpA .not g) fun p=>j p l) (j uU l)) fun J=>GW true a (LSS Pr 3 true f i0 fun q=>J q k) (J uU k)) fun ja=>GW true a (GEN (callV Pr (some b) [d,e] h) cl ja kp) (ja uU h)
def B60x116:Ans:=JO (fun g l=>JO (fun m h=>JO (fun n o=>B60x110 a b d n o jb cl kp) fun j=>GW true a (LDN n4 m h fun p=>j p h) (j uU h)) fun J=>GW true a (SA n4 e g fun q=>J q l) (J uU l)) fun ja=>GW true a (ja f k) (ja uU k)
def B60x122:Ans:=JO (fun m h=>JO (fun n l=>JO (fun p o=>B60x116 a b n p d o jb cl kp) fun j=>GW true a (j e l) (j uU l)) fun J=>GW true a (LDN n4 m h fun q=>J q h) (J uU h)) fun ja=>GW true a (SA n4 f g fun r=>ja r k) (ja uU k)
def B60x127:Ans:=JO (fun g k=>JO (fun m l=>JO (fun n o=>B60x122 a d e b g n o jb cl kp) fun j=>GW true a (SUB Pr 3 true m i1 fun p=>j p l) (j uU l)) fun J=>GW true a (J f k) (J uU k)) fun ja=>GW true a (ja b h) (ja uU h)
def B60x129 (j:AV → AV → AV → AV → AV → Heap → Ans):Ans:=JO (fun r k=>IFB r (cl n87 [b,a,d,e,f] k (fun s l=>j n p g d s l) kp) (B60x71 a d g b f e q k cl kp j)) fun ja=>GTR Pr 3 true a i0 fun m=>JO (fun t o=>B60x127 m b t e a o ja cl kp) fun J=>GW true m (J f h) (J uU h)
def B60x145 (j:Heap → Ans):Ans:=JO (fun m k=>SEL a m bF fun n=>IFB n (cl n86 [b,d,e,f] k (fun p l=>IFB p (kr (.tuple []) l) (j l)) kp) (j k)) fun J=>GW true a (EQL Pr 135 true g i1 fun q=>J q h) (J uU h)
def B60x148 (ja:AV → AV → AV → AV → AV → Heap → Ans):Ans:=JO (fun l=>B60x129 d b e n f p g a q l cl kp ja) fun jb=>JO (fun s k=>SEL a s bF fun m=>JO (fun t o=>B60x145 m b d e f t o cl kr kp jb) fun j=>GW true m (j r k) (j uU k)) fun J=>GW true a (J g h) (J uU h)
def B60x158 (J:AV → AV → AV → AV → AV → Heap → Ans):Ans:=cl n84 [d,a,b,e] k (fun f h=>EX n0 f fun g=>EX n1 f fun m=>JO (fun s t l=>B60x148 p d a b e n t q r s l cl kr kp J) fun j=>EQL Pr 135 true m i2 fun u=>IFB u (cl n85 [d,a,b,e] h (fun y o=>SUB Pr 3 true b i1 fun v=>SUB Pr 3 false g a fun w=>SUB Pr 3 false v w fun x=>j i1 x o) kp) (j m g h)) kp
def B60x166 (J:AV → AV → AV → AV → AV → Heap → Ans):Ans:=EQL Pr 3 true a i0 fun p=>IFB p (cl n82 [b,d,e,f] h (fun t k=>kr (.tuple []) k) kp) (JO (fun q l=>B60x158 d e b f m g q n l cl kr kp J) fun j=>OV (unOpA .not g) fun r=>IFB r (cl n83 [b,d,e,f] h (fun u o=>SUB Pr 3 true a i1 fun s=>j s o) kp) (j a h))
def B60x167 (j:AV → AV → AV → AV → AV → Heap → Ans):Ans:=JO (fun p q r s t k=>j p q r s t k) fun J=>SUB Pr 3 false a b fun f=>LEQ Pr 3 true f i12 fun u=>IFB u (cl n81 [d,b,a,e] h (fun v l=>kr (.tuple []) l) kp) (B60x166 g d b a e n m f h cl kr kp J)
def F60:FX:=fun fu oR cl args h kr kp=>AR5 args fun a b d e f=>LP fu (fun _ _ _ _ _ _=>Ans.no) (fun j g m n p q k=>B60x167 p q a f n g m k cl kr kp j) bT bT e d b h
theorem eqF60:F60=CF 60 5:=by kernel_rfl
def F61:FX:=fun fu oR cl args h kr kp=>AR1 args fun a=>IFB bF (OV (convV Pr h 107 142 a) fun b=>cl n89 [b] h kr kp) (cl n90 [a] h kr kp)
theorem eqF61:F61=CF 61 1:=by kernel_rfl
def F63:FX:=fun fu oR cl args h kr kp=>AR1 args fun a=>NEQ Pr 3 false a a fun b=>kr b h
theorem eqF63:F63=CF 63 1:=by kernel_rfl
def B64x30 (j:AV → AV → Heap → Ans):Ans:=LDN n4 a h fun f=>BSL n116 n4 [i0,s0,i0,i0] n1 [(n0,f)] h fun g k=>GEN (builtinF .append Pr [108,108] [b,g] k) cl (fun m l=>cl n91 [d,e] l (fun n o=>j n m o) kp) kp
def B64x88:Ans:=SEL g m bF fun n=>IFB n (cl n98 [a,b] h (fun e k=>EX n0 e fun p=>EX n1 e fun q=>ST n4 d p k fun l=>j q l) kp) (cl n99 [a,b] h (fun f o=>EX n0 f fun r=>EX n1 f fun s=>ST n4 d r o fun A=>j s A) kp)
def B64x97:Ans:=SAT b d fun g=>EQL Pr 5 true g (.int .u8 n47) fun a=>JO (fun m k=>JO (fun n l=>JO (fun p o=>B64x88 b d e a p o jb cl kp) fun j=>GW true a (OV (unOpA .not n) fun q=>j q l) (j uU l)) fun J=>GW true a (cl n97 [m] k J kp) (J uU k)) fun ja=>GW true a (ja f h) (ja uU h)
def B64x98:Ans:=SAT a b fun m=>EQL Pr 5 true m (.int .u8 n34) fun n=>IFB n (cl n94 [a,b] h (fun e l=>EX n0 e fun p=>EX n1 e fun q=>ST n4 d p l fun o=>j q o) kp) (SAT a b fun r=>cl n95 [r] h (fun s k=>IFB s (cl n96 [a,b] k (fun f A=>EX n0 f fun t=>EX n1 f fun u=>ST n4 d t A fun C=>j u C) kp) (B64x97 a b d g k j cl kp)) kp)
def B64x99 (J:AV → AV → Heap → Ans):Ans:=NEWC (.n (some i0) (.n (some s0) (.n (some i0) .e .e) .e) (.n (some i0) .e .e)) n4 116 l fun d o=>JO (fun f h=>LSS Pr 3 true f i0 fun m=>IFB m (kr (.tuple [(.nilslice),a]) h) (B64x30 d e b f h cl kp J)) fun j=>SAT b a fun n=>cl n92 [n] o (fun p k=>IFB p (cl n93 [b,a] k (fun g A=>EX n0 g fun q=>EX n1 g fun r=>ST n4 d q A fun C=>j r C) kp) (B64x98 b a d e k j cl kp)) kp
def F64:FX:=fun fu oR cl args h kr kp=>AR1 args fun a=>LENT a fun e=>GTR Pr 3 true e i4000 fun f=>IFB f (kr (.tuple [(.nilslice),i0]) h) (cl n91 [a,i0] h (fun g l=>LP fu (fun _ _ _=>Ans.no) (fun j b d k=>LENT a fun m=>LSS Pr 3 false b m fun n=>IFB n (B64x99 b a d k cl kr kp j) (kr (.tuple [d,(.int .i64 (nat_lit 18446744073709551615))]) k)) g (.nilslice) l) kp)
theorem eqF64:F64=CF 64 1:=by kernel_rfl
def B65x54 (j:Heap → Ans):Ans:=cl n102 [a,(.str n1 n123)] k (fun d h=>OV (unOpA .not d) fun e=>IFB e (FA n0 b fun f=>ST n1 f i3 h fun l=>cl n103 [a] l (fun g o=>FA n3 b fun m=>ST n1 m g o fun A=>j A) kp) (j h)) kp
def B65x55 (j:Heap → Ans):Ans:=cl n100 [a,(.str n5 (nat_lit 336236856642))] l (fun d h=>IFB d (FA n0 b fun e=>ST n1 e i0 h fun o=>j o) (cl n100 [a,(.str n3 (nat_lit 4476485))] h (fun f k=>IFB f (FA n0 b fun g=>ST n1 g i1 k fun A=>j A) (B65x54 a b k cl kp j)) kp)) kp
def F65:FX:=fun fu oR cl args A kr kp=>AR1 args fun a=>NEWC (.n (some i0) (.n (some s0) (.n (some i0) .e .e) .e) (.n (some (.nilslice)) (.n (some i0) .e .e) .e)) n5 61 A fun b C=>OV (buildA Pr 61 [(n0,i2),(n3,(.int .i64 (nat_lit 18446744073709551615)))]) fun e=>NEWC (.n (some i0) (.n (some s0) (.n (some i0) .e .e) .e) (.n (some (.nilslice)) (.n (some i0) .e .e) .e)) n5 61 C fun d D=>ST n5 d e D fun E=>JO (fun G=>cl n104 [a] G (fun f H=>FA n4 d fun g=>ST n1 g f H fun h=>LDN n5 d h fun m=>ST n5 b m h fun k=>LDN n5 b k fun n=>kr n k) kp) fun j=>cl n100 [a,(.str n8 (nat_lit 7957695015192261990))] E (fun p l=>IFB p (cl n101 [a] l (fun q I=>ST n5 b q I fun o=>LDN n5 b o fun r=>kr r o) kp) (B65x55 a d l cl kp j)) kp
theorem eqF65:F65=CF 65 1:=by kernel_rfl
def B66x56 (J:AV → AV → Heap → Ans):Ans:=JO (fun e h=>FA n2 d fun f=>LD f h fun g=>SA n1 g a fun m=>LD m h fun n=>ADD Pr 9 false e n fun p=>ADD Pr 3 true a i1 fun q=>J q p h) fun j=>GTR Pr 3 true a i0 fun r=>IFB r (ADD Pr 9 true b (.str n2 n8236) fun s=>j s k) (j b k)
def B66x58:Ans:=FA n1 a fun e=>LD e k fun f=>ADD Pr 9 true (.str n9 (nat_lit 598253505373897913702)) f fun g=>ADD Pr 9 true g (.str n1 n40) fun m=>LP fu (fun _ _ _=>Ans.no) (fun J b d h=>FA n2 a fun n=>LD n h fun p=>LENS p fun q=>LSS Pr 3 false b q fun r=>IFB r (B66x56 b d a h J) (ADD Pr 9 true d (.str n2 n8233) fun s=>j s h)) i0 m k
def B66x59:Ans:=EQL Pr 3 true a i3 fun e=>IFB e (LDN n2 d h fun f=>FA n3 b fun g=>LD g h fun m=>cl n105 [f,m] h (fun n k=>ADD Pr 9 true n (.str n1 n32) fun p=>j p k) kp) (EQL Pr 3 true a i4 fun q=>IFB q (B66x58 b h j fu) (j s0 h))
def F66:FX:=fun fu oR cl args l kr kp=>AR2 args fun e f=>BOX 40 e l fun d o=>BOX 61 f o fun a h=>FA n0 a fun g=>LD g h fun b=>JO (fun m k=>LDN n2 d k fun n=>FA n4 a fun p=>LD p k fun q=>cl n106 [n,q] k (fun r A=>ADD Pr 9 false m r fun s=>ADD Pr 9 true s (.str n1 n10) fun t=>kr t A) kp) fun j=>EQL Pr 3 true b i0 fun u=>IFB u (j (.str n6 (nat_lit 35520608945474)) h) (EQL Pr 3 true b i1 fun v=>IFB v (j (.str n4 (nat_lit 541347397)) h) (B66x59 b a d h j fu cl kp))
theorem eqF66:F66=CF 66 2:=by kernel_rfl
def B67x45 (j:AV → AV → Heap → Ans):Ans:=ADD Pr 3 false a e fun m=>OV (sliceA Pr 9 b none (some m) none) fun n=>SA n1 f d fun p=>ST n1 p n h fun k=>LENT g fun q=>ADD Pr 3 false a q fun r=>OV (sliceA Pr 9 b (some r) none none) fun s=>ADD Pr 3 true d i1 fun t=>j t s k
def B67x46:Ans:=LENT f fun r=>ADD Pr 3 true r i1 fun s=>OPV (builtinF .min Pr [3,3] [p,s] h) fun d=>OVH (makeSliceA Pr h 46 d d) fun e o=>SUB Pr 3 true d i1 fun t=>JO (fun m u A=>SA n1 e m fun v=>ST n1 v u A fun C=>ADD Pr 3 true m i1 fun w=>OV (sliceA Pr 46 e none (some w) none) fun x=>kr x C) fun j=>LP fu (fun _ _ _=>Ans.no) (fun J a b k=>LSS Pr 3 false a t fun y=>IFB y (cl n109 [b,g] k (fun n l=>LSS Pr 3 true n i0 fun z=>IFB z (j a b l) (B67x45 n b a q e g l J)) kp) (j a b k)) i0 f o
def B67x54:Ans:=EQL Pr 9 true a s0 fun f=>IFB f (cl n107 [b,d] h kr kp) (JO (fun m l=>B67x46 b a m e l fu cl kr kp) fun j=>LSS Pr 3 true d i0 fun n=>IFB n (cl n108 [b,a] h (fun p o=>ADD Pr 3 true p i1 fun q=>j q o) kp) (j d h))
def F67:FX:=fun fu oR cl args h kr kp=>AR4 args fun b d e a=>EQL Pr 3 true a i0 fun f=>IFB f (kr (.nilslice) h) (B67x54 d b a e h fu cl kr kp)
theorem eqF67:F67=CF 67 4:=by kernel_rfl
def B68x41:Ans:=JO (fun e k=>JO (fun f l=>SEL a bT f fun g=>NC b fun m=>FA n4 m fun n=>ST n1 n g l fun o=>kr (.tuple []) o) fun j=>GW false a (GTR Pr 3 true e i4000 fun p=>j p k) (j uU k)) fun J=>GW false a (cl n111 [d] h J kp) (J uU h)
def B68x47:Ans:=NC b fun d=>FA n4 d fun e=>LD e h fun a=>JO (fun f k=>JO (fun g l=>JO (fun m o=>B68x41 a b m o cl kr kp) fun j=>GW false a (FA n2 g fun n=>j n l) (j uU l)) fun J=>GW false a (NC f fun p=>J p k) (J uU k)) fun ja=>GW false a (ja b h) (ja uU h)
def F68:FX:=fun fu oR cl args k kr kp=>AR2 args fun b d=>LENS d fun e=>LP fu (fun _ _=>Ans.no) (fun j a h=>LSS Pr 3 false a e fun f=>IFB f (SA n1 d a fun g=>LD g h fun m=>NC b fun n=>FA n2 n fun p=>cl n110 [p,m] h (fun r l=>ADD Pr 3 true a i1 fun q=>j q l) kp) (B68x47 b h cl kr kp)) i0 k
theorem eqF68:F68=CF 68 2:=by kernel_rfl
def B69x42:Ans:=cl n113 [a,b,i2,i2] h (fun e k=>BSL n9 n1 [s0] n1 [(n0,(.str n1 n40))] k fun f l=>cl n68 [a,f] l (fun m o=>cl n114 [a,e,d] o (fun n A=>BSL n9 n1 [s0] n1 [(n0,(.str n1 n41))] A fun g C=>cl n68 [a,g] C (fun p D=>kr (.tuple []) D) kp) kp) kp) kp
def B69x82 (j:Heap → Ans):Ans:=FA n1 a fun d=>LD d h fun e=>BSL n9 n1 [s0,s0,s0] n3 [(n0,(.str n2 (nat_lit 12072))),(n1,e),(n2,(.str n2 (nat_lit 10543)))] h fun f k=>cl n68 [b,f] k (fun g l=>j l) kp
def B69x113 (j:Heap → Ans):Ans:=BSL n9 n1 [s0] n1 [(n0,(.str n2 (nat_lit 10276)))] h fun d k=>cl n68 [a,d] k (fun g l=>cl n113 [a,b,i1,i1] l (fun e o=>cl n114 [a,e,s0] o (fun m A=>BSL n9 n1 [s0] n1 [(n0,(.str n1 n41))] A fun f C=>cl n68 [a,f] C (fun n D=>j D) kp) kp) kp) kp
def B69x137 (j:Heap → Ans):Ans:=FA n1 b fun e=>LD e h fun f=>BSL n9 n1 [s0,s0] n2 [(n0,f),(n1,(.str n1 n91))] h fun g k=>cl n68 [a,g] k (fun p l=>cl n113 [a,d,i1,i1] l (fun m o=>cl n114 [a,m,s0] o (fun q A=>BSL n9 n1 [s0] n1 [(n0,(.str n1 n93))] A fun n C=>cl n68 [a,n] C (fun r D=>j D) kp) kp) kp) kp
def B69x161 (j:Heap → Ans):Ans:=BSL n9 n1 [s0] n1 [(n0,(.str n1 n40))] k fun e l=>cl n68 [a,e] l (fun p o=>cl n113 [a,b,i1,i1] o (fun f A=>cl n114 [a,f,s0] A (fun q h=>FA n1 d fun g=>LD g h fun m=>BSL n9 n1 [s0,s0,s0] n3 [(n0,(.str n4 (nat_lit 544106784))),(n1,m),(n2,(.str n1 n41))] h fun n C=>cl n68 [a,n] C (fun r D=>j D) kp) kp) kp) kp
def B69x195 (j:Heap → Ans):Ans:=cl n113 [a,d,i3,i3] h (fun b k=>BSL n9 n1 [s0] n1 [(n0,(.str n1 n40))] k fun e l=>cl n68 [a,e] l (fun p o=>OV (sliceA Pr 92 b none (some i1) none) fun f=>cl n114 [a,f,s0] o (fun q A=>BSL n9 n1 [s0] n1 [(n0,(.str n3 (nat_lit 2113312)))] A fun g C=>cl n68 [a,g] C (fun r D=>OV (sliceA Pr 92 b (some i1) none none) fun m=>cl n114 [a,m,(.str n3 (nat_lit 2112032))] D (fun s E=>BSL n9 n1 [s0] n1 [(n0,(.str n1 n41))] E fun n G=>cl n68 [a,n] G (fun t H=>j H) kp) kp) kp) kp) kp) kp
def B69x225 (j:Heap → Ans):Ans:=OPVH (newMap Pr 161 k) fun b l=>OSK (mapUpdateA Pr l 161 b i12 (.str n1 n33)) fun o=>OSK (mapUpdateA Pr o 161 b i25 (.str n1 n45)) fun h=>FA n0 d fun f=>LD f h fun g=>OV (lookupA Pr h 161 b g false) fun m=>BSL n9 n1 [s0,s0] n2 [(n0,(.str n1 n40)),(n1,m)] h fun n A=>cl n68 [a,n] A (fun r C=>cl n113 [a,e,i1,i1] C (fun p D=>cl n114 [a,p,s0] D (fun s E=>BSL n9 n1 [s0] n1 [(n0,(.str n1 n41))] E fun q G=>cl n68 [a,q] G (fun t H=>j H) kp) kp) kp) kp
def B69x301:Ans:=SA n1 d a fun e=>LD e h fun f=>BSL n9 n1 [s0] n1 [(n0,(.str n2 n8236))] h fun g k=>cl n68 [b,g] k (fun n l=>cl n69 [b,f] l (fun p o=>ADD Pr 3 true a i1 fun m=>j m o) kp) kp
def B69x308 (j:Heap → Ans):Ans:=cl n113 [a,f,i1,i2] l (fun b o=>BSL n9 n1 [s0] n1 [(n0,(.str n6 (nat_lit 44480450031731)))] o fun m A=>cl n68 [a,m] A (fun v C=>OV (sliceA Pr 92 b none (some i1) none) fun n=>cl n114 [a,n,s0] C (fun w h=>FA n2 g fun p=>LD p h fun q=>BSL n9 n1 [s0,s0] n2 [(n0,(.str n2 n8236)),(n1,q)] h fun r D=>cl n68 [a,r] D (fun x E=>OV (sliceA Pr 92 b (some i1) none none) fun d=>LENS d fun s=>LP fu (fun _ _=>Ans.no) (fun J e k=>LSS Pr 3 false e s fun t=>IFB t (B69x301 e a d k J cl kp) (BSL n9 n1 [s0] n1 [(n0,(.str n1 n41))] k fun u G=>cl n68 [a,u] G (fun y H=>j H) kp)) i0 E) kp) kp) kp) kp
def B69x312 (j:Heap → Ans):Ans:=EQL Pr 3 true b i32 fun f=>IFB f (cl n117 [a,d,(.str n3 (nat_lit 7630441)),i1,i1] h (fun p k=>j k) kp) (EQL Pr 3 true b i30 fun g=>IFB g (B69x308 a d e h fu cl kp j) (NC a fun m=>FA n4 m fun n=>ST n1 n bT h fun l=>j l))
def B69x313 (j:Heap → Ans):Ans:=EQL Pr 3 true a i29 fun f=>IFB f (cl n117 [b,d,(.str n5 (nat_lit 517097156201)),i2,i2] h (fun m k=>j k) kp) (EQL Pr 3 true a i31 fun g=>IFB g (cl n117 [b,d,(.str n7 (nat_lit 32199680942501748)),i1,i1] h (fun n l=>j l) kp) (B69x312 b a d e h fu cl kp j))
def B69x314 (j:Heap → Ans):Ans:=EQL Pr 3 true a i27 fun f=>IFB f (cl n117 [b,d,(.str n6 (nat_lit 114849160783212)),i0,i1] h (fun m k=>j k) kp) (EQL Pr 3 true a i28 fun g=>IFB g (cl n117 [b,d,(.str n6 (nat_lit 125844477605235)),i2,i3] h (fun n l=>j l) kp) (B69x313 a b d e h fu cl kp j))
def B69x315 (j:Heap → Ans):Ans:=IFB f (B69x225 b a d h cl kp j) (EQL Pr 3 true e i26 fun g=>IFB g (FA n1 a fun m=>LD m h fun n=>cl n117 [b,d,n,i0,i4000] h (fun p k=>j k) kp) (B69x314 e b d a h fu cl kp j))
def B69x319 (j:Heap → Ans):Ans:=EQL Pr 3 true a i9 fun g=>IFB g (B69x195 b d h cl kp j) (JO (fun m k=>B69x315 f b d a m k fu cl kp j) fun J=>EQL Pr 3 true a i12 fun e=>IFB e (J e h) (EQL Pr 3 true a i25 fun n=>J n h))
def B69x320 (j:Heap → Ans):Ans:=EQL Pr 3 true a i4 fun f=>IFB f (B69x113 b d h cl kp j) (EQL Pr 3 true a i5 fun g=>IFB g (B69x137 b e d h cl kp j) (EQL Pr 3 true a i6 fun m=>IFB m (B69x161 b d e h cl kp j) (B69x319 a b d e h fu cl kp j)))
def B69x321 (j:Heap → Ans):Ans:=EQL Pr 3 true a i3 fun f=>IFB f (FA n1 b fun g=>LD g h fun m=>BSL n9 n1 [s0] n1 [(n0,m)] h fun n k=>cl n68 [d,n] k (fun p l=>j l) kp) (B69x320 a d e b h fu cl kp j)
def B69x322 (j:Heap → Ans):Ans:=EQL Pr 3 true a i1 fun f=>IFB f (FA n1 b fun g=>LD g h fun m=>cl n116 [m] h (fun n k=>BSL n9 n1 [s0] n1 [(n0,n)] k fun p l=>cl n68 [d,p] l (fun r o=>j o) kp) kp) (EQL Pr 3 true a i2 fun q=>IFB q (B69x82 b d h cl kp j) (B69x321 a b d e h fu cl kp j))
def B69x323:Ans:=FA n0 a fun f=>LD f h fun d=>JO (fun k=>kr (.tuple []) k) fun j=>EQL Pr 3 true d i0 fun g=>IFB g (FA n3 a fun m=>LD m h fun n=>cl n115 [n] h (fun p l=>BSL n9 n1 [s0] n1 [(n0,p)] l fun q o=>cl n68 [b,q] o (fun r A=>j A) kp) kp) (B69x322 d a b e h fu cl kp j)
def B69x324:Ans:=NC a fun f=>FA n0 f fun g=>FA n0 g fun m=>LD m h fun n=>SA n5 n b fun p=>LDN n5 p h fun q=>NEWC (.n (some i0) (.n (some s0) (.n (some i0) .e .e) .e) (.n (some s0) (.n (some (.nilslice)) .e .e) .e)) n5 94 h fun d o=>ST n5 d q o fun k=>FA n0 d fun r=>LD r k fun s=>cl n112 [s] k (fun e l=>NEQ Pr 9 true e s0 fun t=>IFB t (B69x42 a b e l cl kr kp) (B69x323 d a b l fu cl kr kp)) kp
def F69:FX:=fun fu oR cl args h kr kp=>AR2 args fun a b=>NC a fun d=>FA n4 d fun e=>LD e h fun f=>IFB f (kr (.tuple []) h) (B69x324 a b h fu cl kr kp)
theorem eqF69:F69=CF 69 2:=by kernel_rfl
def B70x30 (J:AV → AV → Heap → Ans):Ans:=SA n1 e a fun f=>LD f h fun d=>JO (fun k=>LENT d fun g=>ADD Pr 3 false b g fun m=>ADD Pr 3 true a i1 fun n=>J n m k) fun j=>LENT d fun p=>SUB Pr 3 true (.int .i64 (nat_lit 9223372036854775807)) b fun q=>GTR Pr 3 false p q fun r=>IFB r (GEN (panA (.iface n9 (.str n36 (nat_lit 232023140547069528372253906381035003553488466437483087989658184371904395368843875349619))) h) cl (fun s l=>j l) kp) (j h)
def B70x64:Ans:=LSS Pr 3 false a d fun g=>IFB g (SA n1 e a fun m=>LD m h fun n=>cl n110 [b,f] h (fun r k=>cl n110 [b,n] k (fun s l=>ADD Pr 3 true a i1 fun p=>j p l) kp) kp) (cl n47 [b] h kr kp)
def B70x65:Ans:=NEWC (.n (some (.nilp)) (.n (some (.nilslice)) .e .e) .e) n2 86 k fun a l=>cl n118 [a,e] l (fun q h=>SA n1 b i0 fun g=>LD g h fun m=>cl n110 [a,m] h (fun r o=>OV (sliceA Pr 46 b (some i1) none none) fun d=>LENS d fun n=>LP fu (fun _ _=>Ans.no) (fun j p A=>B70x64 p a n d f A j cl kr kp) i0 o) kp) kp
def B70x85:Ans:=JO (fun k=>LENT a fun d=>LENS b fun e=>SUB Pr 3 true e i1 fun f=>BOP Pr .mul 3 false d f fun g=>ADD Pr 3 false i0 g fun m=>J m k) fun j=>LENT a fun n=>LENS b fun p=>SUB Pr 3 true p i1 fun q=>BOP Pr .quo 3 true (.int .i64 (nat_lit 9223372036854775807)) q fun r=>GEQ Pr 3 false n r fun s=>IFB s (GEN (panA (.iface n9 (.str n36 (nat_lit 232023140547069528372253906381035003553488466437483087989658184371904395368843875349619))) h) cl (fun t l=>j l) kp) (j h)
def B70x86:Ans:=JO (fun f l=>LENS a fun g=>LP fu (fun _ _ _=>Ans.no) (fun J d e k=>LSS Pr 3 false d g fun m=>IFB m (B70x30 d e a k cl kp J) (B70x65 a e b k fu cl kr kp)) i0 f l) fun j=>LENT b fun n=>GTR Pr 3 true n i0 fun p=>IFB p (B70x85 b a h j cl kp) (j i0 h)
def F70:FX:=fun fu oR cl args h kr kp=>AR2 args fun a d=>LENS a fun b=>EQL Pr 3 true b i0 fun e=>IFB e (kr s0 h) (EQL Pr 3 true b i1 fun f=>IFB f (SA n1 a i0 fun g=>LD g h fun m=>kr m h) (B70x86 a d h fu cl kr kp))
theorem eqF70:F70=CF 70 2:=by kernel_rfl
def B71x34 (j:Heap → Ans):Ans:=cl n113 [a,b,i1,i1] h (fun d k=>cl n114 [a,d,s0] k (fun f l=>BSL n9 n1 [s0] n1 [(n0,(.str n1 n59))] l fun e o=>cl n68 [a,e] o (fun g A=>j A) kp) kp) kp
def B71x100 (j:Heap → Ans):Ans:=FA n1 b fun e=>LD e h fun f=>BSL n9 n1 [s0,s0,s0] n3 [(n0,(.str n7 (nat_lit 9118749846955364))),(n1,f),(n2,(.str n1 n91))] h fun g k=>cl n68 [a,g] k (fun p l=>cl n113 [a,d,i1,i1] l (fun m o=>cl n114 [a,m,s0] o (fun q A=>BSL n9 n1 [s0] n1 [(n0,(.str n2 (nat_lit 15197)))] A fun n C=>cl n68 [a,n] C (fun r D=>j D) kp) kp) kp) kp
def B71x149:Ans:=SA n1 d a fun e=>LD e h fun f=>BSL n9 n1 [s0] n1 [(n0,(.str n6 (nat_lit 35620100269344)))] h fun g k=>cl n68 [b,g] k (fun n l=>cl n71 [b,f] l (fun p o=>ADD Pr 3 true a i1 fun m=>j m o) kp) kp
def B71x150 (j:Heap → Ans):Ans:=cl n113 [a,f,i2,i3] o (fun b A=>BSL n9 n1 [s0] n1 [(n0,(.str n4 (nat_lit 673212009)))] A fun g C=>cl n68 [a,g] C (fun u h=>SA n1 b i0 fun m=>LD m h fun n=>cl n69 [a,n] h (fun v D=>BSL n9 n1 [s0] n1 [(n0,(.str n2 n8233))] D fun p E=>cl n68 [a,p] E (fun w k=>SA n1 b i1 fun q=>LD q k fun r=>cl n71 [a,r] k (fun x G=>OV (sliceA Pr 92 b (some i2) none none) fun d=>LENS d fun s=>LP fu (fun _ _=>Ans.no) (fun J e l=>LSS Pr 3 false e s fun t=>IFB t (B71x149 e a d l J cl kp) (j l)) i0 G) kp) kp) kp) kp) kp
def B71x180 (j:Heap → Ans):Ans:=cl n113 [a,d,i2,i2] l (fun b o=>BSL n9 n1 [s0] n1 [(n0,(.str n7 (nat_lit 11294619051059319)))] o fun e A=>cl n68 [a,e] A (fun q h=>SA n1 b i0 fun f=>LD f h fun g=>cl n69 [a,g] h (fun r C=>BSL n9 n1 [s0] n1 [(n0,(.str n2 n8233))] C fun m D=>cl n68 [a,m] D (fun s k=>SA n1 b i1 fun n=>LD n k fun p=>cl n71 [a,p] k (fun t E=>j E) kp) kp) kp) kp) kp
def B71x209 (j:Heap → Ans):Ans:=cl n113 [a,d,i4,i4] k (fun b l=>BSL n9 n1 [s0] n1 [(n0,(.str n5 (nat_lit 172343062374)))] l fun e o=>cl n68 [a,e] o (fun p A=>OV (sliceA Pr 92 b none (some i3) none) fun f=>cl n114 [a,f,(.str n2 n8251)] A (fun q C=>BSL n9 n1 [s0] n1 [(n0,(.str n2 n8233))] C fun g D=>cl n68 [a,g] D (fun r h=>SA n1 b i3 fun m=>LD m h fun n=>cl n71 [a,n] h (fun s E=>j E) kp) kp) kp) kp) kp
def B71x231 (j:Heap → Ans):Ans:=FA n1 b fun e=>LD e h fun f=>FA n2 b fun g=>LD g h fun m=>BSL n9 n1 [s0,s0,s0,s0,s0] n5 [(n0,(.str n5 (nat_lit 172343062374))),(n1,f),(n2,(.str n4 (nat_lit 544106784))),(n3,m),(n4,(.str n2 n8233))] h fun n l=>cl n68 [a,n] l (fun s o=>cl n113 [a,d,i1,i1] o (fun p k=>SA n1 p i0 fun q=>LD q k fun r=>cl n71 [a,r] k (fun t A=>j A) kp) kp) kp
def B71x264:Ans:=SA n1 d a fun e=>LD e h fun f=>cl n71 [b,f] h (fun n k=>BSL n9 n1 [s0] n1 [(n0,(.str n1 n32))] k fun g l=>cl n68 [b,g] l (fun p o=>ADD Pr 3 true a i1 fun m=>j m o) kp) kp
def B71x271 (j:Heap → Ans):Ans:=BSL n9 n1 [s0] n1 [(n0,(.str n2 n8315))] l fun g o=>cl n68 [a,g] o (fun t h=>FA n4 e fun m=>LD m h fun n=>LENS n fun p=>cl n113 [a,f,i0,p] h (fun b A=>LENS b fun q=>LP fu (fun _ _=>Ans.no) (fun J d k=>LSS Pr 3 false d q fun r=>IFB r (B71x264 d a b k J cl kp) (BSL n9 n1 [s0] n1 [(n0,(.str n1 n125))] k fun s C=>cl n68 [a,s] C (fun u D=>j D) kp)) i0 A) kp) kp
def B71x275 (j:Heap → Ans):Ans:=EQL Pr 3 true b i46 fun f=>IFB f (B71x231 a d e h cl kp j) (EQL Pr 3 true b i53 fun g=>IFB g (B71x271 a d e h fu cl kp j) (NC a fun m=>FA n4 m fun n=>ST n1 n bT h fun k=>j k))
def B71x276 (j:Heap → Ans):Ans:=EQL Pr 3 true a i43 fun f=>IFB f (B71x150 b d h fu cl kp j) (EQL Pr 3 true a i44 fun g=>IFB g (B71x180 b d h cl kp j) (EQL Pr 3 true a i45 fun m=>IFB m (B71x209 b d h cl kp j) (B71x275 b a e d h fu cl kp j)))
def B71x277 (j:Heap → Ans):Ans:=EQL Pr 3 true a i49 fun f=>IFB f (cl n119 [b,d,(.str n4 (nat_lit 1954047342)),i0,i0] h (fun m k=>j k) kp) (EQL Pr 3 true a i52 fun g=>IFB g (B71x100 b e d h cl kp j) (B71x276 a b d e h fu cl kp j))
def B71x278 (j:Heap → Ans):Ans:=EQL Pr 3 true a i47 fun f=>IFB f (cl n119 [b,d,(.str n5 (nat_lit 461195539042)),i0,i0] h (fun m k=>j k) kp) (EQL Pr 3 true a i48 fun g=>IFB g (cl n119 [b,d,(.str n8 (nat_lit 7310870969309884259)),i0,i0] h (fun n l=>j l) kp) (B71x277 a b d e h fu cl kp j))
def B71x279 (j:Heap → Ans):Ans:=EQL Pr 3 true a i50 fun f=>IFB f (cl n119 [b,d,(.str n4 (nat_lit 1953069157)),i0,i1] h (fun m k=>j k) kp) (EQL Pr 3 true a i51 fun g=>IFB g (cl n119 [b,d,(.str n6 (nat_lit 121437875889522)),i0,i1] h (fun n l=>j l) kp) (B71x278 a b d e h fu cl kp j))
def B71x280 (j:Heap → Ans):Ans:=EQL Pr 3 true a i42 fun f=>IFB f (FA n4 b fun g=>LD g h fun m=>LENS m fun n=>OPV (builtinF .max Pr [3,3] [i1,n] h) fun p=>cl n119 [d,e,(.str n6 (nat_lit 112650254643824)),i1,p] h (fun q k=>j k) kp) (B71x279 a d e b h fu cl kp j)
def B71x281 (j:Heap → Ans):Ans:=EQL Pr 3 true a i41 fun f=>IFB f (FA n4 b fun g=>LD g h fun m=>LENS m fun n=>cl n119 [d,e,(.str n5 (nat_lit 500068610672)),i0,n] h (fun p k=>j k) kp) (B71x280 a b d e h fu cl kp j)
def B71x282:Ans:=NC a fun f=>FA n0 f fun g=>FA n0 g fun m=>LD m h fun n=>SA n5 n b fun p=>LDN n5 p h fun q=>NEWC (.n (some i0) (.n (some s0) (.n (some i0) .e .e) .e) (.n (some s0) (.n (some (.nilslice)) .e .e) .e)) n5 94 h fun d l=>ST n5 d q l fun k=>FA n0 d fun r=>LD r k fun e=>JO (fun o=>kr (.tuple []) o) fun j=>EQL Pr 3 true e i40 fun s=>IFB s (B71x34 a b k cl kp j) (B71x281 e d a b k fu cl kp j)
def F71:FX:=fun fu oR cl args h kr kp=>AR2 args fun a b=>NC a fun d=>FA n4 d fun e=>LD e h fun f=>IFB f (kr (.tuple []) h) (B71x282 a b h fu cl kr kp)
theorem eqF71:F71=CF 71 2:=by kernel_rfl
def B72x63 (j:AV → AV → Heap → Ans):Ans:=FA n3 a fun m=>ST n1 m d o fun h=>LDN n4 a h fun n=>LDN n4 a h fun b=>ADD Pr 3 false d e fun p=>BSL n116 n4 [i0,s0,i0,i0] n1 [(n0,n)] h fun q k=>LDN n4 a k fun r=>EQV b r <| GEN (builtinF .append Pr [108,108] [f,q] k) cl (fun s l=>LDN n4 a l fun t=>EQV b t <| ST n4 g b l fun A=>j p s A) kp
def B72x64 (j:AV → AV → Heap → Ans):Ans:=OV (sliceA Pr 9 g (some a) none none) fun n=>LDN n4 b h fun p=>NEWC (.n (some i0) (.n (some s0) (.n (some i0) .e .e) .e) (.n (some i0) .e .e)) n4 116 h fun d l=>NEWB h l fun b37 i38 o=>cl n123 [n,p] o (fun e A=>EX n0 e fun q=>EX n1 e fun f=>SETB A i38 b37 fun C=>ST n4 d q C fun k=>EQL Pr 3 true f i0 fun r=>IFB r (kr (.tuple [(.nilslice),a]) k) (B72x63 d a f m b k cl kp j)) kp
def B72x65 (J:AV → AV → Heap → Ans):Ans:=JO (fun f g l=>J f g l) fun j=>SAT b a fun m=>cl n120 [m] k (fun n h=>IFB n (ADD Pr 3 true a i1 fun p=>j p d h) (SAT b a fun q=>EQL Pr 5 true q (.int .u8 n35) fun r=>IFB r (cl n121 [b,a,(.func (.func 122) [] [])] h (fun s o=>ADD Pr 3 false a s fun t=>j t d o) kp) (B72x64 a e b d h cl kr kp j))) kp
def B72x66:Ans:=BSL n116 n4 [] n0 [] k fun f l=>OV (buildA Pr 116 []) fun g=>NEWC (.n (some i0) (.n (some s0) (.n (some i0) .e .e) .e) (.n (some i0) .e .e)) n4 116 l fun b o=>ST n4 b g o fun A=>LP fu (fun _ _ _=>Ans.no) (fun j d e h=>LENT a fun m=>LSS Pr 3 false d m fun n=>IFB n (B72x65 d a e b h cl kr kp j) (kr (.tuple [e,(.int .i64 (nat_lit 18446744073709551615))]) h)) i0 f A
def F72:FX:=fun fu oR cl args h kr kp=>AR1 args fun a=>LENT a fun b=>GTR Pr 3 true b i4000 fun d=>IFB d (kr (.tuple [(.nilslice),i0]) h) (B72x66 a h fu cl kr kp)
theorem eqF72:F72=CF 72 1:=by kernel_rfl
def B74x32 (j:Heap → Ans):Ans:=NC a fun e=>FA n4 e fun f=>FA n1 f fun b=>LD b h fun d=>cl n124 [a] h (fun g k=>LD b k fun m=>EQV d m <| BSL n61 n5 [i0,s0,(.nilslice),i0,i0] n1 [(n0,g)] k fun n l=>LD b l fun p=>EQV d p <| GEN (builtinF .append Pr [38,38] [d,n] l) cl (fun q o=>NC a fun r=>FA n4 r fun s=>FA n1 s fun t=>ST n1 t q o fun A=>j A) kp) kp
def F74:FX:=fun fu oR cl args k kr kp=>AR1 args fun a=>LP fu (fun _=>Ans.no) (fun j h=>NC a fun b=>FA n1 b fun d=>LD d h fun e=>NC a fun f=>FA n0 f fun g=>LD g h fun m=>LENS m fun n=>LSS Pr 3 false e n fun p=>IFB p (B74x32 a h cl kp j) (kr (.tuple []) h)) k
theorem eqF74:F74=CF 74 1:=by kernel_rfl
def F75:FX:=fun fu oR cl args k kr kp=>AR2 args fun b d=>LENS b fun e=>LP fu (fun _ _=>Ans.no) (fun j a h=>LSS Pr 3 false a e fun f=>IFB f (SA n1 b a fun g=>LD g h fun m=>EQL Pr 3 false d m fun n=>IFB n (kr a h) (ADD Pr 3 true a i1 fun p=>j p h)) (kr (.int .i64 (nat_lit 18446744073709551615)) h)) i0 k
theorem eqF75:F75=CF 75 2:=by kernel_rfl
def B77x48:Ans:=FA n1 b fun e=>LD e h fun f=>NC d fun g=>FA n6 g fun m=>LD m h fun n=>cl n129 [f,n,i11] h (fun p l=>cl n128 [p] l (fun q o=>ST n3 a q o fun k=>LDN n3 a k fun r=>kr r k) kp) kp
def B77x81:Ans:=FA n4 d fun e=>LD e h fun f=>SA n1 f i0 fun g=>LD g h fun m=>cl n77 [a,m] h (fun n l=>cl n133 [n] l (fun p o=>cl n132 [a,p] o (fun q A=>ST n3 b q A fun k=>LDN n3 b k fun r=>kr r k) kp) kp) kp
def B77x107:Ans:=FA n4 b fun f=>LD f h fun g=>SA n1 g i0 fun m=>LD m h fun n=>cl n77 [a,n] h (fun p o=>cl n134 [p] o (fun q k=>FA n1 b fun r=>LD r k fun s=>cl n131 [a,e,s] k (fun t A=>cl n135 [a,t,q] A (fun u C=>ST n3 d u C fun l=>LDN n3 d l fun v=>kr v l) kp) kp) kp) kp
def B77x143:Ans:=FA n4 b fun g=>LD g h fun m=>SA n1 m i0 fun n=>LD n h fun p=>cl n77 [a,p] h (fun q A=>cl n134 [q] A (fun r k=>FA n1 b fun s=>LD s k fun t=>cl n131 [a,f,t] k (fun u C=>cl n136 [a,u] C (fun v l=>OV (lookupA Pr l 178 v r true) fun e=>EX n0 e fun w=>EX n1 e fun x=>NEWC (.n (some i0) (.n (some i0) .e .e) (.n (some s0) .e .e)) n3 57 l fun y D=>ST n3 y w D fun E=>cl n128 [x] E (fun z G=>ST n3 d z G fun o=>LDN n3 d o fun c=>kr c o) kp) kp) kp) kp) kp
def B77x172:Ans:=FA n4 d fun g=>LD g k fun m=>SA n1 m i0 fun n=>LD n k fun p=>cl n137 [a,p] k (fun q A=>NEWC (.n (some i0) (.n (some s0) (.n (some i0) .e .e) (.n (some i0) .e .e)) (.n (some s0) (.n (some s0) .e .e) .e)) n6 181 A fun b C=>ST n6 b q C fun h=>LDN n6 b h fun f=>FA n4 d fun r=>LD r h fun s=>SA n1 s i1 fun t=>LD t h fun u=>cl n77 [a,u] h (fun v l=>LDN n6 b l fun w=>EQV f w <| cl n138 [a,f,v] l (fun x D=>ST n3 e x D fun o=>LDN n3 e o fun y=>kr y o) kp) kp) kp
def B77x216:Ans:=FA n4 f fun n=>LD n k fun p=>SA n1 p i0 fun q=>LD q k fun r=>cl n137 [b,r] k (fun s D=>NEWC (.n (some i0) (.n (some s0) (.n (some i0) .e .e) (.n (some i0) .e .e)) (.n (some s0) (.n (some s0) .e .e) .e)) n6 181 D fun a E=>ST n6 a s E fun o=>LDN n6 a o fun t=>cl n139 [b,t] o (fun u G=>NEWC (.n (some i0) (.n (some i0) .e .e) (.n (some s0) .e .e)) n3 57 G fun d H=>ST n3 d u H fun h=>LDN n6 a h fun e=>LDN n3 d h fun m=>FA n4 f fun v=>LD v h fun w=>SA n1 w i1 fun x=>LD x h fun y=>cl n77 [b,y] h (fun z l=>LDN n3 d l fun c=>EQV m c <| LDN n6 a l fun i=>EQV e i <| cl n140 [i20,m,z] l (fun aa A=>LDN n6 a A fun ab=>EQV e ab <| cl n138 [b,e,aa] A (fun ac I=>ST n3 g ac I fun C=>LDN n3 g C fun ad=>kr ad C) kp) kp) kp) kp) kp
def B77x250:Ans:=FA n4 b fun e=>LD e k fun f=>SA n1 f i0 fun g=>LD g k fun m=>cl n77 [d,m] k (fun n A=>cl n78 [n] A (fun p h=>IFB p (FA n4 b fun q=>LD q h fun r=>SA n1 r i1 fun s=>LD s h fun t=>cl n77 [d,t] h (fun u C=>ST n3 a u C fun l=>LDN n3 a l fun v=>kr v l) kp) (FA n4 b fun w=>LD w h fun x=>SA n1 x i2 fun y=>LD y h fun z=>cl n77 [d,z] h (fun c D=>ST n3 a c D fun o=>LDN n3 a o fun i=>kr i o) kp)) kp) kp
def B77x290:Ans:=JO (fun e l=>SEL a bT e fun f=>cl n128 [f] l (fun g o=>ST n3 b g o fun k=>LDN n3 b k fun m=>kr m k) kp) fun j=>GW false a (cl n78 [d] h j kp) (j uU h)
def B77x300:Ans:=JO (fun f h=>JO (fun g l=>JO (fun m o=>B77x290 a b m o cl kr kp) fun j=>GW false a (cl n77 [d,g] l j kp) (j uU l)) fun J=>GW false a (LD f h fun p=>J p h) (J uU h)) fun ja=>GW false a (SA n1 e i1 fun q=>ja q k) (ja uU k)
def B77x306:Ans:=FA n4 b fun f=>LD f h fun g=>SA n1 g i0 fun m=>LD m h fun n=>cl n77 [d,n] h (fun p A=>cl n78 [p] A (fun a l=>JO (fun q o=>JO (fun r k=>JO (fun s C=>B77x300 a e q s C cl kr kp) fun j=>GW false a (LD r k fun t=>j t k) (j uU k)) fun J=>GW false a (FA n4 b fun u=>J u o) (J uU o)) fun ja=>GW false a (ja d l) (ja uU l)) kp) kp
def B77x346:Ans:=JO (fun e l=>SEL a e bF fun f=>cl n128 [f] l (fun g o=>ST n3 b g o fun k=>LDN n3 b k fun m=>kr m k) kp) fun j=>GW true a (cl n78 [d] h j kp) (j uU h)
def B77x356:Ans:=JO (fun f h=>JO (fun g l=>JO (fun m o=>B77x346 a b m o cl kr kp) fun j=>GW true a (cl n77 [d,g] l j kp) (j uU l)) fun J=>GW true a (LD f h fun p=>J p h) (J uU h)) fun ja=>GW true a (SA n1 e i1 fun q=>ja q k) (ja uU k)
def B77x362:Ans:=FA n4 b fun f=>LD f h fun g=>SA n1 g i0 fun m=>LD m h fun n=>cl n77 [d,n] h (fun p A=>cl n78 [p] A (fun a l=>JO (fun q o=>JO (fun r k=>JO (fun s C=>B77x356 a e q s C cl kr kp) fun j=>GW true a (LD r k fun t=>j t k) (j uU k)) fun J=>GW true a (FA n4 b fun u=>J u o) (J uU o)) fun ja=>GW true a (ja d l) (ja uU l)) kp) kp
def B77x383:Ans:=FA n4 b fun e=>LD e h fun f=>SA n1 f i0 fun g=>LD g h fun m=>cl n77 [d,m] h (fun n l=>cl n78 [n] l (fun p o=>OV (unOpA .not p) fun q=>cl n128 [q] o (fun r A=>ST n3 a r A fun k=>LDN n3 a k fun s=>kr s k) kp) kp) kp
def B77x435:Ans:=FA n1 e fun m=>LD m h fun n=>FA n0 f fun b=>LD b h fun d=>EQL Pr 3 true d i13 fun p=>cl n129 [n,g,i11] h (fun q k=>LD b k fun r=>EQV d r <| EQL Pr 4 false q p fun s=>cl n128 [s] k (fun t o=>ST n3 a t o fun l=>LDN n3 a l fun u=>kr u l) kp) kp
def B77x465:Ans:=FA n4 d fun m=>LD m h fun n=>SA n1 n i1 fun p=>LD p h fun q=>FA n0 d fun a=>LD a h fun b=>EQL Pr 3 true b i13 fun r=>cl n77 [f,q] h (fun s k=>LD a k fun t=>EQV b t <| cl n134 [s] k (fun u l=>LD a l fun v=>EQV b v <| cl n129 [u,g,i4] l (fun w o=>LD a o fun x=>EQV b x <| EQL Pr 4 false w r fun y=>cl n128 [y] o (fun z C=>ST n3 e z C fun A=>LDN n3 e A fun c=>kr c A) kp) kp) kp) kp
def B77x466:Ans:=FA n4 a fun u=>LD u l fun v=>SA n1 v i0 fun w=>LD w l fun x=>cl n77 [b,x] l (fun y A=>cl n134 [y] A (fun f h=>NC b fun z=>FA n0 z fun c=>FA n0 c fun g=>LD g h fun m=>FA n4 a fun n=>LD n h fun p=>SA n1 p i1 fun q=>LD q h fun r=>SA n5 m r fun s=>LDN n5 s h fun t=>NEWC (.n (some i0) (.n (some s0) (.n (some i0) .e .e) .e) (.n (some s0) (.n (some (.nilslice)) .e .e) .e)) n5 94 h fun d k=>LDN n5 s k fun i=>EQV t i <| LD q k fun aa=>EQV r aa <| LD n k fun ab=>EQV p ab <| LD g k fun ac=>EQV m ac <| ST n5 d t k fun o=>FA n0 d fun ad=>LD ad o fun ae=>EQL Pr 3 true ae i2 fun af=>IFB af (B77x435 e d a f o cl kr kp) (B77x465 a e b f o cl kr kp)) kp) kp
def B77x482:Ans:=EQL Pr 3 true e i26 fun g=>IFB g (LDN n5 b h fun m=>cl n141 [d,m] h (fun n o=>ST n3 a n o fun k=>LDN n3 a k fun p=>kr p k) kp) (LDN n5 b h fun q=>cl n142 [d,f,q] h (fun r A=>ST n3 a r A fun l=>LDN n3 a l fun s=>kr s l) kp)
def B77x486:Ans:=EQL Pr 3 true a i12 fun m=>IFB m (B77x383 e b d h cl kr kp) (JO (fun n k=>IFB n (B77x466 b d e k cl kr kp) (B77x482 e b d a g k cl kr kp)) fun j=>EQL Pr 3 true a i13 fun f=>IFB f (j f h) (EQL Pr 3 true a i14 fun p=>j p h))
def B77x487:Ans:=EQL Pr 3 true a i9 fun g=>IFB g (B77x250 e b d h cl kr kp) (EQL Pr 3 true a i10 fun m=>IFB m (B77x306 b d e h cl kr kp) (EQL Pr 3 true a i11 fun n=>IFB n (B77x362 b d e h cl kr kp) (B77x486 a b d e f h cl kr kp)))
def B77x488:Ans:=EQL Pr 3 true a i6 fun g=>IFB g (B77x143 d b e f h cl kr kp) (EQL Pr 3 true a i7 fun m=>IFB m (B77x172 d b e h cl kr kp) (EQL Pr 3 true a i8 fun n=>IFB n (B77x216 d b e h cl kr kp) (B77x487 a b d e f h cl kr kp)))
def B77x489:Ans:=EQL Pr 3 true d i3 fun g=>IFB g (FA n1 e fun m=>LD m h fun n=>cl n131 [a,f,n] h (fun p l=>cl n130 [a,p] l (fun q o=>ST n3 b q o fun k=>LDN n3 b k fun r=>kr r k) kp) kp) (EQL Pr 3 true d i4 fun s=>IFB s (B77x81 a b e h cl kr kp) (EQL Pr 3 true d i5 fun t=>IFB t (B77x107 a e b f h cl kr kp) (B77x488 d e a b f h cl kr kp)))
def B77x490:Ans:=EQL Pr 3 true b i1 fun g=>IFB g (FA n1 d fun m=>LD m h fun n=>cl n127 [n] h (fun p l=>ST n3 a p l fun k=>LDN n3 a k fun q=>kr q k) kp) (EQL Pr 3 true b i2 fun r=>IFB r (B77x48 a d e h cl kr kp) (B77x489 e a b d f h cl kr kp))
def F77:FX:=fun fu oR cl args l kr kp=>AR2 args fun d e=>NEWC (.n (some i0) (.n (some i0) .e .e) (.n (some s0) .e .e)) n3 57 l fun b o=>cl n125 [d,e] o (fun g A=>NEWC (.n (some i0) (.n (some s0) (.n (some i0) .e .e) .e) (.n (some s0) (.n (some (.nilslice)) .e .e) .e)) n5 94 A fun a C=>ST n5 a g C fun h=>FA n0 a fun m=>LD m h fun f=>EQL Pr 3 true f i0 fun n=>IFB n (FA n3 a fun p=>LD p h fun q=>cl n126 [q] h (fun r D=>ST n3 b r D fun k=>LDN n3 b k fun s=>kr s k) kp) (B77x490 b f a d e h cl kr kp)) kp
theorem eqF77:F77=CF 77 2:=by kernel_rfl
def F78:FX:=fun fu oR cl args k kr kp=>AR1 args fun b=>BOX 57 b k fun a h=>FA n0 a fun d=>LD d h fun e=>EQL Pr 3 true e i2 fun f=>IFB f (FA n2 a fun g=>LD g h fun m=>NEQ Pr 9 true m s0 fun n=>kr n h) (FA n1 a fun p=>LD p h fun q=>NEQ Pr 3 true q i0 fun r=>kr r h)
theorem eqF78:F78=CF 78 1:=by kernel_rfl
def B80x30 (J:Heap → Ans):Ans:=LSS Pr 3 false a d fun g=>IFB g (SA n1 e a fun m=>LD m h fun n=>cl n80 [f,n] h (fun b k=>NEQ Pr 3 true b i0 fun p=>IFB p (kr b k) (ADD Pr 3 true a i1 fun q=>j q k)) kp) (J h)
def B80x73 (j:Heap → Ans):Ans:=FA n4 a fun d=>LD d h fun e=>LENS e fun f=>EQL Pr 3 true f i3 fun g=>IFB g (FA n4 a fun m=>LD m h fun n=>SA n1 n i2 fun p=>LD p h fun q=>cl n80 [b,q] h kr kp) (j h)
def B80x74 (j:Heap → Ans):Ans:=FA n4 a fun d=>LD d k fun e=>SA n1 e i0 fun f=>LD f k fun g=>cl n77 [b,g] k (fun m l=>cl n78 [m] l (fun n h=>IFB n (FA n4 a fun p=>LD p h fun q=>SA n1 q i1 fun r=>LD r h fun s=>cl n80 [b,s] h kr kp) (B80x73 a b h cl kr kp j)) kp) kp
def B80x100 (j:Heap → Ans) (J:Heap → Ans):Ans:=FA n4 a fun e=>LD e k fun f=>SA n1 f i0 fun g=>LD g k fun m=>cl n77 [b,m] k (fun n o=>cl n78 [n] o (fun p h=>IFB p (FA n4 a fun q=>LD q h fun r=>SA n1 r i1 fun s=>LD s h fun t=>cl n143 [b,t] h (fun d l=>EX n0 d fun u=>EX n1 d fun v=>IFB u (kr v l) (j l)) kp) (J h)) kp) kp
def B80x142 (j:Heap → Ans):Ans:=FA n4 a fun e=>LD e k fun f=>SA n1 f i3 fun g=>LD g k fun m=>cl n143 [b,m] k (fun d h=>EX n0 d fun n=>EX n1 d fun p=>IFB n (kr p h) (FA n4 a fun q=>LD q h fun r=>SA n1 r i2 fun s=>LD s h fun t=>cl n77 [b,t] h (fun u l=>j l) kp)) kp
def B80x143 (j:Heap → Ans):Ans:=FA n4 a fun d=>LD d h fun e=>SA n1 e i0 fun f=>LD f h fun g=>cl n77 [b,g] h (fun t o=>LP fu (fun _=>Ans.no) (fun J k=>FA n4 a fun m=>LD m k fun n=>SA n1 n i1 fun p=>LD p k fun q=>cl n77 [b,q] k (fun r A=>cl n78 [r] A (fun s l=>IFB s (B80x142 a b l cl kr kp J) (j l)) kp) kp) o) kp
def B80x208:Ans:=SA n1 f b fun m=>LD m h fun n=>FA n1 d fun p=>LD p h fun q=>cl n131 [a,g,q] h (fun r o=>OV (buildA Pr 57 [(n0,i2),(n2,n)]) fun s=>cl n145 [a,r,s] o (fun c k=>FA n4 d fun t=>LD t k fun u=>SA n1 u i0 fun v=>LD v k fun w=>cl n143 [a,w] k (fun e l=>EX n0 e fun x=>EX n1 e fun y=>IFB x (kr y l) (ADD Pr 3 true b i1 fun z=>j z l)) kp) kp) kp
def B80x209 (J:Heap → Ans):Ans:=GEN (nextA l b false) cl (fun m h=>EX n0 m fun n=>IFB n (OV (entryA h b) fun p=>EX n0 p fun q=>BSL n9 n1 [s0] n1 [(n0,q)] h fun r o=>GEN (builtinF .append Pr [46,46] [a,r] o) cl j kp) (cl n144 [a] h (fun v C=>LENS a fun t=>LP fu (fun _ _=>Ans.no) (fun ja d k=>LSS Pr 3 false d t fun u=>IFB u (B80x208 f d e a g k ja cl kr kp) (J k)) i0 C) kp)) kp
def B80x210 (j:Heap → Ans):Ans:=BSL n9 n1 [] n0 [] k fun e h=>FA n2 b fun f=>LD f h fun g=>cl n131 [a,d,g] h (fun m l=>cl n136 [a,m] l (fun n o=>OVH (rangeA Pr o 178 n) fun p A=>LP fu (fun _ _=>Ans.no) (fun J q C=>B80x209 q p b a d C J fu cl kr kp j) e A) kp) kp
def B80x237 (j:Heap → Ans):Ans:=FA n4 b fun d=>LD d h fun e=>SA n1 e i0 fun f=>LD f h fun g=>cl n77 [a,g] h (fun m k=>cl n133 [m] k (fun n l=>NC a fun p=>FA n12 p fun q=>FA n1 q fun r=>ST n1 r n l fun o=>j o) kp) kp
def B80x262:Ans:=OV (buildA Pr 57 []) fun e=>NEWC (.n (some i0) (.n (some i0) .e .e) (.n (some s0) .e .e)) n3 57 l fun a o=>ST n3 a e o fun h=>JO (fun k=>LDN n3 a k fun f=>NC b fun g=>FA n9 g fun m=>ST n3 m f k fun A=>kr i3 A) fun j=>FA n4 d fun n=>LD n h fun p=>LENS p fun q=>GTR Pr 3 true q i0 fun r=>IFB r (FA n4 d fun s=>LD s h fun t=>SA n1 t i0 fun u=>LD u h fun v=>cl n77 [b,v] h (fun w C=>ST n3 a w C fun D=>j D) kp) (j h)
def B80x290 (j:Heap → Ans):Ans:=FA n4 b fun e=>LD e h fun f=>SA n1 f i0 fun g=>LD g h fun m=>cl n77 [a,m] h (fun n l=>cl n134 [n] l (fun p k=>FA n1 b fun q=>LD q k fun r=>cl n131 [a,d,r] k (fun s o=>cl n136 [a,s] o (fun t A=>GEN (builtinF .delete Pr [178,9] [t,p] A) cl (fun u C=>j C) kp) kp) kp) kp) kp
def B80x319 (j:AV → AV → Heap → Ans):Ans:=SA n1 b a fun f=>LD f h fun g=>cl n77 [d,g] h (fun m k=>cl n134 [m] k (fun n l=>BSL n9 n1 [s0] n1 [(n0,n)] l fun p o=>GEN (builtinF .append Pr [46,46] [e,p] o) cl (fun q A=>ADD Pr 3 true a i1 fun r=>j r q A) kp) kp) kp
def B80x341 (J:Heap → Ans):Ans:=JO (fun e k=>cl n70 [e,(.str n1 n32)] k (fun f l=>ADD Pr 9 true f (.str n1 n10) fun g=>cl n146 [a,g] l (fun v o=>J o) kp) kp) fun j=>FA n4 b fun m=>LD m h fun n=>LENS n fun p=>EQL Pr 3 true p i0 fun q=>IFB q (NC a fun r=>FA n6 r fun s=>LD s h fun t=>BSL n9 n1 [s0] n1 [(n0,t)] h fun u A=>j u A) (j d h)
def B80x342 (j:Heap → Ans):Ans:=BSL n9 n1 [] n0 [] l fun g h=>FA n4 a fun m=>LD m h fun d=>LENS d fun n=>LP fu (fun _ _ _=>Ans.no) (fun J e f k=>LSS Pr 3 false e n fun p=>IFB p (B80x319 e d b f k cl kp J) (B80x341 b a f k cl kp j)) i0 g h
def B80x367 (j:AV → AV → Heap → Ans):Ans:=SA n1 b a fun f=>LD f h fun g=>cl n77 [d,g] h (fun m k=>BSL n57 n3 [i0,i0,s0] n1 [(n0,m)] k fun n l=>GEN (builtinF .append Pr [190,190] [e,n] l) cl (fun p o=>ADD Pr 3 true a i1 fun q=>j q p o) kp) kp
def B80x401 (ja:Heap → Ans):Ans:=SA n3 b i0 fun g=>LDN n3 g k fun m=>OV (sliceA Pr 190 b (some i1) none none) fun n=>cl n134 [m] k (fun p o=>cl n147 [p,n] o (fun d l=>EX n0 d fun q=>EX n1 d fun a=>JO (fun A=>cl n146 [f,q] A (fun u C=>ja C) kp) fun j=>JO (fun r h=>IFB r (GEN (panA (.iface n74 i10) h) cl (fun v D=>j D) kp) (EQL Pr 3 true a i3 fun s=>IFB s (GEN (panA (.iface n74 i5) h) cl (fun w E=>j E) kp) (j h))) fun J=>EQL Pr 3 true a i1 fun e=>IFB e (J e l) (EQL Pr 3 true a i2 fun t=>J t l)) kp) kp
def B80x402 (j:Heap → Ans):Ans:=BSL n57 n3 [] n0 [] l fun g h=>FA n4 f fun m=>LD m h fun b=>LENS b fun n=>LP fu (fun _ _ _=>Ans.no) (fun J d e k=>LSS Pr 3 false d n fun p=>IFB p (B80x367 d b a e k cl kp J) (B80x401 e a k cl kp j)) i0 g h
def B80x403 (j:Heap → Ans):Ans:=EQL Pr 3 true a i52 fun f=>IFB f (B80x290 d b e h cl kp j) (EQL Pr 3 true a i41 fun g=>IFB g (B80x342 b d h fu cl kp j) (EQL Pr 3 true a i42 fun m=>IFB m (B80x402 d b h fu cl kp j) (j h)))
def B80x404 (J:Heap → Ans):Ans:=EQL Pr 3 true b i50 fun f=>IFB f (JO (fun k=>kr i5 k) fun j=>FA n4 a fun g=>LD g h fun m=>LENS m fun n=>GTR Pr 3 true n i0 fun p=>IFB p (B80x237 d a h cl kp j) (j h)) (EQL Pr 3 true b i51 fun q=>IFB q (B80x262 d a h cl kr kp) (B80x403 b a d e h fu cl kp J))
def B80x405 (j:Heap → Ans):Ans:=EQL Pr 3 true a i47 fun f=>IFB f (kr i1 h) (EQL Pr 3 true a i48 fun g=>IFB g (kr i2 h) (EQL Pr 3 true a i49 fun m=>IFB m (kr i4 h) (B80x404 b a d e h fu cl kr kp j)))
def B80x406 (j:Heap → Ans):Ans:=EQL Pr 3 true a i44 fun f=>IFB f (LP fu (fun _=>Ans.no) (fun J k=>B80x100 b d k cl kr kp J j) h) (EQL Pr 3 true a i45 fun g=>IFB g (B80x143 b d h fu cl kr kp j) (EQL Pr 3 true a i46 fun m=>IFB m (B80x210 d b e h fu cl kr kp j) (B80x405 a b d e h fu cl kr kp j)))
def B80x407 (j:Heap → Ans):Ans:=EQL Pr 3 true a i40 fun f=>IFB f (FA n4 b fun g=>LD g h fun m=>SA n1 m i0 fun n=>LD n h fun p=>cl n77 [d,p] h (fun r k=>j k) kp) (EQL Pr 3 true a i43 fun q=>IFB q (B80x74 b d h cl kr kp j) (B80x406 a b d e h fu cl kr kp j))
def F80:FX:=fun fu oR cl args k kr kp=>AR2 args fun b d=>cl n125 [b,d] k (fun g l=>NEWC (.n (some i0) (.n (some s0) (.n (some i0) .e .e) .e) (.n (some s0) (.n (some (.nilslice)) .e .e) .e)) n5 94 l fun a o=>ST n5 a g o fun h=>FA n0 a fun m=>LD m h fun e=>JO (fun A=>kr i0 A) fun j=>EQL Pr 3 true e i53 fun n=>IFB n (FA n4 a fun p=>LD p h fun f=>LENS f fun q=>LP fu (fun _ _=>Ans.no) (fun J r C=>B80x30 r q f b C J cl kr kp j) i0 h) (B80x407 e a b d h fu cl kr kp j)) kp
theorem eqF80:F80=CF 80 2:=by kernel_rfl
def B81x26:Ans:=SUB Pr 3 true a i1 fun d=>SUB Pr 3 true a i1 fun e=>SA n4 b e fun f=>LDN n4 f h fun g=>SA n4 b a fun m=>LDN n4 m h fun n=>SA n4 b a fun p=>ST n4 p g h fun k=>SA n4 b d fun q=>ST n4 q n k fun l=>SUB Pr 3 true a i1 fun r=>j r l
def B81x62:Ans:=JO (fun f k=>JO (fun g l=>SEL a g bF fun m=>ja m l) fun j=>GW true a (LSS Pr 3 true f i0 fun n=>j n k) (j uU k)) fun J=>GW true a (GEN (callV Pr (some b) [d,e] h) cl J kp) (J uU h)
def B81x69:Ans:=JO (fun g l=>JO (fun m h=>JO (fun n o=>B81x62 a b d n o jb cl kp) fun j=>GW true a (LDN n4 m h fun p=>j p h) (j uU h)) fun J=>GW true a (SA n4 e g fun q=>J q l) (J uU l)) fun ja=>GW true a (SUB Pr 3 true f i1 fun r=>ja r k) (ja uU k)
def B81x76:Ans:=JO (fun m h=>JO (fun n l=>JO (fun p o=>JO (fun q A=>B81x69 a b n p q A jc cl kp) fun j=>GW true a (j d o) (j uU o)) fun J=>GW true a (J e l) (J uU l)) fun ja=>GW true a (LDN n4 m h fun r=>ja r h) (ja uU h)) fun jb=>GW true a (SA n4 f g fun s=>jb s k) (jb uU k)
def B81x80:Ans:=JO (fun m k=>IFB m (B81x26 a d k jb) (ADD Pr 3 true e i1 fun n=>jc n k)) fun jd=>GTR Pr 3 false a f fun b=>JO (fun p l=>JO (fun q o=>JO (fun r A=>B81x76 b p a d q r A jd cl kp) fun j=>GW true b (j a o) (j uU o)) fun J=>GW true b (J d l) (J uU l)) fun ja=>GW true b (ja g h) (ja uU h)
def F81:FX:=fun fu oR cl args k kr kp=>AR4 args fun d b e f=>ADD Pr 3 true b i1 fun g=>LP fu (fun _ _=>Ans.no) (fun j a h=>LSS Pr 3 false a e fun m=>IFB m (LP fu (fun _ _=>Ans.no) (fun J n l=>B81x80 n d a b f l J j cl kp) a h) (kr (.tuple []) h)) g k
theorem eqF81:F81=CF 81 4:=by kernel_rfl
def B90x15:Ans:=OV (convV Pr h 144 5 a) fun d=>SAT (.str n256 (nat_lit 1013866857139168856493015739252390649739422828853819106890363778118420553376247557433637691341895324351018602695588957474325319502760499485336098898398377509666851054660423406800006203933793007272033180812049178612605246075062580585469430410618860250057463399279570354286669047577758927328864388992123306212451509403152394148136105363817402562688186708175358218852349079190158732807302672745370040257219644697201681238697346923541678507645485296520536209706771857694240900605172937619415410180424934769249448772944216470541052485265558808433676546390051204254346932932316488017972311616136051587427851453983453479168)) d fun e=>OV (convV Pr h 5 3 e) fun f=>ADD Pr 3 false b f fun g=>kr g h
def B90x24:Ans:=JO (fun e b k=>JO (fun f g l=>B90x15 g f l kr) fun j=>GEQ Pr 144 true b (.int .u64 n256) fun m=>IFB m (BOP Pr .shr 144 true b (.int .u64 n8) fun n=>ADD Pr 3 true e i8 fun p=>j p n k) (j e b k)) fun J=>GEQ Pr 144 true a (.int .u64 (nat_lit 65536)) fun q=>IFB q (BOP Pr .shr 144 true a (.int .u64 n16) fun r=>ADD Pr 3 true d i16 fun s=>J s r h) (J d a h)
def F90:FX:=fun fu oR cl args h kr kp=>AR1 args fun a=>JO (fun b d k=>B90x24 d b k kr) fun j=>GEQ Pr 144 true a (.int .u64 (nat_lit 4294967296)) fun e=>IFB e (BOP Pr .shr 144 true a (.int .u64 n32) fun f=>j i32 f h) (j i0 a h)
theorem eqF90:F90=CF 90 1:=by kernel_rfl
def B91x32:Ans:=JO (fun f k=>JO (fun g l=>SEL a g bF fun m=>IFB m (ADD Pr 3 true b i1 fun n=>ja n l) (jb b l)) fun j=>GW true a (NEQ Pr 5 true f (.int .u8 n10) fun p=>j p k) (j uU k)) fun J=>GW true a (SAT d e fun q=>J q h) (J uU h)
def B91x42:Ans:=JO jb fun j=>SAT b a fun g=>EQL Pr 5 true g (.int .u8 n35) fun m=>IFB m (LP fu (fun _ _=>Ans.no) (fun jc d k=>LENT b fun n=>LSS Pr 3 false d n fun e=>JO (fun p l=>JO (fun q C=>B91x32 e d p q C jc j) fun J=>GW true e (J d l) (J uU l)) fun ja=>GW true e (ja b k) (ja uU k)) a h) (SAT b a fun r=>cl n153 [r] h (fun s o=>OV (unOpA .not s) fun t=>IFB t (kr a o) (ADD Pr 3 true a i1 fun u=>j u o)) kp)
def F91:FX:=fun fu oR cl args k kr kp=>AR2 args fun b d=>LP fu (fun _ _=>Ans.no) (fun j a h=>LENT b fun e=>LSS Pr 3 false a e fun f=>IFB f (B91x42 a b h j fu cl kr kp) (kr a h)) d k
theorem eqF91:F91=CF 91 2:=by kernel_rfl
def F92:FX:=fun fu oR cl args h kr kp=>AR1 args fun b=>GEQ Pr 5 true b (.int .u8 n48) fun a=>JO (fun d k=>JO (fun e l=>SEL a e bF fun f=>kr f l) fun j=>GW true a (LEQ Pr 5 true d (.int .u8 n57) fun g=>j g k) (j uU k)) fun J=>GW true a (J b h) (J uU h)
theorem eqF92:F92=CF 92 1:=by kernel_rfl
def B93x32:Ans:=OV (sliceA Pr 9 f (some a) (some b) none) fun g=>cl n154 [g] k (fun e l=>EX n0 e fun m=>EX n1 e fun q=>OV (buildA Pr 116 [(n0,i1),(n2,m),(n3,a)]) fun n=>ST n4 d n l fun h=>LDN n4 d h fun p=>kr (.tuple [p,b]) h) kp
def B93x80:Ans:=JO (fun f k=>JO (fun g l=>SEL a g bF fun m=>IFB m (ADD Pr 3 true b i1 fun n=>ja n l) (jb b l)) fun j=>GW true a (cl n92 [f] k j kp) (j uU k)) fun J=>GW true a (SAT d e fun q=>J q h) (J uU h)
def B93x83:Ans:=ADD Pr 3 true e i1 fun f=>LP fu (fun _ _=>Ans.no) (fun jb a h=>LENT d fun g=>LSS Pr 3 false a g fun b=>JO (fun m k=>JO (fun n o=>B93x80 b a m n o jb ja cl kp) fun j=>GW true b (j a k) (j uU k)) fun J=>GW true b (J d h) (J uU h)) f l
def B93x91:Ans:=JO (fun g k=>JO (fun m l=>SEL a m bF fun n=>IFB n (B93x83 d b l j fu cl kp) (j b l)) fun J=>GW true a (cl n92 [g] k J kp) (J uU k)) fun ja=>GW true a (SAT e f fun q=>ja q h) (ja uU h)
def B93x96:Ans:=SEL e f bF fun a=>JO (fun g k=>JO (fun m l=>JO (fun n o=>B93x91 a b d g n o jb fu cl kp) fun j=>GW true a (ADD Pr 3 true m i1 fun p=>j p l) (j uU l)) fun J=>GW true a (J b k) (J uU k)) fun ja=>GW true a (ja d h) (ja uU h)
def B93x102:Ans:=JO (fun f k=>JO (fun g l=>JO (fun m o=>B93x96 b d a m o jb fu cl kp) fun j=>GW true a (EQL Pr 5 true g (.int .u8 n46) fun n=>j n l) (j uU l)) fun J=>GW true a (SAT e f fun p=>J p k) (J uU k)) fun ja=>GW true a (ja b h) (ja uU h)
def B93x104:Ans:=SEL e f bF fun n=>IFB n (ADD Pr 3 true b i1 fun p=>J p h) (JO (fun q k=>B93x32 g q m a k cl kr kp) fun ja=>ADD Pr 3 true b i1 fun r=>LENT a fun s=>LSS Pr 3 false r s fun d=>JO (fun t l=>B93x102 d b a t l ja fu cl kp) fun j=>GW true d (j a h) (j uU h))
def B93x113:Ans:=JO (fun m k=>JO (fun n l=>JO (fun p o=>B93x104 d b a p e f o jb fu cl kr kp) fun j=>GW true a (cl n92 [n] l j kp) (j uU l)) fun J=>GW true a (SAT g m fun r=>J r k) (J uU k)) fun ja=>GW true a (ja b h) (ja uU h)
def F93:FX:=fun fu oR cl args k kr kp=>AR2 args fun a b=>NEWC (.n (some i0) (.n (some s0) (.n (some i0) .e .e) .e) (.n (some i0) .e .e)) n4 116 k fun f l=>LP fu (fun _ _=>Ans.no) (fun J d h=>LENT a fun g=>LSS Pr 3 false d g fun e=>JO (fun m o=>B93x113 e d a b f m o J fu cl kr kp) fun j=>GW true e (j a h) (j uU h)) b l
theorem eqF93:F93=CF 93 2:=by kernel_rfl
def B94x56:Ans:=JO (fun g k=>IFB g (SAT e f fun m=>J m k) (OV (buildA Pr 116 []) fun n=>ST n4 a n k fun l=>LDN n4 a l fun p=>kr (.tuple [p,(.int .i64 (nat_lit 18446744073709551615))]) l)) fun j=>EQL Pr 5 true b (.int .u8 n34) fun d=>IFB d (j d h) (EQL Pr 5 true b (.int .u8 n92) fun q=>j q h)
def B94x57 (J:AV → AV → Heap → Ans):Ans:=ADD Pr 3 true f i1 fun a=>LENT b fun g=>EQL Pr 3 false a g fun m=>IFB m (OV (buildA Pr 116 []) fun n=>ST n4 d n h fun k=>LDN n4 d k fun p=>kr (.tuple [p,(.int .i64 (nat_lit 18446744073709551615))]) k) (SAT b a fun e=>JO (fun q l=>J q a l) fun j=>EQL Pr 5 true e (.int .u8 n110) fun r=>IFB r (j (.int .u8 n10) h) (EQL Pr 5 true e (.int .u8 n116) fun s=>IFB s (j (.int .u8 n9) h) (B94x56 d e b a h j kr)))
def B94x58 (J:AV → AV → Heap → Ans):Ans:=JO (fun g m k=>BSL n5 n1 [(.int .u8 n0)] n1 [(n0,g)] k fun n l=>GEN (builtinF .append Pr [22,22] [d,n] l) cl (fun p o=>ADD Pr 3 true m i1 fun q=>J q p o) kp) fun j=>EQL Pr 5 true a (.int .u8 n92) fun r=>IFB r (B94x57 e f b h kr j) (j a b h)
def B94x59 (j:AV → AV → Heap → Ans):Ans:=SAT e b fun d=>EQL Pr 5 true d (.int .u8 n34) fun m=>IFB m (OV (convV Pr h 22 9 f) fun n=>OV (buildA Pr 116 [(n0,i2),(n1,n),(n3,g)]) fun p=>ADD Pr 3 true b i1 fun q=>ST n4 a p h fun k=>LDN n4 a k fun r=>kr (.tuple [r,q]) k) (EQL Pr 5 true d (.int .u8 n10) fun s=>IFB s (OV (buildA Pr 116 []) fun t=>ST n4 a t h fun l=>LDN n4 a l fun u=>kr (.tuple [u,(.int .i64 (nat_lit 18446744073709551615))]) l) (B94x58 d b f e a h cl kr kp j))
def F94:FX:=fun fu oR cl args l kr kp=>AR2 args fun b d=>NEWC (.n (some i0) (.n (some s0) (.n (some i0) .e .e) .e) (.n (some i0) .e .e)) n4 116 l fun a o=>ADD Pr 3 true d i1 fun f=>LP fu (fun _ _ _=>Ans.no) (fun j e g h=>LENT b fun m=>LSS Pr 3 false e m fun n=>IFB n (B94x59 a e b g d h cl kr kp j) (OV (buildA Pr 116 []) fun p=>ST n4 a p h fun k=>LDN n4 a k fun q=>kr (.tuple [q,(.int .i64 (nat_lit 18446744073709551615))]) k)) f (.nilslice) o
theorem eqF94:F94=CF 94 2:=by kernel_rfl
def B95x31:Ans:=JO (fun g k=>SEL b bT g fun a=>JO (fun m l=>JO (fun n o=>SEL a bT n fun p=>kr p o) fun j=>GW false a (EQL Pr 5 true m (.int .u8 n95) fun q=>j q l) (j uU l)) fun J=>GW false a (J d k) (J uU k)) fun ja=>GW false b (SEL e f bF fun r=>ja r h) (ja uU h)
def B95x36:Ans:=JO (fun a k=>JO (fun f l=>JO (fun g o=>B95x31 b d a g o kr) fun j=>GW true a (LEQ Pr 5 true f (.int .u8 n122) fun m=>j m l) (j uU l)) fun J=>GW true a (J d k) (J uU k)) fun ja=>GW false b (ja e h) (ja uU h)
def B95x42:Ans:=JO (fun f k=>SEL b f bF fun a=>JO (fun g l=>JO (fun m o=>B95x36 a d m o kr) fun j=>GW false a (GEQ Pr 5 true g (.int .u8 n97) fun n=>j n l) (j uU l)) fun J=>GW false a (J d k) (J uU k)) fun ja=>GW true b (LEQ Pr 5 true e (.int .u8 n90) fun p=>ja p h) (ja uU h)
def F95:FX:=fun fu oR cl args h kr kp=>AR1 args fun a=>GEQ Pr 5 true a (.int .u8 n65) fun b=>JO (fun d k=>B95x42 b a d k kr) fun j=>GW true b (j a h) (j uU h)
theorem eqF95:F95=CF 95 1:=by kernel_rfl
def B96x60 (j:Heap → Ans):Ans:=JO (fun f k=>JO (fun g l=>SEL a g bF fun m=>IFB m (FA n0 b fun n=>ST n1 n i5 l fun o=>j o) (j l)) fun J=>GW true a (EQL Pr 5 true f (.int .u8 n40) fun p=>J p k) (J uU k)) fun ja=>GW true a (SAT d e fun q=>ja q h) (ja uU h)
def B96x63:Ans:=JO (fun l=>LDN n4 a l fun g=>ST n4 e g l fun o=>LDN n4 e o fun m=>kr (.tuple [m,b]) o) fun j=>FA n1 a fun n=>LD n k fun p=>cl n156 [p] k (fun q h=>IFB q (FA n0 a fun r=>ST n1 r i6 h fun C=>j C) (LENT f fun s=>LSS Pr 3 false b s fun d=>JO (fun t A=>JO (fun u D=>B96x60 d a t u D j) fun J=>GW true d (J b A) (J uU A)) fun ja=>GW true d (ja f h) (ja uU h))) kp
def B96x64:Ans:=OV (sliceA Pr 9 e (some a) (some b) none) fun g=>OV (buildA Pr 116 [(n0,i4),(n1,g),(n3,a)]) fun m=>NEWC (.n (some i0) (.n (some s0) (.n (some i0) .e .e) .e) (.n (some i0) .e .e)) n4 116 l fun f o=>ST n4 f m o fun h=>SUB Pr 3 false b a fun n=>GTR Pr 3 true n i40 fun p=>IFB p (OV (buildA Pr 116 []) fun q=>ST n4 d q h fun k=>LDN n4 d k fun r=>kr (.tuple [r,(.int .i64 (nat_lit 18446744073709551615))]) k) (B96x63 f b d e h cl kr kp)
def B96x72:Ans:=JO (fun n k=>JO (fun p l=>SEL a p bF fun q=>IFB q (ADD Pr 3 true b i1 fun r=>ja r l) (B96x64 e b f d l cl kr kp)) fun j=>GW true a (cl n155 [n] k j kp) (j uU k)) fun J=>GW true a (SAT g m fun t=>J t h) (J uU h)
def F96:FX:=fun fu oR cl args l kr kp=>AR2 args fun a e=>NEWC (.n (some i0) (.n (some s0) (.n (some i0) .e .e) .e) (.n (some i0) .e .e)) n4 116 l fun f o=>LP fu (fun _ _=>Ans.no) (fun ja b h=>LENT a fun g=>LSS Pr 3 false b g fun d=>JO (fun m k=>JO (fun n A=>B96x72 d b a e f m n A ja cl kr kp) fun j=>GW true d (j b k) (j uU k)) fun J=>GW true d (J a h) (J uU h)) e o
theorem eqF96:F96=CF 96 2:=by kernel_rfl
def B99x26:Ans:=IFB e (SA n1 f a fun m=>LD m h fun n=>OV (buildA Pr 116 [(n0,i7),(n1,n),(n3,b)]) fun p=>ADD Pr 3 false b g fun q=>ST n4 d p h fun k=>LDN n4 d k fun r=>kr (.tuple [r,q]) k) (ADD Pr 3 true a i1 fun s=>j s h)
def B99x60:Ans:=JO (fun f h=>JO (fun g l=>JO (fun m o=>SEL a m bF fun n=>jb n o) fun j=>GW true a (EQL Pr 9 false b g fun p=>j p l) (j uU l)) fun J=>GW true a (LD f h fun q=>J q h) (J uU h)) fun ja=>GW true a (SA n1 d e fun r=>ja r k) (ja uU k)
def B99x65:Ans:=JO (fun m k=>JO (fun n l=>JO (fun p o=>B99x60 a m n p o jb) fun j=>GW true a (j b l) (j uU l)) fun J=>GW true a (J d k) (J uU k)) fun ja=>GW true a (OV (sliceA Pr 9 e (some f) (some g) none) fun q=>ja q h) (ja uU h)
def B99x71:Ans:=JO (fun m k=>JO (fun n l=>JO (fun p o=>JO (fun q A=>B99x65 a d e f m q A jc) fun j=>GW true a (ADD Pr 3 false n p fun r=>j r o) (j uU o)) fun J=>GW true a (J g l) (J uU l)) fun ja=>GW true a (ja b k) (ja uU k)) fun jb=>GW true a (jb b h) (jb uU h)
def B99x73:Ans:=SA n1 a b fun n=>LD n h fun p=>LENT p fun e=>JO (fun q k=>B99x26 b d m q a e k J kr) fun ja=>ADD Pr 3 false d e fun r=>LENT f fun s=>LEQ Pr 3 false r s fun g=>JO (fun t l=>B99x71 g d b a t e l ja) fun j=>GW true g (j f h) (j uU h)
def F99:FX:=fun fu oR cl args l kr kp=>AR2 args fun e f=>NEWC (.n (some i0) (.n (some s0) (.n (some i0) .e .e) .e) (.n (some i0) .e .e)) n4 116 l fun a o=>cl n157 [] o (fun b A=>LP fu (fun _ _=>Ans.no) (fun j d h=>LENS b fun g=>LSS Pr 3 false d g fun m=>IFB m (B99x73 b d f e a h j kr) (OV (buildA Pr 116 []) fun n=>ST n4 a n h fun k=>LDN n4 a k fun p=>kr (.tuple [p,(.int .i64 (nat_lit 18446744073709551615))]) k)) i0 A) kp
theorem eqF99:F99=CF 99 2:=by kernel_rfl
def B100x24:Ans:=JO (fun e h=>SEL a bT e fun f=>IFB f (kr bF h) (NC b fun g=>FA n1 g fun m=>LD m h fun n=>ADD Pr 3 true n i1 fun p=>NC b fun q=>FA n1 q fun r=>ST n1 r p h fun l=>kr bT l)) fun j=>GW false a (OV (unOpA .not d) fun s=>j s k) (j uU k)
def F100:FX:=fun fu oR cl args h kr kp=>AR2 args fun b d=>NC b fun e=>FA n5 e fun f=>LD f h fun a=>JO (fun g k=>JO (fun m l=>JO (fun n o=>B100x24 a b n o kr) fun j=>GW false a (cl n102 [g,m] l j kp) (j uU l)) fun J=>GW false a (J d k) (J uU k)) fun ja=>GW false a (ja b h) (ja uU h)
theorem eqF100:F100=CF 100 2:=by kernel_rfl
def B101x92 (j:Heap → Ans):Ans:=FA n2 d fun a=>LD a h fun b=>cl n160 [e] h (fun f k=>LD a k fun g=>EQV b g <| BSL n9 n1 [s0] n1 [(n0,f)] k fun m l=>LD a l fun n=>EQV b n <| GEN (builtinF .append Pr [46,46] [b,m] l) cl (fun p o=>FA n2 d fun q=>ST n1 q p o fun A=>j A) kp) kp
def B101x97 (j:Heap → Ans):Ans:=cl n160 [a] k (fun d l=>BSL n9 n1 [s0] n1 [(n0,d)] l fun e o=>FA n2 b fun f=>ST n1 f e o fun A=>LP fu (fun _=>Ans.no) (fun J C=>cl n100 [a,(.str n1 n44)] C (fun g h=>IFB g (B101x92 b a h cl kp J) (cl n159 [a,(.str n1 n41)] h (fun m D=>j D) kp)) kp) A) kp
def B101x98:Ans:=NC a fun f=>FA n1 f fun g=>LD g h fun m=>ADD Pr 3 true m i1 fun n=>NC a fun p=>FA n1 p fun q=>ST n1 q n h fun k=>FA n1 e fun r=>LD r k fun s=>FA n1 b fun t=>ST n1 t s k fun C=>cl n159 [a,(.str n1 n40)] C (fun c D=>JO (fun E=>cl n104 [a] E (fun u G=>FA n4 b fun v=>ST n1 v u G fun l=>LDN n5 b l fun w=>ST n5 d w l fun o=>LDN n5 d o fun x=>kr x o) kp) fun j=>cl n100 [a,(.str n1 n41)] D (fun y A=>OV (unOpA .not y) fun z=>IFB z (B101x97 a b A fu cl kp j) (j A)) kp) kp
def B101x101:Ans:=JO (fun m k=>SEL b m bF fun n=>IFB n (NC d fun p=>FA n5 p fun q=>ST n1 q bT k fun l=>LDN n5 e l fun r=>ST n5 a r l fun o=>LDN n5 a o fun s=>kr s o) (B101x98 d e a f k fu cl kr kp)) fun j=>GW true b (NEQ Pr 3 true g i5 fun t=>j t h) (j uU h)
def F101:FX:=fun fu oR cl args l kr kp=>AR1 args fun d=>NEWC (.n (some i0) (.n (some s0) (.n (some i0) .e .e) .e) (.n (some (.nilslice)) (.n (some i0) .e .e) .e)) n5 61 l fun f o=>OV (buildA Pr 61 [(n0,i4),(n3,(.int .i64 (nat_lit 18446744073709551615)))]) fun g=>NEWC (.n (some i0) (.n (some s0) (.n (some i0) .e .e) .e) (.n (some (.nilslice)) (.n (some i0) .e .e) .e)) n5 61 o fun e A=>ST n5 e g A fun C=>cl n158 [d] C (fun m D=>NEWC (.n (some i0) (.n (some s0) (.n (some i0) .e .e) .e) (.n (some i0) .e .e)) n4 116 D fun a E=>ST n4 a m E fun h=>FA n0 a fun n=>LD n h fun p=>NEQ Pr 3 true p i4 fun b=>JO (fun q k=>JO (fun r G=>B101x101 f b d e a r G fu cl kr kp) fun j=>GW true b (LD q k fun s=>j s k) (j uU k)) fun J=>GW true b (FA n0 a fun t=>J t h) (J uU h)) kp
theorem eqF101:F101=CF 101 1:=by kernel_rfl
def B102x34:Ans:=JO (fun e k=>JO (fun f l=>JO (fun g o=>SEL a g bF fun m=>kr m o) fun j=>GW true a (EQL Pr 9 false e f fun n=>j n l) (j uU l)) fun J=>GW true a (J b k) (J uU k)) fun ja=>GW true a (LD d h fun p=>ja p h) (ja uU h)
def B102x41:Ans:=JO (fun g k=>JO (fun m l=>SEL a bT m fun b=>JO (fun n o=>B102x34 b d n o kr) fun j=>GW true b (FA n1 e fun p=>j p l) (j uU l)) fun J=>GW false a (EQL Pr 3 true g i6 fun q=>J q k) (J uU k)) fun ja=>GW false a (LD f h fun r=>ja r h) (ja uU h)
def F102:FX:=fun fu oR cl args k kr kp=>AR2 args fun d e=>cl n158 [d] k (fun f l=>NEWC (.n (some i0) (.n (some s0) (.n (some i0) .e .e) .e) (.n (some i0) .e .e)) n4 116 l fun a o=>ST n4 a f o fun h=>FA n0 a fun g=>LD g h fun m=>EQL Pr 3 true m i7 fun b=>JO (fun n A=>B102x41 b e a n A kr) fun j=>GW false b (FA n0 a fun p=>j p h) (j uU h)) kp
theorem eqF102:F102=CF 102 2:=by kernel_rfl
def B103x58:Ans:=cl n103 [a] h (fun d k=>BSL n3 n1 [i0,i0] n2 [(n0,b),(n1,d)] k fun e l=>OV (buildA Pr 94 [(n0,i7),(n4,e)]) fun f=>cl n163 [a,f] l j kp) kp
def B103x74:Ans:=cl n103 [a] h (fun d k=>BSL n3 n1 [i0,i0] n2 [(n0,b),(n1,d)] k fun e l=>OV (buildA Pr 94 [(n0,i8),(n4,e)]) fun f=>cl n163 [a,f] l j kp) kp
def B103x75:Ans:=SEL d bT e fun f=>IFB f (cl n100 [a,(.str n1 n61)] h (fun g k=>IFB g (B103x58 a b k j cl kp) (cl n100 [a,(.str n2 (nat_lit 15659))] k (fun m l=>IFB m (B103x74 a b l j cl kp) (j b l)) kp)) kp) (j b h)
def B103x81:Ans:=JO (fun m k=>SEL b bT m fun a=>JO (fun n l=>JO (fun p o=>B103x75 d e a p o jb cl kp) fun j=>GW false a (EQL Pr 3 true n i5 fun q=>j q l) (j uU l)) fun J=>GW false a (J f k) (J uU k)) fun ja=>GW false b (EQL Pr 3 true g i4 fun r=>ja r h) (ja uU h)
def B103x83:Ans:=NC b fun f=>FA n3 f fun g=>FA n0 g fun m=>LD m h fun n=>SA n5 n d fun p=>FA n0 p fun q=>LD q h fun a=>EQL Pr 3 true a i3 fun e=>JO (fun r k=>B103x81 e b d a r k J cl kp) fun j=>GW false e (j a h) (j uU h)
def B103x84:Ans:=cl n162 [a] l (fun b h=>JO (fun d k=>NC a fun e=>FA n2 e fun f=>LD f k fun g=>SUB Pr 3 true g i1 fun m=>NC a fun n=>FA n2 n fun p=>ST n1 p m k fun o=>kr d o) fun j=>NC a fun q=>FA n5 q fun r=>LD r h fun s=>OV (unOpA .not s) fun t=>IFB t (B103x83 a b h j cl kp) (j b h)) kp
def F103:FX:=fun fu oR cl args k kr kp=>AR1 args fun a=>cl n161 [a] k (fun b h=>OV (unOpA .not b) fun d=>IFB d (kr i0 h) (B103x84 a h cl kr kp)) kp
theorem eqF103:F103=CF 103 1:=by kernel_rfl
def B104x39:Ans:=SEL d e bF fun f=>IFB f (cl n164 [a] h (fun g k=>BSL n3 n1 [i0] n1 [(n0,g)] k fun m l=>GEN (builtinF .append Pr [92,92] [b,m] l) cl j kp) kp) (cl n159 [a,(.str n1 n125)] h (fun r A=>OV (buildA Pr 94 [(n0,i53),(n4,b)]) fun p=>cl n163 [a,p] A kr kp) kp)
def B104x48:Ans:=NC b fun e=>FA n5 e fun f=>LD f h fun g=>OV (unOpA .not g) fun a=>JO (fun m k=>JO (fun n l=>JO (fun p o=>B104x39 b d a p o jb cl kr kp) fun j=>GW true a (OV (unOpA .not n) fun q=>j q l) (j uU l)) fun J=>GW true a (cl n102 [m,(.str n1 n125)] k J kp) (J uU k)) fun ja=>GW true a (ja b h) (ja uU h)
def F104:FX:=fun fu oR cl args h kr kp=>AR1 args fun a=>cl n159 [a,(.str n1 n123)] h (fun d k=>LP fu (fun _ _=>Ans.no) (fun j b l=>B104x48 a b l j cl kr kp) (.nilslice) k) kp
theorem eqF104:F104=CF 104 1:=by kernel_rfl
def B105x48:Ans:=LDN n2 a h fun d=>FA n4 b fun e=>LD e h fun f=>SA n1 f i0 fun g=>LD g h fun m=>cl n105 [d,m] h (fun n k=>ADD Pr 9 true (.str n2 (nat_lit 10276)) n fun p=>ADD Pr 9 true p (.str n1 n41) fun q=>kr q k) kp
def B105x65:Ans:=FA n1 a fun b=>LD b h fun d=>ADD Pr 9 true d (.str n1 n91) fun f=>LDN n2 e h fun g=>FA n4 a fun m=>LD m h fun n=>SA n1 n i0 fun p=>LD p h fun q=>cl n105 [g,q] h (fun r k=>LD b k fun s=>EQV d s <| ADD Pr 9 false f r fun t=>ADD Pr 9 true t (.str n1 n93) fun u=>kr u k) kp
def B105x83:Ans:=LDN n2 e h fun f=>FA n4 a fun g=>LD g h fun m=>SA n1 m i0 fun n=>LD n h fun p=>FA n1 a fun b=>LD b h fun d=>cl n105 [f,p] h (fun q k=>LD b k fun r=>EQV d r <| ADD Pr 9 true (.str n1 n40) q fun s=>ADD Pr 9 true s (.str n4 (nat_lit 544106784)) fun t=>ADD Pr 9 false t d fun u=>ADD Pr 9 true u (.str n1 n41) fun v=>kr v k) kp
def B105x127:Ans:=LDN n2 a h fun t=>FA n4 b fun u=>LD u h fun v=>SA n1 v i0 fun w=>LD w h fun x=>LDN n2 a h fun n=>FA n4 b fun p=>LD p h fun q=>SA n1 q i1 fun r=>LD r h fun s=>LDN n2 a h fun d=>FA n4 b fun e=>LD e h fun f=>SA n1 f i2 fun g=>LD g h fun m=>cl n105 [t,x] h (fun y k=>LD g k fun z=>EQV m z <| LD e k fun c=>EQV f c <| LDN n2 a k fun i=>EQV d i <| LD r k fun aa=>EQV s aa <| LD p k fun ab=>EQV q ab <| LDN n2 a k fun ac=>EQV n ac <| ADD Pr 9 true (.str n1 n40) y fun ad=>ADD Pr 9 true ad (.str n3 (nat_lit 2113312)) fun ae=>cl n105 [n,s] k (fun af l=>LD g l fun ag=>EQV m ag <| LD e l fun ah=>EQV f ah <| LDN n2 a l fun ai=>EQV d ai <| ADD Pr 9 false ae af fun aj=>ADD Pr 9 true aj (.str n3 (nat_lit 2112032)) fun ak=>cl n105 [d,m] l (fun al o=>ADD Pr 9 false ak al fun am=>ADD Pr 9 true am (.str n1 n41) fun an=>kr an o) kp) kp) kp
def B105x140:Ans:=LDN n2 a h fun d=>FA n4 b fun e=>LD e h fun f=>SA n1 f i0 fun g=>LD g h fun m=>cl n105 [d,m] h (fun n k=>ADD Pr 9 true (.str n2 n8488) n fun p=>ADD Pr 9 true p (.str n1 n41) fun q=>kr q k) kp
def B105x153:Ans:=LDN n2 a h fun d=>FA n4 b fun e=>LD e h fun f=>SA n1 f i0 fun g=>LD g h fun m=>cl n105 [d,m] h (fun n k=>ADD Pr 9 true (.str n2 (nat_lit 11560)) n fun p=>ADD Pr 9 true p (.str n1 n41) fun q=>kr q k) kp
def B105x180:Ans:=LDN n2 a h fun n=>FA n4 b fun p=>LD p h fun q=>SA n1 q i0 fun r=>LD r h fun s=>LDN n2 a h fun d=>FA n4 b fun e=>LD e h fun f=>SA n1 f i1 fun g=>LD g h fun m=>cl n105 [n,s] h (fun t k=>LD g k fun u=>EQV m u <| LD e k fun v=>EQV f v <| LDN n2 a k fun w=>EQV d w <| ADD Pr 9 true (.str n1 n40) t fun x=>ADD Pr 9 true x (.str n1 n32) fun y=>cl n105 [d,m] k (fun z l=>ADD Pr 9 false y z fun c=>ADD Pr 9 true c (.str n1 n41) fun i=>kr i l) kp) kp
def B105x195:Ans:=FA n1 a fun b=>LD b h fun d=>ADD Pr 9 true d (.str n1 n40) fun f=>LDN n2 e h fun g=>FA n4 a fun m=>LD m h fun n=>cl n166 [g,n] h (fun p k=>LD b k fun q=>EQV d q <| ADD Pr 9 false f p fun r=>ADD Pr 9 true r (.str n1 n41) fun s=>kr s k) kp
def B105x231:Ans:=ADD Pr 9 true a (.str n2 n8236) fun e=>LDN n2 b h fun f=>FA n4 d fun g=>LD g h fun m=>SA n1 m i1 fun n=>LD n h fun p=>cl n105 [f,p] h (fun q k=>ADD Pr 9 false e q fun r=>j r k) kp
def B105x232:Ans:=LDN n2 b h fun g=>FA n4 a fun m=>LD m h fun n=>SA n1 n i0 fun p=>LD p h fun q=>FA n2 a fun d=>LD d h fun e=>cl n105 [g,q] h (fun r k=>LD d k fun s=>EQV e s <| ADD Pr 9 true (.str n6 (nat_lit 44480450031731)) r fun t=>ADD Pr 9 true t (.str n2 n8236) fun u=>ADD Pr 9 false u e fun f=>JO (fun v l=>ADD Pr 9 true v (.str n1 n41) fun w=>kr w l) fun j=>FA n4 a fun x=>LD x k fun y=>LENS y fun z=>EQL Pr 3 true z i2 fun c=>IFB c (B105x231 f b a k j cl kp) (j f k)) kp
def B105x253:Ans:=FA n0 a fun g=>LD g h fun m=>LDN n2 b h fun d=>FA n4 a fun e=>LD e h fun f=>cl n167 [m] h (fun n k=>LD e k fun p=>EQV f p <| LDN n2 b k fun q=>EQV d q <| ADD Pr 9 true n (.str n1 n40) fun r=>cl n166 [d,f] k (fun s l=>ADD Pr 9 false r s fun t=>ADD Pr 9 true t (.str n1 n41) fun u=>kr u l) kp) kp
def B105x291:Ans:=LDN n2 a h fun q=>FA n4 b fun r=>LD r h fun s=>SA n1 s i0 fun t=>LD t h fun u=>FA n0 b fun n=>LD n h fun p=>LDN n2 a h fun d=>FA n4 b fun e=>LD e h fun f=>SA n1 f i1 fun g=>LD g h fun m=>cl n105 [q,u] h (fun v k=>LD g k fun w=>EQV m w <| LD e k fun x=>EQV f x <| LDN n2 a k fun y=>EQV d y <| LD n k fun z=>EQV p z <| ADD Pr 9 true (.str n1 n40) v fun c=>ADD Pr 9 true c (.str n1 n32) fun i=>cl n168 [p] k (fun aa l=>LD g l fun ab=>EQV m ab <| LD e l fun ac=>EQV f ac <| LDN n2 a l fun ad=>EQV d ad <| ADD Pr 9 false i aa fun ae=>ADD Pr 9 true ae (.str n1 n32) fun af=>cl n105 [d,m] l (fun ag o=>ADD Pr 9 false af ag fun ah=>ADD Pr 9 true ah (.str n1 n41) fun ai=>kr ai o) kp) kp) kp
def B105x298:Ans:=EQL Pr 3 true a i28 fun b=>IFB b (j b h) (EQL Pr 3 true a i29 fun d=>IFB d (j d h) (EQL Pr 3 true a i31 fun e=>IFB e (j e h) (EQL Pr 3 true a i32 fun f=>j f h)))
def B105x299:Ans:=EQL Pr 3 true a i30 fun f=>IFB f (B105x232 d b h cl kr kp) (JO (fun g k=>IFB g (B105x253 d b k cl kr kp) (B105x291 b d k cl kr kp)) fun j=>EQL Pr 3 true a i27 fun e=>IFB e (j e h) (B105x298 a h j))
def B105x300:Ans:=EQL Pr 3 true a i25 fun e=>IFB e (B105x153 b d h cl kr kp) (EQL Pr 3 true a i19 fun f=>IFB f (B105x180 b d h cl kr kp) (EQL Pr 3 true a i26 fun g=>IFB g (B105x195 d b h cl kr kp) (B105x299 a b d h cl kr kp)))
def B105x301:Ans:=EQL Pr 3 true a i6 fun e=>IFB e (B105x83 d b h cl kr kp) (EQL Pr 3 true a i9 fun f=>IFB f (B105x127 b d h cl kr kp) (EQL Pr 3 true a i12 fun g=>IFB g (B105x140 b d h cl kr kp) (B105x300 a b d h cl kr kp)))
def B105x302:Ans:=EQL Pr 3 true a i3 fun e=>IFB e (FA n1 b fun f=>LD f h fun g=>kr g h) (EQL Pr 3 true a i4 fun m=>IFB m (B105x48 d b h cl kr kp) (EQL Pr 3 true a i5 fun n=>IFB n (B105x65 b d h cl kr kp) (B105x301 a d b h cl kr kp)))
def B105x303:Ans:=EQL Pr 3 true a i1 fun e=>IFB e (FA n1 b fun f=>LD f h fun g=>cl n165 [g] h kr kp) (EQL Pr 3 true a i2 fun n=>IFB n (FA n1 b fun p=>LD p h fun q=>ADD Pr 9 true (.str n2 (nat_lit 12072)) q fun r=>ADD Pr 9 true r (.str n2 (nat_lit 10543)) fun s=>kr s h) (B105x302 a b d h cl kr kp))
def F105:FX:=fun fu oR cl args l kr kp=>AR2 args fun e f=>BOX 40 e l fun b k=>FA n0 b fun g=>LD g k fun m=>SA n5 m f fun n=>LDN n5 n k fun p=>NEWC (.n (some i0) (.n (some s0) (.n (some i0) .e .e) .e) (.n (some s0) (.n (some (.nilslice)) .e .e) .e)) n5 94 k fun a o=>ST n5 a p o fun h=>FA n0 a fun q=>LD q h fun d=>EQL Pr 3 true d i0 fun r=>IFB r (FA n3 a fun s=>LD s h fun t=>cl n13 [t] h kr kp) (B105x303 d a b h cl kr kp)
theorem eqF105:F105=CF 105 2:=by kernel_rfl
def B106x84:Ans:=ADD Pr 9 true a (.str n6 (nat_lit 35620100269344)) fun e=>LDN n2 b h fun f=>FA n4 d fun g=>LD g h fun m=>SA n1 m i2 fun n=>LD n h fun p=>cl n106 [f,p] h (fun q k=>ADD Pr 9 false e q fun r=>j r k) kp
def B106x85:Ans:=LDN n2 a h fun p=>FA n4 b fun q=>LD q h fun r=>SA n1 r i0 fun s=>LD s h fun t=>LDN n2 a h fun d=>FA n4 b fun e=>LD e h fun f=>SA n1 f i1 fun g=>LD g h fun m=>cl n105 [p,t] h (fun u k=>LD g k fun v=>EQV m v <| LD e k fun w=>EQV f w <| LDN n2 a k fun x=>EQV d x <| ADD Pr 9 true (.str n4 (nat_lit 673212009)) u fun y=>ADD Pr 9 true y (.str n2 n8233) fun z=>cl n106 [d,m] k (fun c l=>ADD Pr 9 false z c fun n=>JO kr fun j=>FA n4 b fun aa=>LD aa l fun ab=>LENS ab fun ac=>EQL Pr 3 true ac i3 fun ad=>IFB ad (B106x84 n a b l j cl kp) (j n l)) kp) kp
def B106x111:Ans:=LDN n2 a h fun n=>FA n4 b fun p=>LD p h fun q=>SA n1 q i0 fun r=>LD r h fun s=>LDN n2 a h fun d=>FA n4 b fun e=>LD e h fun f=>SA n1 f i1 fun g=>LD g h fun m=>cl n105 [n,s] h (fun t k=>LD g k fun u=>EQV m u <| LD e k fun v=>EQV f v <| LDN n2 a k fun w=>EQV d w <| ADD Pr 9 true (.str n7 (nat_lit 11294619051059319)) t fun x=>ADD Pr 9 true x (.str n2 n8233) fun y=>cl n106 [d,m] k (fun z l=>ADD Pr 9 false y z fun c=>kr c l) kp) kp
def B106x174:Ans:=LDN n2 a h fun y=>FA n4 b fun z=>LD z h fun c=>SA n1 c i0 fun i=>LD i h fun aa=>LDN n2 a h fun t=>FA n4 b fun u=>LD u h fun v=>SA n1 v i1 fun w=>LD w h fun x=>LDN n2 a h fun n=>FA n4 b fun p=>LD p h fun q=>SA n1 q i2 fun r=>LD r h fun s=>LDN n2 a h fun d=>FA n4 b fun e=>LD e h fun f=>SA n1 f i3 fun g=>LD g h fun m=>cl n105 [y,aa] h (fun ab k=>LD g k fun ac=>EQV m ac <| LD e k fun ad=>EQV f ad <| LDN n2 a k fun ae=>EQV d ae <| LD r k fun af=>EQV s af <| LD p k fun ag=>EQV q ag <| LDN n2 a k fun ah=>EQV n ah <| LD w k fun ai=>EQV x ai <| LD u k fun aj=>EQV v aj <| LDN n2 a k fun ak=>EQV t ak <| ADD Pr 9 true (.str n5 (nat_lit 172343062374)) ab fun al=>ADD Pr 9 true al (.str n2 n8251) fun am=>cl n105 [t,x] k (fun an l=>LD g l fun ao=>EQV m ao <| LD e l fun ap=>EQV f ap <| LDN n2 a l fun aq=>EQV d aq <| LD r l fun ar=>EQV s ar <| LD p l fun au=>EQV q au <| LDN n2 a l fun av=>EQV n av <| ADD Pr 9 false am an fun aw=>ADD Pr 9 true aw (.str n2 n8251) fun ax=>cl n105 [n,s] l (fun ay o=>LD g o fun az=>EQV m az <| LD e o fun ba=>EQV f ba <| LDN n2 a o fun bb=>EQV d bb <| ADD Pr 9 false ax ay fun bc=>ADD Pr 9 true bc (.str n2 n8233) fun bd=>cl n106 [d,m] o (fun be A=>ADD Pr 9 false bd be fun bf=>kr bf A) kp) kp) kp) kp
def B106x196:Ans:=FA n1 a fun b=>LD b h fun d=>ADD Pr 9 true (.str n5 (nat_lit 172343062374)) d fun m=>ADD Pr 9 true m (.str n4 (nat_lit 544106784)) fun n=>FA n2 a fun e=>LD e h fun f=>ADD Pr 9 false n f fun p=>ADD Pr 9 true p (.str n2 n8233) fun q=>LDN n2 g h fun r=>FA n4 a fun s=>LD s h fun t=>SA n1 t i0 fun u=>LD u h fun v=>cl n106 [r,v] h (fun w k=>LD e k fun x=>EQV f x <| LD b k fun y=>EQV d y <| ADD Pr 9 false q w fun z=>kr z k) kp
def B106x233:Ans:=FA n1 a fun b=>LD b h fun d=>ADD Pr 9 true (.str n7 (nat_lit 9118749846955364)) d fun f=>ADD Pr 9 true f (.str n1 n91) fun g=>LDN n2 e h fun m=>FA n4 a fun n=>LD n h fun p=>SA n1 p i0 fun q=>LD q h fun r=>cl n105 [m,r] h (fun s k=>LD b k fun t=>EQV d t <| ADD Pr 9 false g s fun u=>ADD Pr 9 true u (.str n2 (nat_lit 15197)) fun v=>kr v k) kp
def B106x254 (j:AV → AV → Heap → Ans):Ans:=LDN n2 b h fun f=>FA n4 d fun g=>LD g h fun m=>SA n1 m a fun n=>LD n h fun p=>cl n106 [f,p] h (fun q k=>ADD Pr 9 false e q fun r=>ADD Pr 9 true r (.str n1 n32) fun s=>ADD Pr 3 true a i1 fun t=>j t s k) kp
def B106x256:Ans:=LP fu (fun _ _ _=>Ans.no) (fun j b d h=>FA n4 a fun f=>LD f h fun g=>LENS g fun m=>LSS Pr 3 false b m fun n=>IFB n (B106x254 b e a d h cl kp j) (ADD Pr 9 true d (.str n1 n125) fun p=>kr p h)) i0 (.str n2 n8315) k
def B106x257:Ans:=EQL Pr 3 true d i51 fun e=>IFB e (LDN n2 a h fun f=>FA n4 b fun g=>LD g h fun m=>cl n169 [f,(.str n6 (nat_lit 121437875889522)),m] h kr kp) (EQL Pr 3 true d i52 fun p=>IFB p (B106x233 b a h cl kr kp) (B106x256 b a h fu cl kr kp))
def B106x258:Ans:=EQL Pr 3 true a i50 fun e=>IFB e (LDN n2 b h fun f=>FA n4 d fun g=>LD g h fun m=>cl n169 [f,(.str n4 (nat_lit 1953069157)),m] h kr kp) (B106x257 b d a h fu cl kr kp)
def B106x259:Ans:=EQL Pr 3 true a i47 fun e=>IFB e (kr (.str n6 (nat_lit 65332381577826)) h) (EQL Pr 3 true a i48 fun f=>IFB f (kr (.str n9 (nat_lit 1095668771318173429603)) h) (EQL Pr 3 true a i49 fun g=>IFB g (kr (.str n5 (nat_lit 255357117806)) h) (B106x258 a b d h fu cl kr kp)))
def B106x260:Ans:=EQL Pr 3 true a i44 fun e=>IFB e (B106x111 b d h cl kr kp) (EQL Pr 3 true a i45 fun f=>IFB f (B106x174 b d h cl kr kp) (EQL Pr 3 true a i46 fun g=>IFB g (B106x196 d b h cl kr kp) (B106x259 a b d h fu cl kr kp)))
def B106x261:Ans:=EQL Pr 3 true a i42 fun e=>IFB e (LDN n2 b h fun f=>FA n4 d fun g=>LD g h fun m=>cl n169 [f,(.str n6 (nat_lit 112650254643824)),m] h kr kp) (EQL Pr 3 true a i43 fun p=>IFB p (B106x85 b d h cl kr kp) (B106x260 a b d h fu cl kr kp))
def F106:FX:=fun fu oR cl args l kr kp=>AR2 args fun e f=>BOX 40 e l fun b k=>FA n0 b fun g=>LD g k fun m=>SA n5 m f fun n=>LDN n5 n k fun p=>NEWC (.n (some i0) (.n (some s0) (.n (some i0) .e .e) .e) (.n (some s0) (.n (some (.nilslice)) .e .e) .e)) n5 94 k fun a o=>ST n5 a p o fun h=>FA n0 a fun q=>LD q h fun d=>EQL Pr 3 true d i40 fun r=>IFB r (LDN n2 b h fun s=>FA n4 a fun t=>LD t h fun u=>SA n1 u i0 fun v=>LD v h fun w=>cl n105 [s,w] h (fun x A=>ADD Pr 9 true x (.str n1 n59) fun y=>kr y A) kp) (EQL Pr 3 true d i41 fun z=>IFB z (LDN n2 b h fun c=>FA n4 a fun i=>LD i h fun aa=>cl n169 [c,(.str n5 (nat_lit 500068610672)),aa] h kr kp) (B106x261 d b a h fu cl kr kp))
theorem eqF106:F106=CF 106 2:=by kernel_rfl
def B108x30 (j:AV → AV → Heap → Ans):Ans:=cl n109 [a,b] k (fun e h=>EQL Pr 3 true e (.int .i64 (nat_lit 18446744073709551615)) fun f=>IFB f (kr d h) (ADD Pr 3 true d i1 fun g=>LENT b fun m=>ADD Pr 3 false e m fun n=>OV (sliceA Pr 9 a (some n) none none) fun p=>j g p h)) kp
def B108x31:Ans:=LENT a fun d=>EQL Pr 3 true d i1 fun e=>IFB e (SAT a i0 fun f=>GEN (callF Pr h 172 [b,f]) cl kr kp) (LP fu (fun _ _ _=>Ans.no) (fun j m n l=>B108x30 n a m l cl kr kp j) i0 b h)
def F108:FX:=fun fu oR cl args h kr kp=>AR2 args fun a b=>LENT b fun d=>EQL Pr 3 true d i0 fun e=>IFB e (cl n170 [a] h (fun f k=>ADD Pr 3 true f i1 fun g=>kr g k) kp) (B108x31 b a h fu cl kr kp)
theorem eqF108:F108=CF 108 2:=by kernel_rfl
def F109:FX:=fun fu oR cl args h kr kp=>AR2 args fun a b=>cl n173 [a,b] h kr kp
theorem eqF109:F109=CF 109 2:=by kernel_rfl
def F110:FX:=fun fu oR cl args k kr kp=>AR2 args fun a b=>cl n174 [a] k (fun q h=>NC a fun d=>FA n1 d fun e=>LD e h fun f=>GEN (builtinF .append Pr [22,9] [f,b] h) cl (fun g l=>NC a fun m=>FA n1 m fun n=>ST n1 n g l fun o=>LENT b fun p=>kr (.tuple [p,(.niliface)]) o) kp) kp
theorem eqF110:F110=CF 110 2:=by kernel_rfl
def F111:FX:=fun fu oR cl args h kr kp=>AR1 args fun a=>NC a fun b=>FA n1 b fun d=>LD d h fun e=>LENS e fun f=>kr f h
theorem eqF111:F111=CF 111 1:=by kernel_rfl
def B112x18:Ans:=EQL Pr 3 true a i22 fun b=>IFB b (kr (.str n3 (nat_lit 2107936)) h) (EQL Pr 3 true a i23 fun d=>IFB d (kr (.str n3 (nat_lit 2109216)) h) (EQL Pr 3 true a i24 fun e=>IFB e (kr (.str n3 (nat_lit 2106656)) h) (kr s0 h)))
def B112x19:Ans:=EQL Pr 3 true a i19 fun b=>IFB b (kr (.str n1 n32) h) (EQL Pr 3 true a i20 fun d=>IFB d (kr (.str n3 (nat_lit 2108192)) h) (EQL Pr 3 true a i21 fun e=>IFB e (kr (.str n3 (nat_lit 2108704)) h) (B112x18 a h kr)))
def B112x20:Ans:=EQL Pr 3 true a i16 fun b=>IFB b (kr (.str n4 (nat_lit 540884000)) h) (EQL Pr 3 true a i17 fun d=>IFB d (kr (.str n4 (nat_lit 540884256)) h) (EQL Pr 3 true a i18 fun e=>IFB e (kr (.str n4 (nat_lit 540877088)) h) (B112x19 a h kr)))
def B112x21:Ans:=EQL Pr 3 true a i13 fun b=>IFB b (kr (.str n3 (nat_lit 2129440)) h) (EQL Pr 3 true a i14 fun d=>IFB d (kr (.str n4 (nat_lit 545136928)) h) (EQL Pr 3 true a i15 fun e=>IFB e (kr (.str n3 (nat_lit 2112544)) h) (B112x20 a h kr)))
def B112x22:Ans:=EQL Pr 3 true a i8 fun b=>IFB b (kr (.str n4 (nat_lit 540879648)) h) (EQL Pr 3 true a i10 fun d=>IFB d (kr (.str n4 (nat_lit 545029152)) h) (EQL Pr 3 true a i11 fun e=>IFB e (kr (.str n4 (nat_lit 539371040)) h) (B112x21 a h kr)))
def F112:FX:=fun fu oR cl args h kr kp=>AR1 args fun a=>EQL Pr 3 true a i7 fun b=>IFB b (kr (.str n3 (nat_lit 2112800)) h) (B112x22 a h kr)
theorem eqF112:F112=CF 112 1:=by kernel_rfl
def B113x42:Ans:=SA n1 d a fun g=>LD g h fun m=>SUB Pr 3 true e i1 fun n=>cl n23 [m,i0,n] h (fun p k=>OV (unOpA .not p) fun q=>IFB q (NC f fun r=>FA n4 r fun s=>ST n1 s bT k fun l=>OVH (makeSliceA Pr l 92 b b) fun t o=>kr t o) (ADD Pr 3 true a i1 fun u=>j u k)) kp
def F113:FX:=fun fu oR cl args h kr kp=>AR4 args fun d e g a=>NC d fun m=>FA n0 m fun n=>FA n0 n fun p=>LD p h fun q=>SA n5 q e fun r=>FA n4 r fun s=>LD s h fun b=>LENS b fun t=>cl n23 [t,g,a] h (fun u k=>OV (unOpA .not u) fun v=>IFB v (NC d fun w=>FA n4 w fun x=>ST n1 x bT k fun o=>OVH (makeSliceA Pr o 92 a a) fun y A=>kr y A) (LENS b fun z=>LP fu (fun _ _=>Ans.no) (fun j f l=>LSS Pr 3 false f z fun c=>IFB c (B113x42 f a b e d l j cl kr kp) (kr b l)) i0 k)) kp
theorem eqF113:F113=CF 113 4:=by kernel_rfl
def B114x25:Ans:=SA n1 d a fun f=>LD f h fun g=>JO (fun k=>cl n69 [b,g] k (fun q l=>ADD Pr 3 true a i1 fun m=>J m l) kp) fun j=>GTR Pr 3 true a i0 fun n=>IFB n (BSL n9 n1 [s0] n1 [(n0,e)] h fun p o=>cl n68 [b,p] o (fun r A=>j A) kp) (j h)
def F114:FX:=fun fu oR cl args k kr kp=>AR3 args fun d a e=>LENS a fun f=>LP fu (fun _ _=>Ans.no) (fun j b h=>LSS Pr 3 false b f fun g=>IFB g (B114x25 b d a e h j cl kp) (kr (.tuple []) h)) i0 k
theorem eqF114:F114=CF 114 3:=by kernel_rfl
def B115x35:Ans:=BOP Pr .rem 3 true a (.int .i64 (nat_lit 1000000)) fun d=>ADD Pr 3 true (.int .i64 (nat_lit 1000000)) d fun e=>cl n176 [e] h (fun f k=>OV (sliceA Pr 9 f (some i1) none none) fun g=>cl n177 [g,(.str n1 n48)] k (fun m l=>ADD Pr 9 true (.str n1 n46) m fun n=>ADD Pr 9 false b n fun p=>j p l) kp) kp
def B115x36:Ans:=BOP Pr .quo 3 true a (.int .i64 (nat_lit 1000000)) fun e=>cl n176 [e] k (fun f h=>ADD Pr 9 false d f fun b=>JO kr fun j=>BOP Pr .rem 3 true a (.int .i64 (nat_lit 1000000)) fun m=>GTR Pr 3 true m i0 fun n=>IFB n (B115x35 a b h j cl kp) (j b h)) kp
def F115:FX:=fun fu oR cl args k kr kp=>AR1 args fun a=>cl n175 [a] k (fun b h=>OV (unOpA .not b) fun d=>IFB d (kr s0 h) (OV (unOpA .neg a) fun e=>OPV (builtinF .max Pr [3,3] [a,e] h) fun f=>JO (fun g l=>B115x36 f g l cl kr kp) fun j=>LSS Pr 3 true a i0 fun m=>IFB m (j (.str n1 n45) h) (j s0 h))) kp
theorem eqF115:F115=CF 115 1:=by kernel_rfl
def B116x27:Ans:=SAT (.str n4 (nat_lit 1545761902)) a fun d=>BSL n5 n1 [(.int .u8 n0),(.int .u8 n0)] n2 [(n0,(.int .u8 n92)),(n1,d)] h fun e k=>GEN (builtinF .append Pr [22,22] [b,e] k) cl j kp
def B116x35 (J:AV → AV → Heap → Ans):Ans:=JO (fun f l=>ADD Pr 3 true a i1 fun g=>J g f l) fun j=>SAT b a fun m=>cl n178 [(.str n4 (nat_lit 1545734410)),m] k (fun e h=>GEQ Pr 3 true e i0 fun n=>IFB n (B116x27 e d h j cl kp) (SAT b a fun p=>BSL n5 n1 [(.int .u8 n0)] n1 [(n0,p)] h fun q o=>GEN (builtinF .append Pr [22,22] [d,q] o) cl j kp)) kp
def B116x43 (j:AV → AV → Heap → Ans):Ans:=LSS Pr 3 false a d fun f=>IFB f (B116x35 a e b h cl kp j) (BSL n5 n1 [(.int .u8 n0)] n1 [(n0,(.int .u8 n34))] h fun g l=>GEN (builtinF .append Pr [22,22] [b,g] l) cl (fun m k=>OV (convV Pr k 22 9 m) fun n=>kr n k) kp)
def F116:FX:=fun fu oR cl args h kr kp=>AR1 args fun a=>BSL n5 n1 [(.int .u8 n0)] n1 [(n0,(.int .u8 n34))] h fun b k=>LENT a fun d=>LP fu (fun _ _ _=>Ans.no) (fun j e f l=>B116x43 e f d a l cl kr kp j) i0 b k
theorem eqF116:F116=CF 116 1:=by kernel_rfl
def B117x48:Ans:=NC a fun f=>FA n0 f fun g=>FA n0 g fun m=>LD m h fun n=>SA n5 n b fun p=>FA n4 p fun q=>LD q h fun r=>LENS r fun s=>OPV (builtinF .max Pr [3,3] [d,s] h) fun t=>OPV (builtinF .min Pr [3,3] [e,t] h) fun u=>cl n113 [a,b,d,u] h (fun v k=>cl n114 [a,v,(.str n2 n8236)] k (fun x l=>BSL n9 n1 [s0] n1 [(n0,(.str n1 n41))] l fun w o=>cl n68 [a,w] o (fun y A=>kr (.tuple []) A) kp) kp) kp
def F117:FX:=fun fu oR cl args k kr kp=>AR5 args fun a b d e f=>BSL n9 n1 [s0,s0] n2 [(n0,d),(n1,(.str n1 n40))] k fun g l=>cl n68 [a,g] l (fun y h=>NC a fun m=>FA n0 m fun n=>FA n0 n fun p=>LD p h fun q=>SA n5 q b fun r=>FA n4 r fun s=>LD s h fun t=>LENS t fun u=>GTR Pr 3 true u i4000 fun v=>IFB v (NC a fun w=>FA n4 w fun x=>ST n1 x bT h fun o=>kr (.tuple []) o) (B117x48 a b e f h cl kr kp)) kp
theorem eqF117:F117=CF 117 5:=by kernel_rfl
def B118x22:Ans:=NC a fun d=>FA n1 d fun e=>LD e h fun f=>OPV (builtinF .cap Pr [22] [f] h) fun g=>NC a fun m=>FA n1 m fun n=>LD n h fun p=>LENS p fun q=>SUB Pr 3 false g q fun r=>LSS Pr 3 false r b fun s=>IFB s (cl n179 [a,b] h (fun t k=>kr (.tuple []) k) kp) (kr (.tuple []) h)
def F118:FX:=fun fu oR cl args k kr kp=>AR2 args fun a b=>cl n174 [a] k (fun e h=>JO (fun l=>B118x22 a b l cl kr kp) fun j=>LSS Pr 3 true b i0 fun d=>IFB d (GEN (panA (.iface n9 (.str n36 (nat_lit 226187813140227768008177986391742176399534891738691412630441701833056540972817830802547))) h) cl (fun f o=>j o) kp) (j h)) kp
theorem eqF118:F118=CF 118 2:=by kernel_rfl
def F119:FX:=fun fu oR cl args k kr kp=>AR5 args fun a d e f g=>BSL n9 n1 [s0] n1 [(n0,e)] k fun m l=>cl n68 [a,m] l (fun s o=>JO (fun A=>BSL n9 n1 [s0] n1 [(n0,(.str n1 n59))] A fun n C=>cl n68 [a,n] C (fun t D=>kr (.tuple []) D) kp) fun j=>cl n113 [a,d,f,g] o (fun b h=>LENS b fun p=>GTR Pr 3 true p i0 fun q=>IFB q (BSL n9 n1 [s0] n1 [(n0,(.str n1 n32))] h fun r E=>cl n68 [a,r] E (fun u G=>cl n114 [a,b,(.str n2 n8236)] G (fun v H=>j H) kp) kp) (j h)) kp) kp
theorem eqF119:F119=CF 119 5:=by kernel_rfl
def B120x18:Ans:=JO (fun f k=>SEL b bT f fun a=>JO (fun g l=>JO (fun m o=>SEL a bT m fun n=>kr n o) fun j=>GW false a (EQL Pr 5 true g (.int .u8 n10) fun p=>j p l) (j uU l)) fun J=>GW false a (J d k) (J uU k)) fun ja=>GW false b (EQL Pr 5 true e (.int .u8 n9) fun q=>ja q h) (ja uU h)
def F120:FX:=fun fu oR cl args h kr kp=>AR1 args fun a=>EQL Pr 5 true a (.int .u8 n32) fun b=>JO (fun d k=>B120x18 b a d k kr) fun j=>GW false b (j a h) (j uU h)
theorem eqF120:F120=CF 120 1:=by kernel_rfl
def B121x33:Ans:=JO (fun g k=>JO (fun m l=>SEL a m bF fun n=>IFB n (ADD Pr 3 true b i1 fun p=>ja p l) (kr b l)) fun j=>GW true a (GEN (callV Pr (some d) [g] k) cl j kp) (j uU k)) fun J=>GW true a (SAT e f fun r=>J r h) (J uU h)
def B121x39:Ans:=JO (fun g k=>JO (fun m l=>JO (fun n o=>JO (fun p A=>B121x33 a b d g p A jc cl kr kp) fun j=>GW true a (ADD Pr 3 false m n fun q=>j q o) (j uU o)) fun J=>GW true a (J b l) (J uU l)) fun ja=>GW true a (ja e k) (ja uU k)) fun jb=>GW true a (jb f h) (jb uU h)
def F121:FX:=fun fu oR cl args k kr kp=>AR3 args fun a b f=>LP fu (fun _ _=>Ans.no) (fun J d h=>ADD Pr 3 false b d fun g=>LENT a fun m=>LSS Pr 3 false g m fun e=>JO (fun n l=>B121x39 e d n b a l J cl kr kp) fun j=>GW true e (j f h) (j uU h)) i0 k
theorem eqF121:F121=CF 121 3:=by kernel_rfl
def B123x28:Ans:=OV (sliceA Pr 9 e none (some a) none) fun f=>cl n181 [f] k (fun d l=>EX n0 d fun g=>EX n1 d fun p=>OV (buildA Pr 116 [(n0,i1),(n2,g)]) fun m=>ST n4 b m l fun h=>LDN n4 b h fun n=>kr (.tuple [n,a]) h) kp
def B123x65:Ans:=JO (fun f k=>SEL b f bF fun g=>IFB g (ADD Pr 3 true a i1 fun m=>cl n121 [d,m,(.func (.func 180) [] [])] k (fun n l=>ADD Pr 3 true i1 n fun p=>ADD Pr 3 false a p fun q=>j q l) kp) (j a k)) fun J=>GW true b (cl n180 [e] h J kp) (J uU h)
def B123x71:Ans:=JO (fun f k=>JO (fun g l=>JO (fun m o=>B123x65 b a d m o jb cl kp) fun j=>GW true a (SAT e g fun n=>j n l) (j uU l)) fun J=>GW true a (ADD Pr 3 true f i1 fun p=>J p k) (J uU k)) fun ja=>GW true a (ja b h) (ja uU h)
def B123x77:Ans:=JO (fun m k=>JO (fun n l=>SEL a n bF fun d=>JO (fun p o=>B123x71 d e b p o jb cl kp) fun j=>GW true d (j b l) (j uU l)) fun J=>GW true a (EQL Pr 5 true m (.int .u8 n46) fun q=>J q k) (J uU k)) fun ja=>GW true a (SAT f g fun r=>ja r h) (ja uU h)
def B123x80:Ans:=cl n121 [a,i0,(.func (.func 180) [] [])] l (fun b h=>JO (fun f o=>B123x28 f e a o cl kr kp) fun ja=>ADD Pr 3 true b i1 fun g=>LENT a fun m=>LSS Pr 3 false g m fun d=>JO (fun n k=>JO (fun p A=>B123x77 d a b n p A ja cl kp) fun j=>GW true d (j b k) (j uU k)) fun J=>GW true d (J a h) (J uU h)) kp
def B123x108:Ans:=cl n184 [d] k (fun b l=>EX n0 b fun e=>EX n1 b fun f=>OV (buildA Pr 116 [(n0,i3),(n1,e)]) fun g=>ST n4 a g l fun h=>LDN n4 a h fun m=>kr (.tuple [m,f]) h) kp
def B123x155 (j:Heap → Ans):Ans:=JO (fun e k=>SEL a e bF fun f=>IFB f (FA n0 b fun g=>ST n1 g i5 k fun l=>j l) (j k)) fun J=>GW true a (EQL Pr 5 true d (.int .u8 n40) fun m=>J m h) (J uU h)
def B123x160 (jb:Heap → Ans):Ans:=LENT b fun f=>LSS Pr 3 false d f fun a=>JO (fun g k=>JO (fun m l=>JO (fun n o=>B123x155 a e n o jb) fun j=>GW true a (SAT g m fun p=>j p l) (j uU l)) fun J=>GW true a (J d k) (J uU k)) fun ja=>GW true a (ja b h) (ja uU h)
def B123x161:Ans:=cl n121 [e,i0,(.func (.func 186) [] [])] D (fun d k=>OPV (builtinF .min Pr [3,3] [d,i40] k) fun f=>OV (sliceA Pr 9 e none (some f) none) fun g=>OV (buildA Pr 116 [(n0,i4),(n1,g)]) fun m=>NEWC (.n (some i0) (.n (some s0) (.n (some i0) .e .e) .e) (.n (some i0) .e .e)) n4 116 k fun a E=>ST n4 a m E fun h=>JO (fun l=>LDN n4 a l fun n=>ST n4 b n l fun o=>LDN n4 b o fun p=>kr (.tuple [p,d]) o) fun j=>GTR Pr 3 true d i40 fun q=>IFB q (OV (buildA Pr 116 []) fun r=>ST n4 b r h fun A=>LDN n4 b A fun s=>kr (.tuple [s,i0]) A) (FA n1 a fun t=>LD t h fun u=>cl n187 [u] h (fun v C=>IFB v (FA n0 a fun w=>ST n1 w i6 C fun G=>j G) (B123x160 e d a C j)) kp)) kp
def B123x182:Ans:=SA n1 e b fun g=>LD g h fun a=>cl n188 [f,a] h (fun m k=>IFB m (OV (buildA Pr 116 [(n0,i7),(n1,a)]) fun n=>LENT a fun p=>ST n4 d n k fun l=>LDN n4 d l fun q=>kr (.tuple [q,p]) l) (ADD Pr 3 true b i1 fun r=>j r k)) kp
def B123x186:Ans:=cl n45 [(.str n60 (nat_lit 440530996711968739911640227301029809639671399024529253903015996329481968211493671615709962352221065548437406721784014841120924320141379100485158)),(.str n1 n32)] l (fun b o=>LENS b fun f=>LP fu (fun _ _=>Ans.no) (fun j d h=>LSS Pr 3 false d f fun g=>IFB g (B123x182 d a b e h j cl kr kp) (OV (buildA Pr 116 []) fun m=>ST n4 a m h fun k=>LDN n4 a k fun n=>kr (.tuple [n,i0]) k)) i0 o) kp
def B123x189:Ans:=JO (fun g k=>SEL d g bF fun m=>IFB m (B123x108 b a k cl kr kp) (cl n185 [e] k (fun n l=>IFB n (B123x161 b a l cl kr kp) (B123x186 b a l fu cl kr kp)) kp)) fun j=>GW true d (OV (unOpA .not f) fun p=>j p h) (j uU h)
def B123x197:Ans:=EQL Pr 5 true b (.int .u8 n47) fun a=>JO (fun g k=>JO (fun m l=>B123x189 d e a b m l fu cl kr kp) fun j=>GW true a (cl n183 [g] k j kp) (j uU k)) fun J=>GW true a (LDN n4 f h fun p=>J p h) (J uU h)
def B123x198:Ans:=EQL Pr 5 true b (.int .u8 n34) fun g=>IFB g (cl n182 [d] h (fun e l=>EX n0 e fun m=>EX n1 e fun n=>OV (buildA Pr 116 [(n0,i2),(n1,m)]) fun p=>ST n4 a p l fun k=>LDN n4 a k fun q=>kr (.tuple [q,n]) k) kp) (B123x197 b d a f h fu cl kr kp)
def F123:FX:=fun fu oR cl args k kr kp=>AR2 args fun a e=>BOX 116 e k fun f l=>NEWC (.n (some i0) (.n (some s0) (.n (some i0) .e .e) .e) (.n (some i0) .e .e)) n4 116 l fun b o=>SAT a i0 fun d=>cl n180 [d] o (fun g h=>IFB g (B123x80 a b h cl kr kp) (B123x198 b d a f h fu cl kr kp)) kp
theorem eqF123:F123=CF 123 2:=by kernel_rfl
def B124x89 (j:Heap → Ans):Ans:=FA n2 d fun a=>LD a h fun b=>BSL n3 n1 [i0] n1 [(n0,i4)] h fun f k=>LD a k fun g=>EQV b g <| cl n191 [e,f] k (fun m l=>LD a l fun n=>EQV b n <| BSL n9 n1 [s0] n1 [(n0,m)] l fun p o=>LD a o fun q=>EQV b q <| GEN (builtinF .append Pr [46,46] [b,p] o) cl (fun r A=>FA n2 d fun s=>ST n1 s r A fun C=>j C) kp) kp
def B124x106 (J:Heap → Ans) (ja:Heap → Ans):Ans:=BSL n9 n1 [s0] n1 [(n0,(.str n1 n41))] k fun d l=>cl n193 [a,d] l (fun e h=>OV (unOpA .not e) fun f=>IFB f (JO (fun o=>B124x89 b a o cl kp J) fun j=>FA n2 b fun g=>LD g h fun m=>LENS m fun n=>GTR Pr 3 true n i0 fun p=>IFB p (cl n192 [a,(.str n1 n44)] h (fun w A=>j A) kp) (j h)) (NC a fun q=>FA n1 q fun r=>LD r h fun s=>ADD Pr 3 true s i1 fun t=>NC a fun u=>FA n1 u fun v=>ST n1 v t h fun C=>ja C)) kp
def B124x107 (j:Heap → Ans):Ans:=NC a fun d=>FA n1 d fun e=>LD e h fun f=>ADD Pr 3 true f i1 fun g=>NC a fun m=>FA n1 m fun n=>ST n1 n g h fun k=>BSL n3 n1 [i0,i0] n2 [(n0,i4),(n1,i5)] k fun p l=>cl n191 [a,p] l (fun q o=>FA n0 b fun r=>ST n1 r i4 o fun A=>FA n1 b fun s=>ST n1 s q A fun C=>cl n192 [a,(.str n1 n40)] C (fun t D=>LP fu (fun _=>Ans.no) (fun J E=>B124x106 a b E cl kp J j) D) kp) kp
def B124x124 (j:Heap → Ans):Ans:=BSL n9 n1 [s0] n1 [(n0,(.str n1 n123))] k fun d l=>cl n193 [b,d] l (fun e h=>IFB e (FA n0 a fun f=>ST n1 f i2 h fun o=>j o) (cl n194 [b] h (fun g A=>FA n0 a fun m=>ST n1 m i3 A fun C=>FA n3 a fun n=>ST n1 n g C fun D=>j D) kp)) kp
def F124:FX:=fun fu oR cl args C kr kp=>AR1 args fun a=>NEWC (.n (some i0) (.n (some s0) (.n (some i0) .e .e) .e) (.n (some (.nilslice)) (.n (some i0) .e .e) .e)) n5 61 C fun d D=>OV (buildA Pr 61 [(n3,(.int .i64 (nat_lit 18446744073709551615)))]) fun e=>NEWC (.n (some i0) (.n (some s0) (.n (some i0) .e .e) .e) (.n (some (.nilslice)) (.n (some i0) .e .e) .e)) n5 61 D fun b E=>ST n5 b e E fun G=>JO (fun H=>cl n195 [a] H (fun f I=>FA n4 b fun g=>ST n1 g f I fun h=>LDN n5 b h fun m=>ST n5 d m h fun k=>LDN n5 d k fun n=>kr n k) kp) fun j=>BSL n9 n1 [s0,s0] n2 [(n0,(.str n5 (nat_lit 336236856642))),(n1,(.str n3 (nat_lit 4476485)))] G fun p K=>cl n189 [a,p] K (fun q l=>IFB q (cl n190 [a] l (fun r o=>OV (fieldA Pr 116 r 1) fun s=>EQL Pr 9 true s (.str n3 (nat_lit 4476485)) fun t=>IFB t (FA n0 b fun u=>ST n1 u i1 o fun L=>j L) (j o)) kp) (BSL n9 n1 [s0] n1 [(n0,(.str n8 (nat_lit 7957695015192261990)))] l fun v M=>cl n189 [a,v] M (fun w A=>IFB w (B124x107 a b A fu cl kp j) (B124x124 b a A cl kp j)) kp)) kp
theorem eqF124:F124=CF 124 1:=by kernel_rfl
def B125x29:Ans:=NC a fun e=>FA n12 e fun f=>FA n3 f fun g=>LD g k fun m=>SUB Pr 3 true m i1 fun n=>NC a fun p=>FA n12 p fun q=>FA n3 q fun r=>ST n1 r n k fun l=>NC a fun s=>FA n12 s fun t=>FA n5 t fun u=>LD u l fun v=>SA n1 v b fun w=>ST n1 w bT l fun h=>NC a fun x=>FA n0 x fun y=>FA n0 y fun z=>LD z h fun c=>SA n5 c b fun i=>LDN n5 i h fun aa=>ST n5 d aa h fun o=>LDN n5 d o fun ab=>kr ab o
def F125:FX:=fun fu oR cl args k kr kp=>AR2 args fun a b=>NEWC (.n (some i0) (.n (some s0) (.n (some i0) .e .e) .e) (.n (some s0) (.n (some (.nilslice)) .e .e) .e)) n5 94 k fun d h=>JO (fun l=>B125x29 a b d l kr) fun j=>NC a fun e=>FA n12 e fun f=>FA n3 f fun g=>LD g h fun m=>EQL Pr 3 true m i0 fun n=>IFB n (GEN (panA (.iface n74 i1) h) cl (fun p o=>j o) kp) (j h)
theorem eqF125:F125=CF 125 2:=by kernel_rfl
def F126:FX:=fun fu oR cl args k kr kp=>AR1 args fun b=>NEWC (.n (some i0) (.n (some i0) .e .e) (.n (some s0) .e .e)) n3 57 k fun a l=>OV (buildA Pr 57 [(n0,i1),(n1,b)]) fun d=>ST n3 a d l fun h=>LDN n3 a h fun e=>kr e h
theorem eqF126:F126=CF 126 1:=by kernel_rfl
def F127:FX:=fun fu oR cl args l kr kp=>AR1 args fun a=>NEWC (.n (some i0) (.n (some i0) .e .e) (.n (some s0) .e .e)) n3 57 l fun b h=>JO (fun o=>OV (buildA Pr 57 [(n0,i2),(n2,a)]) fun d=>ST n3 b d o fun k=>LDN n3 b k fun e=>kr e k) fun j=>LENT a fun f=>GTR Pr 3 true f i500 fun g=>IFB g (GEN (panA (.iface n74 i5) h) cl (fun m A=>j A) kp) (j h)
theorem eqF127:F127=CF 127 1:=by kernel_rfl
def F128:FX:=fun fu oR cl args o kr kp=>AR1 args fun b=>NEWC (.n (some i0) (.n (some i0) .e .e) (.n (some s0) .e .e)) n3 57 o fun a h=>IFB b (cl n196 [i1] h (fun d A=>ST n3 a d A fun k=>LDN n3 a k fun e=>kr e k) kp) (cl n196 [i0] h (fun f C=>ST n3 a f C fun l=>LDN n3 a l fun g=>kr g l) kp)
theorem eqF128:F128=CF 128 1:=by kernel_rfl
def B130x34:Ans:=FA n1 d fun e=>LD e h fun f=>EQL Pr 9 true f (.str n2 (nat_lit 21070)) fun g=>IFB g (NC b fun m=>FA n8 m fun n=>LD n h fun p=>cl n196 [p] h (fun q o=>ST n3 a q o fun k=>LDN n3 a k fun r=>kr r k) kp) (NC b fun s=>FA n7 s fun t=>LD t h fun u=>LENS u fun v=>cl n196 [v] h (fun w A=>ST n3 a w A fun l=>LDN n3 a l fun x=>kr x l) kp)
def B130x57:Ans:=LDN n3 b k fun f=>cl n200 [d,f] k (fun g A=>cl n201 [g] A (fun m C=>NEWC (.n (some i0) (.n (some i0) .e .e) (.n (some s0) .e .e)) n3 57 C fun a D=>ST n3 a m D fun h=>LDN n3 b h fun n=>FA n0 a fun p=>LD p h fun q=>cl n202 [d,n,i0,q] h (fun t l=>LDN n3 a l fun r=>ST n3 e r l fun o=>LDN n3 e o fun s=>kr s o) kp) kp) kp
def F130:FX:=fun fu oR cl args l kr kp=>AR2 args fun b e=>BOX 172 e l fun a o=>NEWC (.n (some i0) (.n (some i0) .e .e) (.n (some s0) .e .e)) n3 57 o fun d h=>LDN n3 a h fun f=>cl n199 [f] h (fun g k=>IFB g (B130x34 d b a k cl kr kp) (B130x57 a b d k cl kr kp)) kp
theorem eqF130:F130=CF 130 2:=by kernel_rfl
def B131x34:Ans:=SEL d e bF fun g=>IFB g (FA n1 f fun m=>LD m h fun n=>OV (buildA Pr 172 [(n0,n),(n1,b)]) fun p=>ST n3 a p h fun k=>LDN n3 a k fun q=>kr q k) (OV (buildA Pr 172 [(n1,b)]) fun r=>ST n3 a r h fun l=>LDN n3 a l fun s=>kr s l)
def B131x43:Ans:=JO (fun g k=>JO (fun m l=>JO (fun n o=>B131x34 e b a n d o kr) fun j=>GW true a (cl n203 [g,m] l j kp) (j uU l)) fun J=>GW true a (J b k) (J uU k)) fun ja=>GW true a (LD f h fun q=>ja q h) (ja uU h)
def F131:FX:=fun fu oR cl args l kr kp=>AR3 args fun d e f=>NEWC (.n (some s0) (.n (some s0) .e .e) (.n (some i0) .e .e)) n3 172 l fun g h=>NC d fun m=>FA n2 m fun n=>LD n h fun p=>SA n5 p e fun q=>LDN n5 q h fun r=>NEWC (.n (some i0) (.n (some s0) (.n (some i0) .e .e) .e) (.n (some (.nilslice)) (.n (some i0) .e .e) .e)) n5 61 h fun a o=>ST n5 a r o fun k=>FA n0 a fun s=>LD s k fun t=>EQL Pr 3 true t i4 fun b=>JO (fun u A=>B131x43 b f a g u A cl kr kp) fun j=>GW true b (FA n2 a fun v=>j v k) (j uU k)
theorem eqF131:F131=CF 131 3:=by kernel_rfl
def B132x35:Ans:=NC b fun e=>FA n7 e fun f=>LD f h fun g=>SUB Pr 3 true d i1 fun m=>SA n1 g m fun n=>LD n h fun p=>cl n204 [p] h (fun q l=>ST n3 a q l fun k=>LDN n3 a k fun r=>kr r k) kp
def B132x48:Ans:=cl n23 [b,i1,i50] o (fun d h=>IFB d (OV (buildA Pr 57 []) fun e=>ST n3 a e h fun k=>LDN n3 a k fun f=>kr f k) (GEN (panA (.iface n74 i5) h) cl (fun m l=>LDN n3 a l fun g=>kr g l) kp)) kp
def F132:FX:=fun fu oR cl args o kr kp=>AR2 args fun d a=>NEWC (.n (some i0) (.n (some i0) .e .e) (.n (some s0) .e .e)) n3 57 o fun b h=>EQL Pr 3 true a i0 fun e=>IFB e (NC d fun f=>FA n6 f fun g=>LD g h fun m=>cl n204 [m] h (fun n A=>ST n3 b n A fun k=>LDN n3 b k fun p=>kr p k) kp) (NC d fun q=>FA n7 q fun r=>LD r h fun s=>LENS s fun t=>cl n23 [a,i1,t] h (fun u l=>IFB u (B132x35 b d a l cl kr kp) (B132x48 b a l cl kr kp)) kp)
theorem eqF132:F132=CF 132 2:=by kernel_rfl
def F133:FX:=fun fu oR cl args k kr kp=>AR1 args fun a=>BOX 57 a k fun b h=>LDN n3 b h fun d=>cl n206 [d] h (fun e l=>cl n205 [e] l (fun f o=>BOP Pr .quo 3 true f (.int .i64 (nat_lit 1000000)) fun g=>kr g o) kp) kp
theorem eqF133:F133=CF 133 1:=by kernel_rfl
def F134:FX:=fun fu oR cl args k kr kp=>AR1 args fun b=>BOX 57 b k fun a h=>FA n0 a fun d=>LD d h fun e=>EQL Pr 3 true e i1 fun f=>IFB f (FA n1 a fun g=>LD g h fun m=>cl n115 [m] h kr kp) (FA n2 a fun p=>LD p h fun q=>kr q h)
theorem eqF134:F134=CF 134 1:=by kernel_rfl
def B137x53 (j:Heap → Ans):Ans:=FA n4 a fun e=>LD e h fun f=>SA n1 f i0 fun g=>LD g h fun m=>cl n77 [b,m] h (fun n k=>cl n133 [n] k (fun p l=>FA n5 d fun q=>ST n1 q p l fun o=>j o) kp) kp
def B137x69 (j:Heap → Ans):Ans:=FA n4 a fun e=>LD e h fun f=>SA n1 f i0 fun g=>LD g h fun m=>cl n77 [b,m] h (fun n k=>cl n134 [n] k (fun p l=>FA n4 d fun q=>ST n1 q p l fun o=>j o) kp) kp
def F137:FX:=fun fu oR cl args D kr kp=>AR2 args fun b e=>NEWC (.n (some i0) (.n (some s0) (.n (some i0) .e .e) (.n (some i0) .e .e)) (.n (some s0) (.n (some s0) .e .e) .e)) n6 181 D fun f l=>NC b fun p=>FA n0 p fun q=>FA n0 q fun r=>LD r l fun s=>SA n5 s e fun t=>LDN n5 t l fun u=>NEWC (.n (some i0) (.n (some s0) (.n (some i0) .e .e) .e) (.n (some s0) (.n (some (.nilslice)) .e .e) .e)) n5 94 l fun a E=>ST n5 a u E fun h=>FA n0 a fun g=>LD g h fun m=>FA n1 a fun v=>LD v h fun w=>NEWC (.n (some i0) (.n (some s0) (.n (some i0) .e .e) (.n (some i0) .e .e)) (.n (some s0) (.n (some s0) .e .e) .e)) n6 181 h fun d G=>NEWB h G fun b20 i21 H=>cl n131 [b,e,w] H (fun x o=>LD g o fun y=>EQV m y <| OV (buildA Pr 181 [(n0,m),(n1,x)]) fun z=>SETB o i21 b20 fun I=>ST n6 d z I fun k=>FA n0 a fun c=>LD c k fun n=>JO (fun A=>LDN n6 d A fun i=>ST n6 f i A fun C=>LDN n6 f C fun aa=>kr aa C) fun j=>EQL Pr 3 true n i4 fun ab=>IFB ab (B137x53 a b d k cl kp j) (EQL Pr 3 true n i5 fun ac=>IFB ac (B137x69 a b d k cl kp j) (j k))) kp
theorem eqF137:F137=CF 137 2:=by kernel_rfl
def B138x44 (j:Heap → Ans):Ans:=FA n1 a fun e=>LDN n3 e h fun f=>FA n1 a fun p=>LDN n3 p h fun q=>FA n4 a fun g=>LD g h fun m=>LDN n3 b h fun n=>cl n136 [d,q] h (fun r k=>LDN n3 b k fun s=>EQV n s <| LD g k fun t=>EQV m t <| LDN n3 e k fun u=>EQV f u <| cl n207 [d,f,r,m,n] k (fun v l=>j l) kp) kp
def F138:FX:=fun fu oR cl args o kr kp=>AR3 args fun d g m=>BOX 181 g o fun a A=>BOX 57 m A fun b C=>NEWC (.n (some i0) (.n (some i0) .e .e) (.n (some s0) .e .e)) n3 57 C fun e h=>FA n0 a fun n=>LD n h fun f=>JO (fun k=>LDN n3 b k fun p=>ST n3 e p k fun l=>LDN n3 e l fun q=>kr q l) fun j=>EQL Pr 3 true f i4 fun r=>IFB r (FA n5 a fun s=>LD s h fun t=>LDN n3 b h fun u=>cl n209 [d,t,u] h (fun z D=>j D) kp) (EQL Pr 3 true f i5 fun v=>IFB v (B138x44 a b d h cl kp j) (FA n1 a fun w=>LDN n3 w h fun x=>LDN n3 b h fun y=>cl n145 [d,x,y] h (fun c E=>j E) kp))
theorem eqF138:F138=CF 138 3:=by kernel_rfl
def B139x37:Ans:=EQL Pr 3 true e i5 fun f=>IFB f (FA n1 b fun g=>LDN n3 g h fun m=>FA n4 b fun n=>LD n h fun p=>cl n135 [d,m,p] h (fun q o=>ST n3 a q o fun k=>LDN n3 a k fun r=>kr r k) kp) (FA n1 b fun s=>LDN n3 s h fun t=>cl n130 [d,t] h (fun u A=>ST n3 a u A fun l=>LDN n3 a l fun v=>kr v l) kp)
def F139:FX:=fun fu oR cl args l kr kp=>AR2 args fun d f=>BOX 181 f l fun a o=>NEWC (.n (some i0) (.n (some i0) .e .e) (.n (some s0) .e .e)) n3 57 o fun b h=>FA n0 a fun g=>LD g h fun e=>EQL Pr 3 true e i4 fun m=>IFB m (FA n5 a fun n=>LD n h fun p=>cl n132 [d,p] h (fun q A=>ST n3 b q A fun k=>LDN n3 b k fun r=>kr r k) kp) (B139x37 b a d e h cl kr kp)
theorem eqF139:F139=CF 139 2:=by kernel_rfl
def F140:FX:=fun fu oR cl args A kr kp=>AR3 args fun f g m=>BOX 57 g A fun n C=>BOX 57 m C fun p D=>NEWC (.n (some i0) (.n (some i0) .e .e) (.n (some s0) .e .e)) n3 57 D fun a h=>LDN n3 n h fun q=>LDN n3 p h fun r=>cl n210 [f,q,r] h (fun b E=>EX n0 b fun s=>EX n1 b fun d=>NEWC (.n (some i0) (.n (some i0) .e .e) (.n (some s0) .e .e)) n3 57 E fun e G=>ST n3 e s G fun k=>JO (fun l=>LDN n3 e l fun t=>ST n3 a t l fun o=>LDN n3 a o fun u=>kr u o) fun j=>EQL Pr 3 true d i2 fun v=>IFB v (GEN (panA (.iface n74 i3) k) cl (fun x H=>j H) kp) (EQL Pr 3 true d i1 fun w=>IFB w (GEN (panA (.iface n74 i2) k) cl (fun y I=>j I) kp) (j k))) kp
theorem eqF140:F140=CF 140 3:=by kernel_rfl
def B141x62:Ans:=JO (fun l=>ADD Pr 3 true a i1 fun g=>J g l) fun j=>SA n1 e a fun m=>LD m k fun n=>FA n1 b fun p=>LD p k fun q=>FA n2 b fun r=>LD r k fun s=>SA n1 s a fun t=>LD t k fun u=>OV (buildA Pr 172 [(n0,q),(n1,u)]) fun v=>cl n212 [f,n,v] k (fun w h=>FA n2 b fun x=>LD x h fun y=>SA n1 y a fun z=>LD z h fun c=>OV (lookupA Pr h 53 d c false) fun i=>EQL Pr 224 true i (.nilp) fun aa=>IFB aa (FA n2 b fun ab=>LD ab h fun ac=>SA n1 ac a fun ad=>LD ad h fun ae=>OSK (mapUpdateA Pr h 53 d ae w) fun o=>j o) (j h)) kp
def B141x120:Ans:=NC a fun f=>FA n9 f fun g=>LDN n3 g k fun m=>NEWC (.n (some i0) (.n (some i0) .e .e) (.n (some s0) .e .e)) n3 57 k fun b A=>ST n3 b m A fun C=>OV (buildA Pr 57 []) fun n=>NC a fun p=>FA n9 p fun q=>ST n3 q n C fun h=>FA n1 e fun r=>LD r h fun s=>OV (buildA Pr 172 [(n0,s)]) fun t=>FA n0 b fun u=>LD u h fun v=>cl n202 [a,t,i2,v] h (fun y l=>LDN n3 b l fun w=>ST n3 d w l fun o=>LDN n3 d o fun x=>kr x o) kp
def B141x127:Ans:=NC a fun g=>FA n4 g fun m=>LD m k fun n=>BSL n53 n1 [(.nilmap)] n1 [(n0,e)] k fun p A=>GEN (builtinF .append Pr [55,55] [n,p] A) cl (fun q C=>NC a fun r=>FA n4 r fun s=>ST n1 s q C fun D=>OV (buildA Pr 57 []) fun t=>NC a fun u=>FA n9 u fun v=>ST n3 v t D fun l=>FA n4 b fun w=>LD w l fun x=>cl n80 [a,x] l (fun d h=>NC a fun y=>FA n4 y fun z=>LD z h fun c=>NC a fun i=>FA n4 i fun aa=>LD aa h fun ab=>LENS ab fun ac=>SUB Pr 3 true ac i1 fun ad=>OV (sliceA Pr 55 c none (some ad) none) fun ae=>NC a fun af=>FA n4 af fun ag=>ST n1 ag ae h fun o=>JO (fun E=>B141x120 a f b E cl kr kp) fun j=>GEQ Pr 3 true d i4 fun ah=>IFB ah (GEN (panA (.iface n3 d) o) cl (fun ai G=>j G) kp) (j o)) kp) kp
def B141x128:Ans:=NC a fun p=>FA n0 p fun q=>FA n1 q fun r=>LD r h fun s=>SA n5 s g fun t=>LDN n5 t h fun u=>OPVH (newMap Pr 53 h) fun d o=>NEWC (.n (some i0) (.n (some s0) (.n (some i0) .e .e) .e) (.n (some (.nilslice)) (.n (some i0) .e .e) .e)) n5 61 o fun b A=>ST n5 b u A fun k=>FA n4 m fun v=>LD v k fun e=>LENS e fun w=>LP fu (fun _ _=>Ans.no) (fun j f l=>LSS Pr 3 false f w fun x=>IFB x (B141x62 f b d e a l j cl kp) (B141x127 a b d n l cl kr kp)) i0 k
def B141x139:Ans:=JO (fun k=>B141x128 a b d e k fu cl kr kp) fun j=>NC a fun f=>FA n4 f fun g=>LD g h fun m=>LENS m fun n=>EQL Pr 3 true n i20 fun p=>IFB p (GEN (panA (.iface n74 i6) h) cl (fun q l=>j l) kp) (j h)
def B141x184:Ans:=JO (fun e k=>JO (fun f l=>JO (fun g o=>SEL a bT g fun m=>jb m o) fun j=>GW false a (LSS Pr 3 false b f fun n=>j n l) (j uU l)) fun J=>GW false a (LENS e fun p=>J p k) (J uU k)) fun ja=>GW false a (LD d h fun q=>ja q h) (ja uU h)
def B141x191:Ans:=JO (fun e k=>JO (fun f l=>JO (fun g o=>B141x184 a f g o jb) fun j=>GW false a (FA n4 b fun m=>j m l) (j uU l)) fun J=>GW false a (LENS e fun n=>J n k) (J uU k)) fun ja=>GW false a (LD d h fun p=>ja p h) (ja uU h)
def B141x197:Ans:=JO (fun f k=>JO (fun g l=>JO (fun m o=>B141x191 a b m o jb) fun j=>GW false a (FA n2 g fun n=>j n l) (j uU l)) fun J=>GW false a (SA n5 d f fun p=>J p k) (J uU k)) fun ja=>GW false a (ja e h) (ja uU h)
def B141x204:Ans:=JO (fun f l=>JO (fun g h=>JO (fun m o=>B141x197 a b m d o jb) fun j=>GW false a (LD g h fun n=>j n h) (j uU h)) fun J=>GW false a (FA n1 f fun p=>J p l) (J uU l)) fun ja=>GW false a (FA n0 e fun q=>ja q k) (ja uU k)
def F141:FX:=fun fu oR cl args A kr kp=>AR2 args fun a f=>BOX 94 f A fun b C=>NEWC (.n (some i0) (.n (some i0) .e .e) (.n (some s0) .e .e)) n3 57 C fun g h=>NC a fun m=>FA n0 m fun n=>FA n1 b fun p=>LD p h fun q=>cl n211 [n,q] h (fun d k=>JO (fun D=>B141x139 a d b g D fu cl kr kp) fun j=>JO (fun r l=>IFB r (GEN (panA (.iface n74 i9) l) cl (fun v E=>j E) kp) (j l)) fun jb=>LSS Pr 3 true d i0 fun e=>JO (fun s o=>JO (fun t G=>B141x204 e b d t G jb) fun J=>GW false e (NC s fun u=>J u o) (J uU o)) fun ja=>GW false e (ja a k) (ja uU k)) kp
theorem eqF141:F141=CF 141 2:=by kernel_rfl
def B142x31 (j:AV → AV → Heap → Ans):Ans:=SA n1 b a fun f=>LD f h fun g=>cl n77 [d,g] h (fun m k=>BSL n57 n3 [i0,i0,s0] n1 [(n0,m)] k fun n l=>GEN (builtinF .append Pr [190,190] [e,n] l) cl (fun p o=>ADD Pr 3 true a i1 fun q=>j q p o) kp) kp
def B142x52:Ans:=FA n0 d fun e=>LD e h fun f=>SA n3 a i0 fun g=>LDN n3 g h fun m=>SA n3 a i1 fun n=>LDN n3 n h fun p=>cl n213 [f,m,p] h (fun q l=>cl n128 [q] l (fun r o=>ST n3 b r o fun k=>LDN n3 b k fun s=>kr s k) kp) kp
def B142x74:Ans:=SA n3 a i0 fun f=>LDN n3 f h fun g=>SA n3 a i1 fun d=>LDN n3 d h fun e=>cl n134 [g] h (fun m k=>LDN n3 d k fun n=>EQV e n <| cl n134 [e] k (fun p o=>ADD Pr 9 false m p fun q=>cl n127 [q] o (fun r A=>ST n3 b r A fun l=>LDN n3 b l fun s=>kr s l) kp) kp) kp
def B142x115:Ans:=SA n3 b i0 fun d=>LDN n3 d h fun e=>cl n134 [e] h (fun f l=>LENT f fun g=>cl n196 [g] l (fun m o=>ST n3 a m o fun k=>LDN n3 a k fun n=>kr n k) kp) kp
def B142x116:Ans:=LENS b fun e=>EQL Pr 3 true e i0 fun f=>IFB f (NC d fun g=>FA n6 g fun m=>LD m h fun n=>LENT n fun p=>cl n196 [p] h (fun q l=>ST n3 a q l fun k=>LDN n3 a k fun r=>kr r k) kp) (B142x115 a b h cl kr kp)
def B142x143:Ans:=SA n3 a i0 fun g=>LDN n3 g h fun m=>SA n3 a i1 fun d=>LDN n3 d h fun e=>cl n134 [m] h (fun n k=>LDN n3 d k fun p=>EQV e p <| cl n133 [e] k (fun q o=>cl n214 [n,q,f] o (fun r A=>cl n127 [r] A (fun s C=>ST n3 b s C fun l=>LDN n3 b l fun t=>kr t l) kp) kp) kp) kp
def B142x153:Ans:=JO (fun d k=>B142x143 a b d k cl kr kp) fun j=>LENS a fun e=>EQL Pr 3 true e i3 fun f=>IFB f (SA n3 a i2 fun g=>LDN n3 g h fun m=>cl n133 [m] h j kp) (j (.int .i64 (nat_lit 9000000000000)) h)
def B142x178:Ans:=SA n3 a i0 fun f=>LDN n3 f h fun g=>SA n3 a i1 fun d=>LDN n3 d h fun e=>cl n134 [g] h (fun m k=>LDN n3 d k fun n=>EQV e n <| cl n134 [e] k (fun p o=>cl n215 [m,p] o (fun q A=>cl n196 [q] A (fun r C=>ST n3 b r C fun l=>LDN n3 b l fun s=>kr s l) kp) kp) kp) kp
def B142x196:Ans:=SA n3 b i0 fun d=>LDN n3 d h fun e=>cl n134 [e] h (fun f l=>cl n216 [f] l (fun g o=>cl n127 [g] o (fun m A=>ST n3 a m A fun k=>LDN n3 a k fun n=>kr n k) kp) kp) kp
def B142x214:Ans:=SA n3 b i0 fun d=>LDN n3 d h fun e=>cl n206 [e] h (fun f l=>cl n205 [f] l (fun g o=>cl n126 [g] o (fun m A=>ST n3 a m A fun k=>LDN n3 a k fun n=>kr n k) kp) kp) kp
def B142x241:Ans:=FA n2 f fun p=>LD p h fun q=>SA n3 g i0 fun d=>LDN n3 d h fun e=>cl n131 [a,m,q] h (fun r k=>LDN n3 d k fun s=>EQV e s <| cl n134 [e] k (fun t o=>cl n218 [t,n] o (fun u A=>cl n217 [a,r,u] A (fun v C=>ST n3 b v C fun l=>LDN n3 b l fun w=>kr w l) kp) kp) kp) kp
def B142x251:Ans:=JO (fun g k=>B142x241 d f b a e g k cl kr kp) fun j=>LENS a fun m=>EQL Pr 3 true m i2 fun n=>IFB n (SA n3 a i1 fun p=>LDN n3 p h fun q=>cl n134 [q] h j kp) (j (.str n1 n32) h)
def B142x264:Ans:=FA n0 d fun e=>LD e h fun f=>SA n3 a i0 fun g=>LDN n3 g h fun m=>SA n3 a i1 fun n=>LDN n3 n h fun p=>cl n140 [f,m,p] h (fun q l=>ST n3 b q l fun k=>LDN n3 b k fun r=>kr r k) kp
def B142x265:Ans:=EQL Pr 3 true d i31 fun m=>IFB m (B142x196 b a h cl kr kp) (EQL Pr 3 true d i32 fun n=>IFB n (B142x214 b a h cl kr kp) (EQL Pr 3 true d i30 fun p=>IFB p (B142x251 a e f g b h cl kr kp) (B142x264 a b e h cl kr kp)))
def B142x266:Ans:=EQL Pr 3 true a i27 fun m=>IFB m (B142x116 d b e h cl kr kp) (EQL Pr 3 true a i28 fun n=>IFB n (B142x153 b d h cl kr kp) (EQL Pr 3 true a i29 fun p=>IFB p (B142x178 b d h cl kr kp) (B142x265 b d a f e g h cl kr kp)))
def B142x267:Ans:=EQL Pr 3 true b i25 fun m=>IFB m (SA n3 d i0 fun n=>LDN n3 n h fun p=>cl n206 [p] h (fun q l=>OV (unOpA .neg q) fun r=>cl n126 [r] l (fun s o=>ST n3 a s o fun k=>LDN n3 a k fun t=>kr t k) kp) kp) (B142x266 b d a e f g h cl kr kp)
def B142x273:Ans:=FA n0 b fun q=>LD q h fun a=>JO (fun r k=>IFB r (B142x52 d e b k cl kr kp) (EQL Pr 3 true a i19 fun s=>IFB s (B142x74 d e k cl kr kp) (B142x267 e a d n b p k cl kr kp))) fun j=>EQL Pr 3 true a i15 fun f=>IFB f (j f h) (EQL Pr 3 true a i16 fun g=>IFB g (j g h) (EQL Pr 3 true a i17 fun m=>IFB m (j m h) (EQL Pr 3 true a i18 fun t=>j t h)))
def F142:FX:=fun fu oR cl args l kr kp=>AR3 args fun a g m=>BOX 94 m l fun b o=>NEWC (.n (some i0) (.n (some i0) .e .e) (.n (some s0) .e .e)) n3 57 o fun n A=>BSL n57 n3 [] n0 [] A fun p h=>FA n4 b fun q=>LD q h fun d=>LENS d fun r=>LP fu (fun _ _ _=>Ans.no) (fun j e f k=>LSS Pr 3 false e r fun s=>IFB s (B142x31 e d a f k cl kp j) (B142x273 b f n a g k cl kr kp)) i0 p h
theorem eqF142:F142=CF 142 3:=by kernel_rfl
def B145x27:Ans:=LDN n3 b h fun f=>LDN n3 a h fun e=>cl n200 [d,f] h (fun g l=>LDN n3 a l fun m=>EQV e m <| cl n220 [g,e] l (fun r k=>LDN n3 b k fun n=>FA n0 a fun p=>LD p k fun q=>cl n202 [d,n,i0,q] k (fun s o=>kr (.tuple []) o) kp) kp) kp
def F145:FX:=fun fu oR cl args l kr kp=>AR3 args fun b d e=>BOX 172 d l fun a o=>BOX 57 e o fun f h=>JO (fun A=>B145x27 f a b A cl kr kp) fun j=>LDN n3 a h fun g=>cl n199 [g] h (fun m k=>IFB m (GEN (panA (.iface n74 i12) k) cl (fun n C=>j C) kp) (j k)) kp
theorem eqF145:F145=CF 145 3:=by kernel_rfl
def F146:FX:=fun fu oR cl args h kr kp=>AR2 args fun a b=>JO (fun k=>NC a fun d=>FA n12 d fun e=>FA n2 e fun f=>LD f k fun g=>ADD Pr 9 false g b fun m=>NC a fun n=>FA n12 n fun p=>FA n2 p fun q=>ST n1 q m k fun l=>kr (.tuple []) l) fun j=>NC a fun r=>FA n12 r fun s=>FA n2 s fun t=>LD t h fun u=>LENT u fun v=>LENT b fun w=>ADD Pr 3 false v w fun x=>GTR Pr 3 true x i4000 fun y=>IFB y (GEN (panA (.iface n74 i5) h) cl (fun z o=>j o) kp) (j h)
theorem eqF146:F146=CF 146 2:=by kernel_rfl
def B153x18:Ans:=JO (fun f k=>SEL b bT f fun a=>JO (fun g l=>JO (fun m o=>SEL a bT m fun n=>kr n o) fun j=>GW false a (EQL Pr 5 true g (.int .u8 n10) fun p=>j p l) (j uU l)) fun J=>GW false a (J d k) (J uU k)) fun ja=>GW false b (EQL Pr 5 true e (.int .u8 n9) fun q=>ja q h) (ja uU h)
def F153:FX:=fun fu oR cl args h kr kp=>AR1 args fun a=>EQL Pr 5 true a (.int .u8 n32) fun b=>JO (fun d k=>B153x18 b a d k kr) fun j=>GW false b (j a h) (j uU h)
theorem eqF153:F153=CF 153 1:=by kernel_rfl
def B154x37 (J:AV → AV → AV → Heap → Ans):Ans:=BOP Pr .mul 3 true d i10 fun g=>SAT e a fun m=>SUB Pr 5 true m (.int .u8 n48) fun n=>OV (convV Pr h 5 3 n) fun p=>BOP Pr .mul 3 true p (.int .i64 (nat_lit 1000000)) fun q=>ADD Pr 3 false g q fun b=>JO (fun r k=>ADD Pr 3 true f i1 fun s=>ADD Pr 3 true a i1 fun t=>J s r t k) fun j=>GTR Pr 3 true b (.int .i64 (nat_lit 9000000000000)) fun u=>IFB u (j (.int .i64 (nat_lit 9000000000001)) h) (j b h)
def B154x51:Ans:=EQL Pr 3 true d i0 fun g=>IFB g (kr (.tuple [i0,i0]) h) (JO (fun b k=>JO (fun m l=>kr (.tuple [m,e]) l) fun j=>IFB f (OV (unOpA .neg b) fun n=>j n k) (j b k)) fun J=>GTR Pr 3 true a (.int .i64 (nat_lit 9000000000000)) fun p=>IFB p (J (.int .i64 (nat_lit 9000000000000)) h) (J a h))
def B154x123 (j:AV → AV → AV → AV → Heap → Ans):Ans:=SAT d a fun g=>SUB Pr 5 true g (.int .u8 n48) fun m=>OV (convV Pr h 5 3 m) fun n=>BOP Pr .mul 3 false n b fun p=>ADD Pr 3 false e p fun q=>BOP Pr .quo 3 true b i10 fun r=>ADD Pr 3 true f i1 fun s=>ADD Pr 3 true a i1 fun t=>j r s q t h
def B154x131 (ja:AV → AV → AV → AV → Heap → Ans) (jb:AV → AV → AV → Heap → Ans):Ans:=JO (fun p k=>JO (fun q l=>SEL a q bF fun r=>IFB r (B154x123 b g f d e l ja) (jb e d b l)) fun j=>GW true a (cl n92 [p] k j kp) (j uU k)) fun J=>GW true a (SAT m n fun t=>J t h) (J uU h)
def B154x134 (ja:AV → AV → AV → Heap → Ans):Ans:=ADD Pr 3 true e i1 fun m=>LP fu (fun _ _ _ _ _=>Ans.no) (fun jb n p q b h=>LENT a fun r=>LSS Pr 3 false b r fun d=>JO (fun s k=>JO (fun t o=>B154x131 d b q p a n s t o cl kp jb ja) fun j=>GW true d (j b k) (j uU k)) fun J=>GW true d (J a h) (J uU h)) (.int .i64 (nat_lit 100000)) f g m l
def B154x139 (j:AV → AV → AV → Heap → Ans):Ans:=JO (fun p k=>JO (fun q l=>SEL a q bF fun r=>IFB r (B154x134 g b d e l fu cl kp j) (j d e b l)) fun J=>GW true a (SEL f bT p fun s=>J s k) (J uU k)) fun ja=>GW false f (SEL m n bF fun t=>ja t h) (ja uU h)
def B154x149 (jb:AV → AV → AV → Heap → Ans):Ans:=JO (fun q k=>JO (fun r l=>JO (fun s o=>B154x139 b d f g m e a s o fu cl kp jb) fun j=>GW true a (cl n92 [r] l j kp) (j uU l)) fun J=>GW true a (SAT n q fun u=>J u k) (J uU k)) fun ja=>GW true a (ADD Pr 3 true p i1 fun v=>ja v h) (ja uU h)
def B154x155 (jc:AV → AV → AV → Heap → Ans):Ans:=JO (fun q k=>JO (fun b l=>JO (fun r o=>JO (fun s A=>B154x149 b f d e g m a r s A fu cl kp jc) fun j=>GW true b (j d o) (j uU o)) fun J=>GW true b (J e l) (J uU l)) fun ja=>GW false a (ja q k) (ja uU k)) fun jb=>GW false a (LSS Pr 3 false n p fun t=>jb t h) (jb uU h)
def B154x161 (jb:AV → AV → AV → Heap → Ans):Ans:=JO (fun n k=>JO (fun p l=>JO (fun q o=>B154x155 a e b d f g n q o fu cl kp jb) fun j=>GW false a (LENT p fun r=>j r l) (j uU l)) fun J=>GW false a (J b k) (J uU k)) fun ja=>GW false a (ADD Pr 3 true m i1 fun s=>ja s h) (ja uU h)
def B154x166 (jb:AV → AV → AV → Heap → Ans):Ans:=JO (fun n k=>JO (fun d l=>JO (fun p o=>B154x161 d e a b f g p o fu cl kp jb) fun j=>GW false d (j b l) (j uU l)) fun J=>GW true a (J n k) (J uU k)) fun ja=>GW true a (GTR Pr 3 true m i0 fun q=>ja q h) (ja uU h)
def B154x172 (jb:AV → AV → AV → Heap → Ans):Ans:=JO (fun p k=>JO (fun q l=>SEL a q bF fun d=>JO (fun r o=>B154x166 d e f b g r o fu cl kp jb) fun j=>GW true d (j b l) (j uU l)) fun J=>GW true a (EQL Pr 5 true p (.int .u8 n46) fun s=>J s k) (J uU k)) fun ja=>GW true a (SAT m n fun t=>ja t h) (ja uU h)
def B154x175:Ans:=JO (fun m n p l=>B154x51 n m p e l kr) fun ja=>LENT a fun q=>LSS Pr 3 false b q fun d=>JO (fun r k=>JO (fun s o=>B154x172 d f b a g r s o fu cl kp ja) fun j=>GW true d (j b k) (j uU k)) fun J=>GW true d (J a h) (J uU h)
def B154x183 (ja:AV → AV → AV → Heap → Ans):Ans:=JO (fun p k=>JO (fun q l=>SEL a q bF fun r=>IFB r (B154x37 e b d f l ja) (B154x175 d e g f b l fu cl kr kp)) fun j=>GW true a (cl n92 [p] k j kp) (j uU k)) fun J=>GW true a (SAT m n fun t=>J t h) (J uU h)
def B154x186:Ans:=LP fu (fun _ _ _ _=>Ans.no) (fun ja g m b h=>LENT a fun n=>LSS Pr 3 false b n fun d=>JO (fun p k=>JO (fun q o=>B154x183 d m a b g e p q o fu cl kr kp ja) fun j=>GW true d (j b k) (j uU k)) fun J=>GW true d (J a h) (J uU h)) i0 i0 f l
def B154x216 (j:AV → AV → Heap → Ans):Ans:=JO (fun g k=>SEL b g bF fun m=>IFB m (SAT d a fun n=>EQL Pr 5 true n (.int .u8 n45) fun p=>ADD Pr 3 true a i1 fun q=>j p q k) (j bF a k)) fun J=>GW true b (SEL e bT f fun r=>J r h) (J uU h)
def B154x222 (jb:AV → AV → Heap → Ans):Ans:=JO (fun g k=>JO (fun m l=>JO (fun n o=>B154x216 b d e a n o jb) fun j=>GW false a (EQL Pr 5 true m (.int .u8 n45) fun p=>j p l) (j uU l)) fun J=>GW false a (SAT f g fun q=>J q k) (J uU k)) fun ja=>GW false a (ja b h) (ja uU h)
def B154x227 (jb:AV → AV → Heap → Ans):Ans:=JO (fun g k=>JO (fun d l=>JO (fun m o=>B154x222 d e a b m o jb) fun j=>GW false d (j b l) (j uU l)) fun J=>GW true a (J g k) (J uU k)) fun ja=>GW true a (EQL Pr 5 true f (.int .u8 n43) fun n=>ja n h) (ja uU h)
def F154:FX:=fun fu oR cl args o kr kp=>AR1 args fun a=>cl n225 [a,i0] o (fun d h=>JO (fun e f A=>B154x186 a e f A fu cl kr kp) fun jb=>LENT a fun g=>LSS Pr 3 false d g fun b=>JO (fun m k=>JO (fun n l=>JO (fun p C=>B154x227 b a d p C jb) fun j=>GW true b (SAT m n fun q=>j q l) (j uU l)) fun J=>GW true b (J d k) (J uU k)) fun ja=>GW true b (ja a h) (ja uU h)) kp
theorem eqF154:F154=CF 154 1:=by kernel_rfl
def F155:FX:=fun fu oR cl args l kr kp=>AR1 args fun b=>cl n95 [b] l (fun a h=>JO (fun d k=>JO (fun e o=>SEL a bT e fun f=>kr f o) fun j=>GW false a (cl n92 [d] k j kp) (j uU k)) fun J=>GW false a (J b h) (J uU h)) kp
theorem eqF155:F155=CF 155 1:=by kernel_rfl
def F156:FX:=fun fu oR cl args k kr kp=>AR1 args fun d=>cl n226 [] k (fun b l=>LP fu (fun _ _=>Ans.no) (fun j a h=>LENS b fun e=>LSS Pr 3 false a e fun f=>IFB f (SA n1 b a fun g=>LD g h fun m=>EQL Pr 9 false m d fun n=>IFB n (kr bT h) (ADD Pr 3 true a i1 fun p=>j p h)) (kr bF h)) i0 l) kp
theorem eqF156:F156=CF 156 1:=by kernel_rfl
def F157:FX:=fun fu oR cl args h kr kp=>AR0 args <| BSL n9 n1 [s0,s0,s0,s0,s0,s0,s0,s0,s0,s0,s0,s0,s0,s0,s0,s0,s0,s0,s0,s0,s0,s0,s0,s0,s0,s0,s0] n27 [(n0,(.str n2 n9766)),(n1,(.str n2 (nat_lit 31868))),(n2,(.str n2 (nat_lit 15677))),(n3,(.str n2 (nat_lit 15649))),(n4,(.str n2 (nat_lit 32289))),(n5,(.str n2 (nat_lit 15676))),(n6,(.str n2 (nat_lit 15659))),(n7,(.str n1 n123)),(n8,(.str n1 n125)),(n9,(.str n1 n40)),(n10,(.str n1 n41)),(n11,(.str n1 n91)),(n12,(.str n1 n93)),(n13,(.str n1 n59)),(n14,(.str n1 n44)),(n15,(.str n1 n61)),(n16,(.str n1 n33)),(n17,(.str n1 n60)),(n18,(.str n1 n43)),(n19,(.str n1 n45)),(n20,(.str n1 n42)),(n21,(.str n1 n47)),(n22,(.str n1 n37)),(n23,(.str n1 n126)),(n24,(.str n1 n63)),(n25,(.str n1 n58)),(n26,(.str n1 n36))] h fun a k=>kr a k
theorem eqF157:F157=CF 157 0:=by kernel_rfl
def F158:FX:=fun fu oR cl args o kr kp=>AR1 args fun a=>NEWC (.n (some i0) (.n (some s0) (.n (some i0) .e .e) .e) (.n (some i0) .e .e)) n4 116 o fun b h=>NC a fun d=>FA n1 d fun e=>LD e h fun f=>NC a fun g=>FA n0 g fun m=>LD m h fun n=>LENS n fun p=>LSS Pr 3 false f p fun q=>IFB q (NC a fun r=>FA n0 r fun s=>LD s h fun t=>NC a fun u=>FA n1 u fun v=>LD v h fun w=>SA n4 t w fun x=>LDN n4 x h fun y=>ST n4 b y h fun k=>LDN n4 b k fun z=>kr z k) (OV (buildA Pr 116 []) fun c=>ST n4 b c h fun l=>LDN n4 b l fun i=>kr i l)
theorem eqF158:F158=CF 158 1:=by kernel_rfl
def B159x26:Ans:=JO (fun f k=>JO (fun g l=>SEL a g bF fun m=>IFB m (NC b fun n=>FA n5 n fun p=>ST n1 p bT l fun o=>kr (.tuple []) o) (kr (.tuple []) l)) fun j=>GW true a (OV (unOpA .not f) fun q=>j q k) (j uU k)) fun J=>GW true a (cl n100 [d,e] h J kp) (J uU h)
def F159:FX:=fun fu oR cl args h kr kp=>AR2 args fun a d=>NC a fun e=>FA n5 e fun f=>LD f h fun g=>OV (unOpA .not g) fun b=>JO (fun m k=>JO (fun n l=>B159x26 b a m n l cl kr kp) fun j=>GW true b (j d k) (j uU k)) fun J=>GW true b (J a h) (J uU h)
theorem eqF159:F159=CF 159 2:=by kernel_rfl
def B161x26:Ans:=SEL b bT d fun e=>IFB e (NC a fun f=>FA n5 f fun g=>ST n1 g bT h fun k=>kr bF k) (NC a fun m=>FA n2 m fun n=>LD n h fun p=>ADD Pr 3 true p i1 fun q=>NC a fun r=>FA n2 r fun s=>ST n1 s q h fun l=>kr bT l)
def B161x33:Ans:=JO (fun e h=>JO (fun f l=>JO (fun g o=>B161x26 b a g o kr) fun j=>GW false a (EQL Pr 3 true f i40 fun m=>j m l) (j uU l)) fun J=>GW false a (LD e h fun n=>J n h) (J uU h)) fun ja=>GW false a (FA n2 d fun p=>ja p k) (ja uU k)
def F161:FX:=fun fu oR cl args h kr kp=>AR1 args fun a=>NC a fun d=>FA n5 d fun e=>LD e h fun b=>JO (fun f k=>JO (fun g l=>B161x33 b a g l kr) fun j=>GW false b (NC f fun m=>j m k) (j uU k)) fun J=>GW false b (J a h) (J uU h)
theorem eqF161:F161=CF 161 1:=by kernel_rfl
def B162x30:Ans:=cl n103 [a] h (fun d k=>cl n159 [a,(.str n1 n58)] k (fun n l=>cl n103 [a] l (fun e o=>BSL n3 n1 [i0,i0,i0] n3 [(n0,b),(n1,d),(n2,e)] o fun f A=>OV (buildA Pr 94 [(n0,i9),(n4,f)]) fun g=>cl n163 [a,g] A kr kp) kp) kp) kp
def F162:FX:=fun fu oR cl args k kr kp=>AR1 args fun a=>cl n227 [a] k (fun b l=>cl n100 [a,(.str n1 n63)] l (fun d h=>OV (unOpA .not d) fun e=>IFB e (kr b h) (B162x30 a b h cl kr kp)) kp) kp
theorem eqF162:F162=CF 162 1:=by kernel_rfl
def B163x30:Ans:=NC a fun f=>FA n3 f fun g=>FA n0 g fun b=>LD b h fun d=>LDN n5 e h fun m=>BSL n94 n5 [i0,s0,s0,i0,(.nilslice)] n1 [(n0,m)] h fun n k=>LD b k fun p=>EQV d p <| GEN (builtinF .append Pr [37,37] [d,n] k) cl (fun q o=>NC a fun r=>FA n3 r fun s=>FA n0 s fun t=>ST n1 t q o fun l=>NC a fun u=>FA n3 u fun v=>FA n0 v fun w=>LD w l fun x=>LENS x fun y=>SUB Pr 3 true y i1 fun z=>kr z l) kp
def F163:FX:=fun fu oR cl args k kr kp=>AR2 args fun a b=>BOX 94 b k fun d h=>NC a fun e=>FA n5 e fun f=>LD f h fun g=>IFB g (kr i0 h) (B163x30 a d h cl kr kp)
theorem eqF163:F163=CF 163 2:=by kernel_rfl
def B164x60:Ans:=cl n159 [a,(.str n1 n40)] h (fun m k=>cl n103 [a] k (fun b l=>cl n159 [a,(.str n1 n41)] l (fun n o=>cl n164 [a] o (fun d A=>BSL n3 n1 [i0,i0] n2 [(n0,b),(n1,d)] A fun e C=>OV (buildA Pr 94 [(n0,i44),(n4,e)]) fun f=>cl n163 [a,f] C j kp) kp) kp) kp) kp
def B164x73:Ans:=cl n100 [a,(.str n5 (nat_lit 435610544247))] l (fun b h=>IFB b (B164x60 a h j cl kp) (cl n100 [a,(.str n3 (nat_lit 7499622))] h (fun d k=>IFB d (cl n229 [a] k j kp) (cl n230 [a] k j kp)) kp)) kp
def B164x74:Ans:=JO (fun b h=>NC a fun d=>FA n2 d fun e=>LD e h fun f=>SUB Pr 3 true f i1 fun g=>NC a fun m=>FA n2 m fun n=>ST n1 n g h fun A=>kr b A) fun j=>cl n102 [a,(.str n1 n123)] o (fun p k=>IFB p (cl n104 [a] k j kp) (cl n100 [a,(.str n2 (nat_lit 26217))] k (fun r l=>IFB r (cl n228 [a] l j kp) (B164x73 a l j cl kp)) kp)) kp
def F164:FX:=fun fu oR cl args k kr kp=>AR1 args fun a=>cl n161 [a] k (fun b h=>OV (unOpA .not b) fun d=>IFB d (kr i0 h) (B164x74 a h cl kr kp)) kp
theorem eqF164:F164=CF 164 1:=by kernel_rfl
def B165x45:Ans:=IFB e (SAT a b fun f=>BSL n5 n1 [(.int .u8 n0),(.int .u8 n0)] n2 [(n0,(.int .u8 n92)),(n1,f)] h fun g k=>GEN (builtinF .append Pr [22,22] [d,g] k) cl j kp) (SAT a b fun n=>BSL n5 n1 [(.int .u8 n0)] n1 [(n0,n)] h fun p o=>GEN (builtinF .append Pr [22,22] [d,p] o) cl j kp)
def B165x49:Ans:=EQL Pr 5 true a (.int .u8 n9) fun g=>IFB g (BSL n5 n1 [(.int .u8 n0),(.int .u8 n0)] n2 [(n0,(.int .u8 n92)),(n1,(.int .u8 n116))] h fun m k=>GEN (builtinF .append Pr [22,22] [b,m] k) cl j kp) (JO (fun p o=>B165x45 e f b p o j cl kp) fun J=>EQL Pr 5 true a (.int .u8 n34) fun d=>IFB d (J d h) (EQL Pr 5 true a (.int .u8 n92) fun q=>J q h))
def B165x50 (J:AV → AV → Heap → Ans):Ans:=SAT b a fun e=>JO (fun f k=>ADD Pr 3 true a i1 fun g=>J g f k) fun j=>EQL Pr 5 true e (.int .u8 n10) fun m=>IFB m (BSL n5 n1 [(.int .u8 n0),(.int .u8 n0)] n2 [(n0,(.int .u8 n92)),(n1,(.int .u8 n110))] h fun n l=>GEN (builtinF .append Pr [22,22] [d,n] l) cl j kp) (B165x49 e d b a h j cl kp)
def B165x58 (j:AV → AV → Heap → Ans):Ans:=LENT a fun e=>LSS Pr 3 false b e fun f=>IFB f (B165x50 b a d h cl kp j) (BSL n5 n1 [(.int .u8 n0)] n1 [(n0,(.int .u8 n34))] h fun g l=>GEN (builtinF .append Pr [22,22] [d,g] l) cl (fun m k=>OV (convV Pr k 22 9 m) fun n=>kr n k) kp)
def F165:FX:=fun fu oR cl args h kr kp=>AR1 args fun a=>BSL n5 n1 [(.int .u8 n0)] n1 [(n0,(.int .u8 n34))] h fun b k=>LP fu (fun _ _ _=>Ans.no) (fun j d e l=>B165x58 a d e l cl kr kp j) i0 b k
theorem eqF165:F165=CF 165 1:=by kernel_rfl
def B166x24 (j:AV → AV → Heap → Ans):Ans:=LDN n2 d h fun g=>SA n1 e b fun m=>LD m h fun n=>cl n105 [g,n] h (fun p k=>ADD Pr 9 false f p fun a=>LENT a fun q=>GTR Pr 3 true q (.int .i64 (nat_lit 16000)) fun r=>IFB r (kr a k) (ADD Pr 3 true b i1 fun s=>j s a k)) kp
def F166:FX:=fun fu oR cl args k kr kp=>AR2 args fun e d=>BOX 40 e k fun f l=>LP fu (fun _ _ _=>Ans.no) (fun J a b h=>LENS d fun g=>LSS Pr 3 false a g fun m=>IFB m (JO (fun n o=>B166x24 a f d n o cl kr kp J) fun j=>GTR Pr 3 true a i0 fun p=>IFB p (ADD Pr 9 true b (.str n2 n8236) fun q=>j q h) (j b h)) (kr b h)) i0 s0 l
theorem eqF166:F166=CF 166 2:=by kernel_rfl
def B168x9:Ans:=BSL n9 n1 [s0,s0,s0,s0,s0,s0,s0,s0,s0,s0,s0,s0,s0,s0,s0] n15 [(n0,(.str n2 (nat_lit 31868))),(n1,(.str n2 n9766)),(n2,(.str n1 n33)),(n3,(.str n1 n126)),(n4,(.str n2 (nat_lit 32289))),(n5,(.str n1 n60)),(n6,(.str n2 (nat_lit 15676))),(n7,(.str n2 (nat_lit 15677))),(n8,(.str n2 (nat_lit 15649))),(n9,s0),(n10,(.str n1 n43)),(n11,(.str n1 n45)),(n12,(.str n1 n42)),(n13,(.str n1 n47)),(n14,(.str n1 n37))] k fun b h=>SUB Pr 3 true a i10 fun d=>SA n1 b d fun e=>LD e h fun f=>kr f h
def F168:FX:=fun fu oR cl args h kr kp=>AR1 args fun a=>EQL Pr 3 true a i7 fun b=>IFB b (kr (.str n1 n61) h) (EQL Pr 3 true a i8 fun d=>IFB d (kr (.str n2 (nat_lit 15659)) h) (B168x9 a h kr))
theorem eqF168:F168=CF 168 1:=by kernel_rfl
def F169:FX:=fun fu oR cl args k kr kp=>AR3 args fun d a b=>BOX 40 d k fun e h=>LENS b fun f=>EQL Pr 3 true f i0 fun g=>IFB g (ADD Pr 9 true a (.str n1 n59) fun m=>kr m h) (ADD Pr 9 true a (.str n1 n32) fun n=>LDN n2 e h fun p=>cl n166 [p,b] h (fun q l=>ADD Pr 9 false n q fun r=>ADD Pr 9 true r (.str n1 n59) fun s=>kr s l) kp)
theorem eqF169:F169=CF 169 3:=by kernel_rfl
def B173x112 (j:AV → AV → Heap → Ans):Ans:=SEL d e bF fun n=>IFB n (OV (sliceA Pr 9 f (some a) none none) fun p=>cl n235 [p,g] h (fun b k=>LSS Pr 3 true b i0 fun q=>IFB q (kr (.int .i64 (nat_lit 18446744073709551615)) k) (ADD Pr 3 false a b fun r=>kr r k)) kp) (j m a h)
def B173x117 (jb:AV → AV → Heap → Ans):Ans:=SEL d e bF fun a=>JO (fun p k=>JO (fun q l=>JO (fun r o=>B173x112 b a r f g m o cl kr kp jb) fun j=>GW true a (LSS Pr 3 false p q fun s=>j s l) (j uU l)) fun J=>GW true a (J n k) (J uU k)) fun ja=>GW true a (ja b h) (ja uU h)
def B173x124 (jb:AV → AV → Heap → Ans):Ans:=JO (fun p k=>JO (fun q l=>JO (fun r o=>B173x117 d a r b e f g o cl kr kp jb) fun j=>GW true a (GEQ Pr 3 false m q fun s=>j s l) (j uU l)) fun J=>GW true a (ADD Pr 3 true i4 p fun t=>J t k) (J uU k)) fun ja=>GW true a (BOP Pr .shr 3 true n (.int .u64 n4) fun u=>ja u h) (ja uU h)
def B173x127 (ja:AV → AV → Heap → Ans):Ans:=SEL m n bF fun r=>IFB r (OV (sliceA Pr 9 d (some a) none none) fun s=>GEN (callF Pr h 233 [s,e]) cl (fun g k=>GEQ Pr 3 true g i0 fun t=>IFB t (ADD Pr 3 false g a fun u=>kr u k) (kr (.int .i64 (nat_lit 18446744073709551615)) k)) kp) (LD (.ptr n0 n0) h fun v=>GTR Pr 3 false p v fun b=>JO (fun w l=>JO (fun x o=>B173x124 b d a e f q w x o cl kr kp ja) fun j=>GW true b (j a l) (j uU l)) fun J=>GW true b (J f h) (J uU h))
def B173x136 (jb:AV → AV → Heap → Ans):Ans:=JO (fun p k=>JO (fun q l=>JO (fun r o=>B173x127 b d e g a r f m o cl kr kp jb) fun j=>GW true a (GTR Pr 3 false n q fun s=>j s l) (j uU l)) fun J=>GW true a (cl n234 [p] k J kp) (J uU k)) fun ja=>GW true a (ja b h) (ja uU h)
def B173x138 (J:AV → AV → Heap → Ans):Ans:=ADD Pr 3 true e i1 fun p=>ADD Pr 3 true f i1 fun b=>LD (.ptr n0 n0) h fun q=>LEQ Pr 3 false a q fun d=>JO (fun r k=>B173x136 d p g m a b n r k cl kr kp J) fun j=>GW true d (j b h) (j uU h)
def B173x144 (jb:AV → AV → Heap → Ans):Ans:=JO (fun r k=>JO (fun s l=>JO (fun t o=>SEL a t bF fun u=>IFB u (kr b o) (B173x138 f b e g d m o cl kr kp jb)) fun j=>GW true a (EQL Pr 9 false r s fun v=>j v l) (j uU l)) fun J=>GW true a (J d k) (J uU k)) fun ja=>GW true a (OV (sliceA Pr 9 n (some p) (some q) none) fun w=>ja w h) (ja uU h)
def B173x149 (jb:AV → AV → Heap → Ans):Ans:=JO (fun q k=>JO (fun r l=>JO (fun s o=>B173x144 a b g e d f m n p s o cl kr kp jb) fun j=>GW true a (ADD Pr 3 false q r fun t=>j t l) (j uU l)) fun J=>GW true a (J d k) (J uU k)) fun ja=>GW true a (ja b h) (ja uU h)
def B173x152 (ja:AV → AV → Heap → Ans):Ans:=ADD Pr 3 true a i1 fun p=>SAT b p fun q=>EQL Pr 5 false q e fun d=>JO (fun r k=>JO (fun s l=>B173x149 d a g f b m n r s l cl kr kp ja) fun j=>GW true d (j a k) (j uU k)) fun J=>GW true d (J b h) (J uU h)
def B173x165:Ans:=ADD Pr 3 true a i1 fun g=>OV (sliceA Pr 9 d (some g) (some e) none) fun m=>cl n232 [m,f] k (fun b h=>LSS Pr 3 true b i0 fun n=>IFB n (kr (.int .i64 (nat_lit 18446744073709551615)) h) (ADD Pr 3 true b i1 fun p=>ADD Pr 3 false a p fun q=>j q h)) kp
def B173x166 (J:AV → AV → Heap → Ans):Ans:=LSS Pr 3 false a b fun p=>IFB p (JO (fun q k=>B173x152 q d f g m n b k cl kr kp J) fun j=>SAT d a fun r=>NEQ Pr 5 false r e fun s=>IFB s (B173x165 a d b e h j cl kr kp) (j a h)) (kr (.int .i64 (nat_lit 18446744073709551615)) h)
def B173x167:Ans:=SAT a i0 fun e=>SAT a i1 fun f=>LENT b fun g=>SUB Pr 3 false g d fun m=>ADD Pr 3 true m i1 fun n=>LP fu (fun _ _ _=>Ans.no) (fun j p q k=>B173x166 q n b e f p d a k cl kr kp j) i0 i0 h
def B173x172:Ans:=JO (fun g k=>JO (fun m l=>SEL a m bF fun n=>IFB n (GEN (callF Pr l 233 [b,d]) cl kr kp) (B173x167 d b e l fu cl kr kp)) fun j=>GW true a (LEQ Pr 3 true g i64 fun q=>j q k) (j uU k)) fun J=>GW true a (LENT f fun r=>J r h) (J uU h)
def B173x174:Ans:=LENT a fun f=>GEQ Pr 3 false b f fun g=>IFB g (kr (.int .i64 (nat_lit 18446744073709551615)) h) (LD (.ptr n0 n0) h fun m=>LEQ Pr 3 false b m fun d=>JO (fun n k=>B173x172 d a e b n k fu cl kr kp) fun j=>GW true d (j a h) (j uU h))
def B173x177:Ans:=JO (fun m h=>SEL a bT m fun n=>IFB n (kr i0 h) (EQL Pr 3 true b i1 fun p=>IFB p (SAT d i0 fun q=>cl n232 [e,q] h kr kp) (B173x174 e b d h fu cl kr kp))) fun j=>GW false a (EQL Pr 9 false f g fun s=>j s k) (j uU k)
def F173:FX:=fun fu oR cl args h kr kp=>AR2 args fun d a=>LENT a fun e=>EQL Pr 3 true e i0 fun b=>JO (fun f k=>JO (fun g l=>B173x177 b e a d f g l fu cl kr kp) fun j=>GW false b (j d k) (j uU k)) fun J=>GW false b (J a h) (J uU h)
theorem eqF173:F173=CF 173 2:=by kernel_rfl
def F174:FX:=fun fu oR cl args h kr kp=>AR1 args fun a=>NC a fun b=>FA n0 b fun d=>LD d h fun e=>EQL Pr 84 true e (.nilp) fun f=>IFB f (OV (convV Pr h 84 248 a) fun g=>GEN (callF Pr h 236 [g]) cl (fun m k=>OV (convV Pr k 248 84 m) fun n=>NC a fun p=>FA n0 p fun q=>ST n1 q n k fun l=>kr (.tuple []) l) kp) (NC a fun r=>FA n0 r fun s=>LD s h fun t=>NEQ Pr 84 false t a fun u=>IFB u (Ans.no) (kr (.tuple []) h))
theorem eqF174:F174=CF 174 1:=by kernel_rfl
def F175:FX:=fun fu oR cl args h kr kp=>AR1 args fun a=>cl n23 [a,(.int .i64 (nat_lit 18446735073709551616)),(.int .i64 (nat_lit 9000000000000))] h kr kp
theorem eqF175:F175=CF 175 1:=by kernel_rfl
def F176:FX:=fun fu oR cl args h kr kp=>AR1 args fun a=>cl n237 [a] h kr kp
theorem eqF176:F176=CF 176 1:=by kernel_rfl
def B177x40:Ans:=cl n239 [a] k (fun d l=>EX n0 d fun f=>EX n1 d fun g=>NEWC (.n (some bF) (.n (some bF) (.n (some bF) (.n (some bF) (.n (some bF) (.n (some bF) (.n (some bF) (.n (some bF) (.n (some bF) .e .e) .e) (.n (some bF) .e .e)) (.n (some bF) (.n (some bF) .e .e) (.n (some bF) .e .e))) (.n (some bF) (.n (some bF) (.n (some bF) .e .e) (.n (some bF) .e .e)) (.n (some bF) (.n (some bF) .e .e) (.n (some bF) .e .e)))) (.n (some bF) (.n (some bF) (.n (some bF) (.n (some bF) .e .e) (.n (some bF) .e .e)) (.n (some bF) (.n (some bF) .e .e) (.n (some bF) .e .e))) (.n (some bF) (.n (some bF) (.n (some bF) .e .e) (.n (some bF) .e .e)) (.n (some bF) (.n (some bF) .e .e) (.n (some bF) .e .e))))) (.n (some bF) (.n (some bF) (.n (some bF) (.n (some bF) (.n (some bF) .e .e) (.n (some bF) .e .e)) (.n (some bF) (.n (some bF) .e .e) (.n (some bF) .e .e))) (.n (some bF) (.n (some bF) (.n (some bF) .e .e) (.n (some bF) .e .e)) (.n (some bF) (.n (some bF) .e .e) (.n (some bF) .e .e)))) (.n (some bF) (.n (some bF) (.n (some bF) (.n (some bF) .e .e) (.n (some bF) .e .e)) (.n (some bF) (.n (some bF) .e .e) (.n (some bF) .e .e))) (.n (some bF) (.n (some bF) (.n (some bF) .e .e) (.n (some bF) .e .e)) (.n (some bF) (.n (some bF) .e .e) (.n (some bF) .e .e)))))) (.n (some bF) (.n (some bF) (.n (some bF) (.n (some bF) (.n (some bF) (.n (some bF) .e .e) (.n (some bF) .e .e)) (.n (some bF) (.n (some bF) .e .e) (.n (some bF) .e .e))) (.n (some bF) (.n (some bF) (.n (some bF) .e .e) (.n (some bF) .e .e)) (.n (some bF) (.n (some bF) .e .e) (.n (some bF) .e .e)))) (.n (some bF) (.n (some bF) (.n (some bF) (.n (some bF) .e .e) (.n (some bF) .e .e)) (.n (some bF) (.n (some bF) .e .e) (.n (some bF) .e .e))) (.n (some bF) (.n (some bF) (.n (some bF) .e .e) (.n (some bF) .e .e)) (.n (some bF) (.n (some bF) .e .e) (.n (some bF) .e .e))))) (.n (some bF) (.n (some bF) (.n (some bF) (.n (some bF) (.n (some bF) .e .e) (.n (some bF) .e .e)) (.n (some bF) (.n (some bF) .e .e) (.n (some bF) .e .e))) (.n (some bF) (.n (some bF) (.n (some bF) .e .e) (.n (some bF) .e .e)) (.n (some bF) (.n (some bF) .e .e) (.n (some bF) .e .e)))) (.n (some bF) (.n (some bF) (.n (some bF) (.n (some bF) .e .e) (.n (some bF) .e .e)) (.n (some bF) (.n (some bF) .e .e) (.n (some bF) .e .e))) (.n (some bF) (.n (some bF) (.n (some bF) .e .e) (.n (some bF) .e .e)) (.n (some bF) (.n (some bF) .e .e) (.n (some bF) .e .e))))))) (.n (some bF) (.n (some bF) (.n (some bF) (.n (some bF) (.n (some bF) (.n (some bF) (.n (some bF) .e .e) (.n (some bF) .e .e)) (.n (some bF) (.n (some bF) .e .e) (.n (some bF) .e .e))) (.n (some bF) (.n (some bF) (.n (some bF) .e .e) (.n (some bF) .e .e)) (.n (some bF) (.n (some bF) .e .e) (.n (some bF) .e .e)))) (.n (some bF) (.n (some bF) (.n (some bF) (.n (some bF) .e .e) (.n (some bF) .e .e)) (.n (some bF) (.n (some bF) .e .e) (.n (some bF) .e .e))) (.n (some bF) (.n (some bF) (.n (some bF) .e .e) (.n (some bF) .e .e)) (.n (some bF) (.n (some bF) .e .e) (.n (some bF) .e .e))))) (.n (some bF) (.n (some bF) (.n (some bF) (.n (some bF) (.n (some bF) .e .e) (.n (some bF) .e .e)) (.n (some bF) (.n (some bF) .e .e) (.n (some bF) .e .e))) (.n (some bF) (.n (some bF) (.n (some bF) .e .e) (.n (some bF) .e .e)) (.n (some bF) (.n (some bF) .e .e) (.n (some bF) .e .e)))) (.n (some bF) (.n (some bF) (.n (some bF) (.n (some bF) .e .e) (.n (some bF) .e .e)) (.n (some bF) (.n (some bF) .e .e) (.n (some bF) .e .e))) (.n (some bF) (.n (some bF) (.n (some bF) .e .e) (.n (some bF) .e .e)) (.n (some bF) (.n (some bF) .e .e) (.n (some bF) .e .e)))))) (.n (some bF) (.n (some bF) (.n (some bF) (.n (some bF) (.n (some bF) (.n (some bF) .e .e) (.n (some bF) .e .e)) (.n (some bF) (.n (some bF) .e .e) (.n (some bF) .e .e))) (.n (some bF) (.n (some bF) (.n (some bF) .e .e) (.n (some bF) .e .e)) (.n (some bF) (.n (some bF) .e .e) (.n (some bF) .e .e)))) (.n (some bF) (.n (some bF) (.n (some bF) (.n (some bF) .e .e) (.n (some bF) .e .e)) (.n (some bF) (.n (some bF) .e .e) (.n (some bF) .e .e))) (.n (some bF) (.n (some bF) (.n (some bF) .e .e) (.n (some bF) .e .e)) (.n (some bF) (.n (some bF) .e .e) (.n (some bF) .e .e))))) (.n (some bF) (.n (some bF) (.n (some bF) (.n (some bF) (.n (some bF) .e .e) (.n (some bF) .e .e)) (.n (some bF) (.n (some bF) .e .e) (.n (some bF) .e .e))) (.n (some bF) (.n (some bF) (.n (some bF) .e .e) (.n (some bF) .e .e)) (.n (some bF) (.n (some bF) .e .e) (.n (some bF) .e .e)))) (.n (some bF) (.n (some bF) (.n (some bF) (.n (some bF) .e .e) (.n (some bF) .e .e)) (.n (some bF) (.n (some bF) .e .e) (.n (some bF) .e .e))) (.n (some bF) (.n (some bF) (.n (some bF) .e .e) (.n (some bF) .e .e)) (.n (some bF) (.n (some bF) .e .e) (.n (some bF) .e .e)))))))) n256 252 l fun e o=>ST n256 e f o fun h=>IFB g (cl n240 [b,e] h kr kp) (cl n241 [b,a] h kr kp)) kp
def B177x43:Ans:=JO (fun f k=>SEL a f bF fun g=>IFB g (SAT b i0 fun m=>cl n238 [d,m] k kr kp) (B177x40 b d k cl kr kp)) fun j=>GW true a (LSS Pr 5 true e (.int .u8 n128) fun p=>j p h) (j uU h)
def B177x47:Ans:=SEL e bT f fun g=>IFB g (kr d h) (LENT a fun m=>EQL Pr 3 true m i1 fun b=>JO (fun n k=>JO (fun p l=>B177x43 b a d p l cl kr kp) fun j=>GW true b (SAT n i0 fun q=>j q k) (j uU k)) fun J=>GW true b (J a h) (J uU h))
def F177:FX:=fun fu oR cl args h kr kp=>AR2 args fun b d=>EQL Pr 9 true b s0 fun a=>JO (fun e k=>JO (fun f l=>B177x47 d b a f l cl kr kp) fun j=>GW false a (EQL Pr 9 true e s0 fun g=>j g k) (j uU k)) fun J=>GW false a (J d h) (J uU h)
theorem eqF177:F177=CF 177 2:=by kernel_rfl
def F178:FX:=fun fu oR cl args h kr kp=>AR2 args fun a b=>cl n232 [a,b] h kr kp
theorem eqF178:F178=CF 178 2:=by kernel_rfl
def F179:FX:=fun fu oR cl args h kr kp=>AR2 args fun a f=>NC a fun g=>FA n1 g fun m=>LD m h fun n=>OPV (builtinF .cap Pr [22] [n] h) fun p=>BOP Pr .mul 3 true i2 p fun q=>ADD Pr 3 false q f fun r=>NC a fun s=>FA n1 s fun b=>LD b h fun d=>LENS d fun t=>GEN (callF Pr h 242 [r]) cl (fun u k=>LD b k fun v=>EQV d v <| OV (sliceA Pr 22 u none (some t) none) fun e=>NC a fun w=>FA n1 w fun x=>LD x k fun y=>GEN (builtinF .copy Pr [22,22] [e,y] k) cl (fun i l=>NC a fun z=>FA n1 z fun c=>ST n1 c e l fun o=>kr (.tuple []) o) kp) kp
theorem eqF179:F179=CF 179 2:=by kernel_rfl
def F180:FX:=fun fu oR cl args h kr kp=>AR1 args fun b=>GEQ Pr 5 true b (.int .u8 n48) fun a=>JO (fun d k=>JO (fun e l=>SEL a e bF fun f=>kr f l) fun j=>GW true a (LEQ Pr 5 true d (.int .u8 n57) fun g=>j g k) (j uU k)) fun J=>GW true a (J b h) (J uU h)
theorem eqF180:F180=CF 180 1:=by kernel_rfl
def B181x44 (j:AV → AV → Heap → Ans):Ans:=SA n1 b a fun e=>LD e h fun f=>BOP Pr .mul 3 true d i10 fun g=>SUB Pr 5 true f (.int .u8 n48) fun m=>OV (convV Pr h 5 3 m) fun n=>ADD Pr 3 false g n fun p=>OPV (builtinF .min Pr [3,3] [p,(.int .i64 (nat_lit 9000000000001))] h) fun q=>ADD Pr 3 true a i1 fun r=>j r q h
def B181x50:Ans:=ADD Pr 9 true f (.str n6 (nat_lit 52983525027888)) fun p=>OV (sliceA Pr 9 p none (some i6) none) fun q=>ADD Pr 9 false g q fun r=>OVH (convB Pr k 22 r) fun a l=>LENS a fun s=>LP fu (fun _ _ _=>Ans.no) (fun J b d h=>LSS Pr 3 false b s fun t=>IFB t (B181x44 b a d h J) (OPV (builtinF .min Pr [3,3] [d,(.int .i64 (nat_lit 9000000000000))] h) fun e=>JO (fun u o=>kr (.tuple [u,m]) o) fun j=>IFB n (OV (unOpA .neg e) fun v=>j v h) (j e h))) i0 i0 l
def B181x54:Ans:=EQL Pr 9 true b s0 fun a=>JO (fun g k=>JO (fun m l=>SEL a m bF fun n=>IFB n (kr (.tuple [i0,i0]) l) (B181x50 d b e f l fu kr)) fun j=>GW true a (EQL Pr 9 true g s0 fun p=>j p k) (j uU k)) fun J=>GW true a (J d h) (J uU h)
def B181x80 (j:AV → AV → Heap → Ans):Ans:=ADD Pr 3 true a i1 fun e=>ADD Pr 3 true a i1 fun f=>ADD Pr 3 false f b fun g=>OV (sliceA Pr 9 d (some e) (some g) none) fun m=>ADD Pr 3 true i1 b fun n=>ADD Pr 3 false a n fun p=>j m p h
def B181x81 (j:AV → AV → Heap → Ans):Ans:=SEL e f bF fun m=>IFB m (ADD Pr 3 true a i1 fun n=>cl n121 [b,n,(.func (.func 180) [] [])] h (fun d k=>ADD Pr 3 false g d fun p=>GTR Pr 3 true p i0 fun q=>IFB q (B181x80 a d b k j) (j s0 a k)) kp) (j s0 a h)
def B181x87 (jb:AV → AV → Heap → Ans):Ans:=JO (fun g k=>JO (fun m l=>JO (fun n o=>B181x81 b d a n e o cl kp jb) fun j=>GW true a (EQL Pr 5 true m (.int .u8 n46) fun p=>j p l) (j uU l)) fun J=>GW true a (SAT f g fun q=>J q k) (J uU k)) fun ja=>GW true a (ja b h) (ja uU h)
def B181x89:Ans:=cl n121 [a,b,(.func (.func 180) [] [])] k (fun d h=>ADD Pr 3 false b d fun m=>OV (sliceA Pr 9 a (some b) (some m) none) fun n=>ADD Pr 3 false b d fun e=>JO (fun p q l=>B181x54 n p q g l fu kr) fun J=>LENT a fun r=>LSS Pr 3 false e r fun f=>JO (fun s o=>B181x87 f e a d s o cl kp J) fun j=>GW true f (j a h) (j uU h)) kp
def B181x119 (j:AV → AV → Heap → Ans):Ans:=JO (fun g k=>SEL b g bF fun m=>IFB m (SAT d a fun n=>EQL Pr 5 true n (.int .u8 n45) fun p=>ADD Pr 3 true a i1 fun q=>j p q k) (j bF a k)) fun J=>GW true b (SEL e bT f fun r=>J r h) (J uU h)
def B181x125 (jb:AV → AV → Heap → Ans):Ans:=JO (fun g k=>JO (fun m l=>JO (fun n o=>B181x119 b d e a n o jb) fun j=>GW false a (EQL Pr 5 true m (.int .u8 n45) fun p=>j p l) (j uU l)) fun J=>GW false a (SAT f g fun q=>J q k) (J uU k)) fun ja=>GW false a (ja b h) (ja uU h)
def B181x130 (jb:AV → AV → Heap → Ans):Ans:=JO (fun g k=>JO (fun d l=>JO (fun m o=>B181x125 d e a b m o jb) fun j=>GW false d (j b l) (j uU l)) fun J=>GW true a (J g k) (J uU k)) fun ja=>GW true a (EQL Pr 5 true f (.int .u8 n43) fun n=>ja n h) (ja uU h)
def F181:FX:=fun fu oR cl args o kr kp=>AR1 args fun a=>cl n121 [a,i0,(.func (.func 120) [] [])] o (fun d h=>JO (fun e f A=>B181x89 a f e A fu cl kr kp) fun jb=>LENT a fun g=>LSS Pr 3 false d g fun b=>JO (fun m k=>JO (fun n l=>JO (fun p C=>B181x130 b a d p C jb) fun j=>GW true b (SAT m n fun q=>j q l) (j uU l)) fun J=>GW true b (J d k) (J uU k)) fun ja=>GW true b (ja a h) (ja uU h)) kp
theorem eqF181:F181=CF 181 1:=by kernel_rfl
def B182x37 (j:AV → AV → Heap → Ans):Ans:=SAT d a fun e=>cl n178 [(.str n4 (nat_lit 1545761902)),e] k (fun b h=>LSS Pr 3 true b i0 fun f=>IFB f (kr (.tuple [s0,i0]) h) (SAT (.str n4 (nat_lit 1545734410)) b fun g=>j g a h)) kp
def B182x38 (j:AV → AV → Heap → Ans):Ans:=EQL Pr 5 true a (.int .u8 n92) fun f=>IFB f (ADD Pr 3 true b i1 fun e=>LENT d fun g=>GEQ Pr 3 false e g fun m=>IFB m (kr (.tuple [s0,i0]) h) (B182x37 e d h cl kr kp j)) (j a b h)
def B182x39 (j:AV → AV → Heap → Ans):Ans:=SAT d a fun b=>JO (fun f g k=>BSL n5 n1 [(.int .u8 n0)] n1 [(n0,f)] k fun m l=>GEN (builtinF .append Pr [22,22] [e,m] l) cl (fun n o=>ADD Pr 3 true g i1 fun p=>j p n o) kp) fun J=>EQL Pr 5 true b (.int .u8 n34) fun q=>IFB q (OV (convV Pr h 22 9 e) fun r=>ADD Pr 3 true a i1 fun s=>kr (.tuple [r,s]) h) (EQL Pr 5 true b (.int .u8 n10) fun t=>IFB t (kr (.tuple [s0,i0]) h) (B182x38 b a d h cl kr kp J))
def F182:FX:=fun fu oR cl args k kr kp=>AR1 args fun a=>BSL n5 n1 [] n0 [] k fun d l=>LP fu (fun _ _ _=>Ans.no) (fun j b e h=>LENT a fun f=>LSS Pr 3 false b f fun g=>IFB g (B182x39 b a e h cl kr kp j) (kr (.tuple [s0,i0]) h)) i1 d l
theorem eqF182:F182=CF 182 1:=by kernel_rfl
def B185x31:Ans:=JO (fun g k=>SEL b bT g fun a=>JO (fun m l=>JO (fun n o=>SEL a bT n fun p=>kr p o) fun j=>GW false a (EQL Pr 5 true m (.int .u8 n95) fun q=>j q l) (j uU l)) fun J=>GW false a (J d k) (J uU k)) fun ja=>GW false b (SEL e f bF fun r=>ja r h) (ja uU h)
def B185x36:Ans:=JO (fun a k=>JO (fun f l=>JO (fun g o=>B185x31 b d a g o kr) fun j=>GW true a (LEQ Pr 5 true f (.int .u8 n122) fun m=>j m l) (j uU l)) fun J=>GW true a (J d k) (J uU k)) fun ja=>GW false b (ja e h) (ja uU h)
def B185x42:Ans:=JO (fun f k=>SEL b f bF fun a=>JO (fun g l=>JO (fun m o=>B185x36 a d m o kr) fun j=>GW false a (GEQ Pr 5 true g (.int .u8 n97) fun n=>j n l) (j uU l)) fun J=>GW false a (J d k) (J uU k)) fun ja=>GW true b (LEQ Pr 5 true e (.int .u8 n90) fun p=>ja p h) (ja uU h)
def F185:FX:=fun fu oR cl args h kr kp=>AR1 args fun a=>GEQ Pr 5 true a (.int .u8 n65) fun b=>JO (fun d k=>B185x42 b a d k kr) fun j=>GW true b (j a h) (j uU h)
theorem eqF185:F185=CF 185 1:=by kernel_rfl
def F186:FX:=fun fu oR cl args l kr kp=>AR1 args fun b=>cl n185 [b] l (fun a h=>JO (fun d k=>JO (fun e o=>SEL a bT e fun f=>kr f o) fun j=>GW false a (cl n180 [d] k j kp) (j uU k)) fun J=>GW false a (J b h) (J uU h)) kp
theorem eqF186:F186=CF 186 1:=by kernel_rfl
def F187:FX:=fun fu oR cl args h kr kp=>AR1 args fun a=>cl n243 [] h (fun b k=>cl n203 [b,a] k kr kp) kp
theorem eqF187:F187=CF 187 1:=by kernel_rfl
def F188:FX:=fun fu oR cl args h kr kp=>AR2 args fun a b=>cl n244 [a,b] h kr kp
theorem eqF188:F188=CF 188 2:=by kernel_rfl
def F189:FX:=fun fu oR cl args h kr kp=>AR2 args fun a b=>cl n245 [a,i0] h (fun d k=>cl n246 [d,i6,b] k kr kp) kp
theorem eqF189:F189=CF 189 2:=by kernel_rfl
def F190:FX:=fun fu oR cl args o kr kp=>AR1 args fun a=>NEWC (.n (some i0) (.n (some s0) (.n (some i0) .e .e) .e) (.n (some i0) .e .e)) n4 116 o fun b A=>cl n245 [a,i0] A (fun e C=>NEWC (.n (some i0) (.n (some s0) (.n (some i0) .e .e) .e) (.n (some i0) .e .e)) n4 116 C fun d D=>ST n4 d e D fun h=>NC a fun f=>FA n1 f fun g=>LD g h fun m=>ADD Pr 3 true m i1 fun n=>NC a fun p=>FA n1 p fun q=>ST n1 q n h fun k=>LDN n4 d k fun r=>ST n4 b r k fun l=>LDN n4 b l fun s=>kr s l) kp
theorem eqF190:F190=CF 190 1:=by kernel_rfl
def F191:FX:=fun fu oR cl args k kr kp=>AR2 args fun a b=>JO (fun l=>cl n190 [a] l (fun d o=>OV (fieldA Pr 116 d 1) fun e=>kr e o) kp) fun j=>cl n245 [a,i0] k (fun f A=>OV (fieldA Pr 116 f 0) fun g=>cl n55 [b,g] A (fun m h=>OV (unOpA .not m) fun n=>IFB n (cl n247 [a] h (fun p C=>j C) kp) (j h)) kp) kp
theorem eqF191:F191=CF 191 2:=by kernel_rfl
def F192:FX:=fun fu oR cl args l kr kp=>AR2 args fun a b=>JO (fun h=>NC a fun d=>FA n1 d fun e=>LD e h fun f=>ADD Pr 3 true f i1 fun g=>NC a fun m=>FA n1 m fun n=>ST n1 n g h fun o=>kr (.tuple []) o) fun j=>BSL n9 n1 [s0] n1 [(n0,b)] l fun p A=>cl n193 [a,p] A (fun q k=>OV (unOpA .not q) fun r=>IFB r (cl n247 [a] k (fun s C=>j C) kp) (j k)) kp
theorem eqF192:F192=CF 192 2:=by kernel_rfl
def F193:FX:=fun fu oR cl args h kr kp=>AR2 args fun a b=>cl n245 [a,i0] h (fun d k=>cl n246 [d,i7,b] k kr kp) kp
theorem eqF193:F193=CF 193 2:=by kernel_rfl
def F194:FX:=fun fu oR cl args k kr kp=>AR1 args fun b=>BOX 123 b k fun a h=>LD a h fun d=>cl n248 [d,(.func (.func 249) [] [a])] h kr kp
theorem eqF194:F194=CF 194 1:=by kernel_rfl
def B195x39:Ans:=BSL n9 n1 [s0] n1 [(n0,(.str n1 n125))] k fun d l=>cl n193 [a,d] l (fun e h=>OV (unOpA .not e) fun f=>IFB f (cl n252 [a] h (fun g o=>BSL n3 n1 [i0] n1 [(n0,g)] o fun m A=>GEN (builtinF .append Pr [92,92] [b,m] A) cl j kp) kp) (NC a fun p=>FA n1 p fun q=>LD q h fun r=>ADD Pr 3 true r i1 fun s=>NC a fun t=>FA n1 t fun u=>ST n1 u s h fun D=>cl n251 [a,i53,b] D kr kp)) kp
def F195:FX:=fun fu oR cl args h kr kp=>AR1 args fun a=>cl n192 [a,(.str n1 n123)] h (fun e k=>BSL n3 n1 [] n0 [] k fun b l=>LP fu (fun _ _=>Ans.no) (fun j d o=>B195x39 a d o j cl kr kp) b l) kp
theorem eqF195:F195=CF 195 1:=by kernel_rfl
def F196:FX:=fun fu oR cl args k kr kp=>AR1 args fun b=>NEWC (.n (some i0) (.n (some i0) .e .e) (.n (some s0) .e .e)) n3 57 k fun a l=>BOP Pr .mul 3 true b (.int .i64 (nat_lit 1000000)) fun d=>OV (buildA Pr 57 [(n0,i1),(n1,d)]) fun e=>ST n3 a e l fun h=>LDN n3 a h fun f=>kr f h
theorem eqF196:F196=CF 196 1:=by kernel_rfl
def B199x30:Ans:=JO (fun e k=>JO (fun f l=>JO (fun g o=>SEL b g bF fun m=>kr m o) fun j=>GW true b (SEL a bT f fun n=>j n l) (j uU l)) fun J=>GW false a (EQL Pr 9 true e (.str n2 (nat_lit 17998)) fun p=>J p k) (J uU k)) fun ja=>GW false a (LD d h fun q=>ja q h) (ja uU h)
def B199x36:Ans:=JO (fun f k=>JO (fun b l=>JO (fun g o=>B199x30 b a g o kr) fun j=>GW false b (FA n1 d fun m=>j m l) (j uU l)) fun J=>GW true a (J f k) (J uU k)) fun ja=>GW true a (EQL Pr 9 true e (.str n2 (nat_lit 21070)) fun n=>ja n h) (ja uU h)
def F199:FX:=fun fu oR cl args l kr kp=>AR1 args fun d=>BOX 172 d l fun a h=>FA n0 a fun e=>LD e h fun f=>EQL Pr 9 true f s0 fun b=>JO (fun g k=>JO (fun m o=>B199x36 b a m o kr) fun j=>GW true b (LD g k fun n=>j n k) (j uU k)) fun J=>GW true b (FA n1 a fun p=>J p h) (J uU h)
theorem eqF199:F199=CF 199 1:=by kernel_rfl
def B200x25:Ans:=JO (fun k=>FA n1 a fun d=>LD d k fun e=>OV (lookupA Pr k 53 b e false) fun f=>kr f k) fun j=>FA n1 a fun g=>LD g h fun m=>OV (lookupA Pr h 53 b m false) fun n=>EQL Pr 224 true n (.nilp) fun p=>IFB p (FA n1 a fun q=>LD q h fun r=>OV (buildA Pr 268 []) fun s=>BOX 268 s h fun t l=>OSK (mapUpdateA Pr l 53 b r t) fun o=>j o) (j h)
def F200:FX:=fun fu oR cl args k kr kp=>AR2 args fun a d=>BOX 172 d k fun b h=>NC a fun e=>FA n3 e fun f=>LD f h fun g=>JO (fun m l=>B200x25 b m l kr) fun j=>FA n0 b fun n=>LD n h fun p=>NEQ Pr 9 true p s0 fun q=>IFB q (NC a fun r=>FA n4 r fun s=>LD s h fun t=>NC a fun u=>FA n4 u fun v=>LD v h fun w=>LENS w fun x=>SUB Pr 3 true x i1 fun y=>SA n1 t y fun z=>LD z h fun c=>j c h) (j g h)
theorem eqF200:F200=CF 200 2:=by kernel_rfl
def F201:FX:=fun fu oR cl args A kr kp=>AR1 args fun b=>NEWC (.n (some i0) (.n (some i0) .e .e) (.n (some s0) .e .e)) n3 57 A fun a C=>JO (fun k=>NC b fun d=>FA n0 d fun e=>LD e k fun f=>NC f fun g=>LDN n3 g k fun m=>ST n3 a m k fun l=>LDN n3 a l fun n=>kr n l) fun j=>cl n255 [b] C (fun p h=>IFB p (GEN (panA (.iface n74 i7) h) cl (fun w D=>j D) kp) (NC b fun q=>FA n0 q fun r=>LD r h fun s=>EQL Pr 266 true s (.nilp) fun t=>IFB t (OV (buildA Pr 57 []) fun u=>ST n3 a u h fun o=>LDN n3 a o fun v=>kr v o) (j h))) kp
theorem eqF201:F201=CF 201 1:=by kernel_rfl
def F202:FX:=fun fu oR cl args l kr kp=>AR4 args fun f g m n=>BOX 172 g l fun d h=>NC f fun p=>FA n5 p fun q=>LD q h fun a=>FA n0 d fun r=>LD r h fun s=>FA n1 d fun t=>LD t h fun u=>OV (buildA Pr 43 [(n0,s),(n1,u),(n2,m)]) fun b=>OV (lookupA Pr h 54 a b false) fun e=>BOP Pr .shl 3 true i1 n fun v=>BOP Pr .or 3 false e v fun w=>OVH (mapEntryA Pr h 54 a b) fun x k=>OV (lookupA Pr k 54 a b false) fun y=>EQV e y <| EX n1 x fun z=>OSK (entryStoreA k a z w) fun o=>kr (.tuple []) o
theorem eqF202:F202=CF 202 4:=by kernel_rfl
def F203:FX:=fun fu oR cl args h kr kp=>AR2 args fun a b=>cl n256 [a,b] h (fun d k=>GEQ Pr 3 true d i0 fun e=>kr e k) kp
theorem eqF203:F203=CF 203 2:=by kernel_rfl
def F204:FX:=fun fu oR cl args o kr kp=>AR1 args fun a=>NEWC (.n (some i0) (.n (some i0) .e .e) (.n (some s0) .e .e)) n3 57 o fun b A=>cl n257 [a] A (fun e h=>IFB e (cl n181 [a] h (fun d C=>EX n0 d fun f=>EX n1 d fun q=>OV (buildA Pr 57 [(n0,i3),(n1,f),(n2,a)]) fun g=>ST n3 b g C fun k=>LDN n3 b k fun m=>kr m k) kp) (OV (buildA Pr 57 [(n0,i2),(n2,a)]) fun n=>ST n3 b n h fun l=>LDN n3 b l fun p=>kr p l)) kp
theorem eqF204:F204=CF 204 1:=by kernel_rfl
def F205:FX:=fun fu oR cl args k kr kp=>AR1 args fun a=>cl n175 [a] k (fun b h=>OV (unOpA .not b) fun d=>IFB d (kr i0 h) (BOP Pr .quo 3 true a (.int .i64 (nat_lit 1000000)) fun e=>BOP Pr .mul 3 true e (.int .i64 (nat_lit 1000000)) fun f=>kr f h)) kp
theorem eqF205:F205=CF 205 1:=by kernel_rfl
def F206:FX:=fun fu oR cl args k kr kp=>AR1 args fun d=>BOX 57 d k fun a h=>FA n0 a fun e=>LD e h fun f=>EQL Pr 3 true f i2 fun g=>IFB g (FA n2 a fun m=>LD m h fun n=>cl n181 [n] h (fun b l=>EX n0 b fun p=>EX n1 b fun s=>kr p l) kp) (FA n1 a fun q=>LD q h fun r=>kr r h)
theorem eqF206:F206=CF 206 1:=by kernel_rfl
def B210x70:Ans:=OV (unOpA .not b) fun e=>IFB e (OV (buildA Pr 57 []) fun f=>ST n3 a f h fun k=>LDN n3 a k fun g=>kr (.tuple [g,i1]) k) (OV (buildA Pr 57 [(n0,i1),(n1,d)]) fun m=>ST n3 a m h fun l=>LDN n3 a l fun n=>kr (.tuple [n,i0]) l)
def B210x107 (j:AV → AV → Heap → Ans):Ans:=EQL Pr 3 true a i23 fun g=>IFB g (cl n263 [b,d] h (fun e k=>EX n0 e fun m=>EX n1 e fun n=>j n m k) kp) (EQL Pr 3 true a i24 fun p=>IFB p (cl n264 [b,d] h (fun f l=>EX n0 f fun q=>EX n1 f fun r=>j r q l) kp) (j bF i0 h))
def B210x108 (j:AV → AV → Heap → Ans):Ans:=EQL Pr 3 true a i21 fun g=>IFB g (cl n261 [b,d] h (fun e k=>EX n0 e fun m=>EX n1 e fun n=>j n m k) kp) (EQL Pr 3 true a i22 fun p=>IFB p (cl n262 [b,d] h (fun f l=>EX n0 f fun q=>EX n1 f fun r=>j r q l) kp) (B210x107 a b d h cl kp j))
def B210x109:Ans:=SEL g m bF fun n=>IFB n (OV (buildA Pr 57 []) fun p=>ST n3 a p h fun k=>LDN n3 a k fun q=>kr (.tuple [q,i2]) k) (JO (fun r s l=>B210x70 a r s l kr) fun j=>EQL Pr 3 true b i20 fun t=>IFB t (cl n260 [d,e] h (fun f o=>EX n0 f fun u=>EX n1 f fun v=>j v u o) kp) (B210x108 b d e h cl kp j))
def B210x115:Ans:=JO (fun m k=>JO (fun n l=>JO (fun p o=>B210x109 e d f g b p o cl kr kp) fun j=>GW true b (SEL a bT n fun q=>j q l) (j uU l)) fun J=>GW false a (EQL Pr 3 true m i24 fun r=>J r k) (J uU k)) fun ja=>GW false a (ja d h) (ja uU h)
def B210x120:Ans:=LDN n3 g h fun n=>LDN n3 b h fun e=>cl n206 [n] h (fun p k=>LDN n3 b k fun q=>EQV e q <| cl n206 [e] k (fun f l=>EQL Pr 3 true f i0 fun a=>JO (fun r o=>JO (fun s A=>JO (fun t C=>B210x115 t a d m p f C cl kr kp) fun j=>GW true a (j s A) (j uU A)) fun J=>GW true a (EQL Pr 3 true r i23 fun u=>J u o) (J uU o)) fun ja=>GW true a (ja d l) (ja uU l)) kp) kp
def B210x123:Ans:=JO (fun m k=>SEL b bT m fun n=>IFB n (OV (buildA Pr 57 []) fun p=>ST n3 a p k fun l=>LDN n3 a l fun q=>kr (.tuple [q,i3]) l) (B210x120 e f d a k cl kr kp)) fun j=>GW false b (OV (unOpA .not g) fun r=>j r h) (j uU h)
def B210x131:Ans:=SEL d bT e fun a=>JO (fun n k=>JO (fun p l=>B210x123 f a g b m p l cl kr kp) fun j=>GW false a (cl n222 [n] k j kp) (j uU k)) fun J=>GW false a (LDN n3 b h fun r=>J r h) (J uU h)
def F210:FX:=fun fu oR cl args o kr kp=>AR3 args fun b e f=>BOX 57 e o fun d A=>BOX 57 f A fun g C=>NEWC (.n (some i0) (.n (some i0) .e .e) (.n (some s0) .e .e)) n3 57 C fun m D=>cl n23 [b,i20,i24] D (fun n h=>OV (unOpA .not n) fun a=>JO (fun p k=>JO (fun q l=>JO (fun r E=>B210x131 g a r m d b E cl kr kp) fun j=>GW false a (OV (unOpA .not q) fun s=>j s l) (j uU l)) fun J=>GW false a (cl n222 [p] k J kp) (J uU k)) fun ja=>GW false a (LDN n3 d h fun u=>ja u h) (ja uU h)) kp
theorem eqF210:F210=CF 210 3:=by kernel_rfl
def F211:FX:=fun fu oR cl args k kr kp=>AR2 args fun a b=>BOX 9 b k fun d h=>NC a fun e=>FA n1 e fun f=>LD f h fun g=>cl n33 [g,(.func (.func 265) [] [d])] h kr kp
theorem eqF211:F211=CF 211 2:=by kernel_rfl
def B213x22:Ans:=EQL Pr 3 true a i16 fun d=>IFB d (LEQ Pr 3 true b i0 fun e=>kr e h) (EQL Pr 3 true a i17 fun f=>IFB f (EQL Pr 3 true b i0 fun g=>kr g h) (EQL Pr 3 true a i18 fun m=>IFB m (NEQ Pr 3 true b i0 fun n=>kr n h) (kr bF h)))
def F213:FX:=fun fu oR cl args l kr kp=>AR3 args fun a d e=>BOX 57 d l fun f o=>BOX 57 e o fun g h=>LDN n3 f h fun m=>LDN n3 g h fun n=>cl n266 [m,n] h (fun b k=>EQL Pr 3 true a i15 fun p=>IFB p (LSS Pr 3 true b i0 fun q=>kr q k) (B213x22 a b k kr)) kp
theorem eqF213:F213=CF 213 3:=by kernel_rfl
def F220:FX:=fun fu oR cl args k kr kp=>AR2 args fun a b=>BOX 57 b k fun d l=>JO (fun o=>NC a fun e=>FA n0 e fun f=>ST n1 f d o fun A=>kr (.tuple []) A) fun j=>cl n255 [a] l (fun g h=>IFB g (GEN (panA (.iface n74 i7) h) cl (fun m C=>j C) kp) (j h)) kp
theorem eqF220:F220=CF 220 2:=by kernel_rfl
def B222x23:Ans:=FA n2 b fun d=>LD d h fun e=>EQL Pr 9 true e s0 fun a=>JO (fun f k=>JO (fun g l=>JO (fun m o=>SEL a m bF fun n=>kr n o) fun j=>GW true a (EQL Pr 3 true g i0 fun p=>j p l) (j uU l)) fun J=>GW true a (LD f k fun q=>J q k) (J uU k)) fun ja=>GW true a (FA n1 b fun r=>ja r h) (ja uU h)
def B222x44:Ans:=FA n2 b fun d=>LD d h fun e=>EQL Pr 9 true e s0 fun a=>JO (fun f k=>JO (fun g l=>JO (fun m o=>SEL a m bF fun n=>kr n o) fun j=>GW true a (cl n175 [g] l j kp) (j uU l)) fun J=>GW true a (LD f k fun q=>J q k) (J uU k)) fun ja=>GW true a (FA n1 b fun r=>ja r h) (ja uU h)
def B222x63:Ans:=FA n2 b fun d=>LD d h fun e=>LENT e fun f=>LEQ Pr 3 true f i500 fun a=>JO (fun g k=>JO (fun m l=>JO (fun n o=>SEL a n bF fun p=>kr p o) fun j=>GW true a (EQL Pr 3 true m i0 fun q=>j q l) (j uU l)) fun J=>GW true a (LD g k fun r=>J r k) (J uU k)) fun ja=>GW true a (FA n1 b fun s=>ja s h) (ja uU h)
def B222x98:Ans:=JO (fun e k=>JO (fun f l=>JO (fun g o=>SEL a g bF fun m=>kr m o) fun j=>GW true a (EQL Pr 3 false e f fun n=>j n l) (j uU l)) fun J=>GW true a (J b k) (J uU k)) fun ja=>GW true a (LD d h fun p=>ja p h) (ja uU h)
def B222x108:Ans:=JO (fun g k=>JO (fun m l=>SEL a m bF fun b=>JO (fun n o=>B222x98 b d n o kr) fun j=>GW true b (FA n1 e fun p=>j p l) (j uU l)) fun J=>GW true a (cl n257 [g] k J kp) (J uU k)) fun ja=>GW true a (LD f h fun r=>ja r h) (ja uU h)
def B222x111:Ans:=FA n2 a fun e=>LD e k fun f=>cl n181 [f] k (fun b h=>EX n0 b fun g=>EX n1 b fun s=>FA n2 a fun m=>LD m h fun n=>LENT n fun p=>LEQ Pr 3 true p i500 fun d=>JO (fun q l=>B222x108 d g a q l cl kr kp) fun j=>GW true d (FA n2 a fun r=>j r h) (j uU h)) kp
def F222:FX:=fun fu oR cl args k kr kp=>AR1 args fun d=>BOX 57 d k fun a h=>FA n0 a fun e=>LD e h fun b=>EQL Pr 3 true b i0 fun f=>IFB f (B222x23 a h kr) (EQL Pr 3 true b i1 fun g=>IFB g (B222x44 a h cl kr kp) (EQL Pr 3 true b i2 fun m=>IFB m (B222x63 a h kr) (EQL Pr 3 true b i3 fun n=>IFB n (B222x111 a h cl kr kp) (kr bF h))))
theorem eqF222:F222=CF 222 1:=by kernel_rfl
def B225x25:Ans:=JO (fun f k=>JO (fun g l=>SEL a g bF fun m=>IFB m (ADD Pr 3 true b i1 fun n=>ja n l) (kr b l)) fun j=>GW true a (cl n153 [f] k j kp) (j uU k)) fun J=>GW true a (SAT d e fun q=>J q h) (J uU h)
def F225:FX:=fun fu oR cl args l kr kp=>AR2 args fun d e=>LP fu (fun _ _=>Ans.no) (fun ja a h=>LENT d fun f=>LSS Pr 3 false a f fun b=>JO (fun g k=>JO (fun m o=>B225x25 b a g m o ja cl kr kp) fun j=>GW true b (j a k) (j uU k)) fun J=>GW true b (J d h) (J uU h)) e l
theorem eqF225:F225=CF 225 2:=by kernel_rfl
def F226:FX:=fun fu oR cl args h kr kp=>AR0 args <| BSL n9 n1 [s0,s0,s0,s0,s0,s0,s0,s0,s0,s0,s0,s0,s0,s0,s0,s0,s0,s0,s0,s0,s0,s0] n22 [(n0,(.str n5 (nat_lit 336236856642))),(n1,(.str n3 (nat_lit 4476485))),(n2,(.str n8 (nat_lit 7957695015192261990))),(n3,(.str n2 (nat_lit 26217))),(n4,(.str n4 (nat_lit 1702063205))),(n5,(.str n5 (nat_lit 435610544247))),(n6,(.str n3 (nat_lit 7499622))),(n7,(.str n2 (nat_lit 28265))),(n8,(.str n5 (nat_lit 461195539042))),(n9,(.str n8 (nat_lit 7310870969309884259))),(n10,(.str n4 (nat_lit 1954047342))),(n11,(.str n4 (nat_lit 1953069157))),(n12,(.str n6 (nat_lit 121437875889522))),(n13,(.str n6 (nat_lit 111550592214372))),(n14,(.str n5 (nat_lit 500068610672))),(n15,(.str n6 (nat_lit 112650254643824))),(n16,(.str n6 (nat_lit 114849160783212))),(n17,(.str n6 (nat_lit 125844477605235))),(n18,(.str n5 (nat_lit 517097156201))),(n19,(.str n5 (nat_lit 499984920691))),(n20,(.str n7 (nat_lit 32199680942501748))),(n21,(.str n3 (nat_lit 7630441)))] h fun a k=>kr a k
theorem eqF226:F226=CF 226 0:=by kernel_rfl
def B227x24:Ans:=cl n278 [a] h (fun d k=>BSL n3 n1 [i0,i0] n2 [(n0,b),(n1,d)] k fun e l=>OV (buildA Pr 94 [(n0,i10),(n4,e)]) fun f=>cl n163 [a,f] l j kp) kp
def F227:FX:=fun fu oR cl args k kr kp=>AR1 args fun a=>cl n278 [a] k (fun d l=>LP fu (fun _ _=>Ans.no) (fun j b o=>cl n100 [a,(.str n2 (nat_lit 31868))] o (fun e h=>IFB e (B227x24 a b h j cl kp) (kr b h)) kp) d l) kp
theorem eqF227:F227=CF 227 1:=by kernel_rfl
def F228:FX:=fun fu oR cl args k kr kp=>AR1 args fun a=>cl n159 [a,(.str n1 n40)] k (fun s l=>cl n103 [a] l (fun d o=>cl n159 [a,(.str n1 n41)] o (fun t A=>cl n164 [a] A (fun e C=>BSL n3 n1 [i0,i0] n2 [(n0,d),(n1,e)] C fun b D=>JO (fun f E=>OV (buildA Pr 94 [(n0,i43),(n4,f)]) fun g=>cl n163 [a,g] E kr kp) fun j=>cl n100 [a,(.str n4 (nat_lit 1702063205))] D (fun n h=>IFB n (cl n164 [a] h (fun p H=>BSL n3 n1 [i0] n1 [(n0,p)] H fun q I=>GEN (builtinF .append Pr [92,92] [b,q] I) cl j kp) kp) (j b h)) kp) kp) kp) kp) kp
theorem eqF228:F228=CF 228 1:=by kernel_rfl
def B230x34 (j:Heap → Ans):Ans:=FA n0 a fun d=>ST n1 d i41 k fun l=>cl n102 [b,(.str n1 n59)] l (fun e h=>OV (unOpA .not e) fun f=>IFB f (cl n280 [b] h (fun g o=>FA n4 a fun m=>ST n1 m g o fun A=>j A) kp) (j h)) kp
def B230x84 (j:Heap → Ans):Ans:=FA n0 a fun d=>ST n1 d i50 k fun l=>cl n102 [b,(.str n1 n59)] l (fun e h=>OV (unOpA .not e) fun f=>IFB f (cl n103 [b] h (fun g o=>BSL n3 n1 [i0] n1 [(n0,g)] o fun m A=>FA n4 a fun n=>ST n1 n m A fun C=>j C) kp) (j h)) kp
def B230x104 (j:Heap → Ans):Ans:=FA n0 a fun d=>ST n1 d i51 k fun l=>cl n102 [b,(.str n1 n59)] l (fun e h=>OV (unOpA .not e) fun f=>IFB f (cl n103 [b] h (fun g o=>BSL n3 n1 [i0] n1 [(n0,g)] o fun m A=>FA n4 a fun n=>ST n1 n m A fun C=>j C) kp) (j h)) kp
def B230x133 (j:Heap → Ans):Ans:=FA n0 b fun d=>ST n1 d i52 h fun k=>cl n160 [a] k (fun e l=>FA n1 b fun f=>ST n1 f e l fun o=>cl n159 [a,(.str n1 n91)] o (fun p A=>cl n103 [a] A (fun g C=>BSL n3 n1 [i0] n1 [(n0,g)] C fun m D=>FA n4 b fun n=>ST n1 n m D fun E=>cl n159 [a,(.str n1 n93)] E (fun q G=>j G) kp) kp) kp) kp
def B230x142 (j:Heap → Ans):Ans:=cl n100 [a,(.str n6 (nat_lit 111550592214372))] k (fun d h=>IFB d (B230x133 a b h cl kp j) (cl n103 [a] h (fun e l=>BSL n3 n1 [i0] n1 [(n0,e)] l fun f o=>FA n4 b fun g=>ST n1 g f o fun A=>j A) kp)) kp
def B230x143 (j:Heap → Ans):Ans:=cl n100 [a,(.str n4 (nat_lit 1954047342))] o (fun d h=>IFB d (FA n0 b fun e=>ST n1 e i49 h fun A=>j A) (cl n100 [a,(.str n4 (nat_lit 1953069157))] h (fun f k=>IFB f (B230x84 b a k cl kp j) (cl n100 [a,(.str n6 (nat_lit 121437875889522))] k (fun g l=>IFB g (B230x104 b a l cl kp j) (B230x142 a b l cl kp j)) kp)) kp)) kp
def B230x144 (j:Heap → Ans):Ans:=cl n100 [a,(.str n5 (nat_lit 461195539042))] l (fun d h=>IFB d (FA n0 b fun e=>ST n1 e i47 h fun o=>j o) (cl n100 [a,(.str n8 (nat_lit 7310870969309884259))] h (fun f k=>IFB f (FA n0 b fun g=>ST n1 g i48 k fun A=>j A) (B230x143 a b k cl kp j)) kp)) kp
def B230x145 (j:Heap → Ans):Ans:=cl n100 [a,(.str n6 (nat_lit 112650254643824))] k (fun d h=>IFB d (FA n0 b fun e=>ST n1 e i42 h fun l=>cl n280 [a] l (fun f o=>FA n4 b fun g=>ST n1 g f o fun A=>j A) kp) (B230x144 a b h cl kp j)) kp
def F230:FX:=fun fu oR cl args l kr kp=>AR1 args fun a=>OV (buildA Pr 94 [(n0,i40)]) fun d=>NEWC (.n (some i0) (.n (some s0) (.n (some i0) .e .e) .e) (.n (some s0) (.n (some (.nilslice)) .e .e) .e)) n5 94 l fun b o=>ST n5 b d o fun A=>JO (fun C=>cl n159 [a,(.str n1 n59)] C (fun m h=>LDN n5 b h fun e=>cl n163 [a,e] h kr kp) kp) fun j=>cl n100 [a,(.str n5 (nat_lit 500068610672))] A (fun g k=>IFB g (B230x34 b a k cl kp j) (B230x145 a b k cl kp j)) kp
theorem eqF230:F230=CF 230 1:=by kernel_rfl
def F232:FX:=fun fu oR cl args h kr kp=>AR2 args fun a b=>GEN (callF Pr h 281 [a,b]) cl kr kp
theorem eqF232:F232=CF 232 2:=by kernel_rfl
def F237:FX:=fun fu oR cl args h kr kp=>AR1 args fun a=>cl n283 [a,i10] h kr kp
theorem eqF237:F237=CF 237 1:=by kernel_rfl
def B238x28:Ans:=JO (fun f k=>SEL b f bF fun g=>IFB g (LENT a fun m=>SUB Pr 3 true m i1 fun n=>OV (sliceA Pr 9 a none (some n) none) fun p=>J p k) (kr a k)) fun j=>GW true b (EQL Pr 5 false d e fun q=>j q h) (j uU h)
def B238x34:Ans:=JO (fun g k=>JO (fun m l=>JO (fun n o=>B238x28 b a m n o jb kr) fun j=>GW true a (j d l) (j uU l)) fun J=>GW true a (SAT e g fun p=>J p k) (J uU k)) fun ja=>GW true a (SUB Pr 3 true f i1 fun q=>ja q h) (ja uU h)
def B238x39:Ans:=LENT a fun e=>GTR Pr 3 true e i0 fun b=>JO (fun f k=>JO (fun g l=>JO (fun m o=>B238x34 b a d f m o jb kr) fun j=>GW true b (LENT g fun n=>j n l) (j uU l)) fun J=>GW true b (J a k) (J uU k)) fun ja=>GW true b (ja a h) (ja uU h)
def F238:FX:=fun fu oR cl args h kr kp=>AR2 args fun a b=>LP fu (fun _ _=>Ans.no) (fun j d k=>B238x39 d b k j kr) a h
theorem eqF238:F238=CF 238 2:=by kernel_rfl
def F243:FX:=fun fu oR cl args h kr kp=>AR0 args <| BSL n9 n1 [s0,s0,s0,s0,s0,s0,s0,s0,s0,s0,s0,s0,s0,s0,s0,s0,s0,s0,s0,s0,s0,s0] n22 [(n0,(.str n5 (nat_lit 336236856642))),(n1,(.str n3 (nat_lit 4476485))),(n2,(.str n8 (nat_lit 7957695015192261990))),(n3,(.str n2 (nat_lit 26217))),(n4,(.str n4 (nat_lit 1702063205))),(n5,(.str n5 (nat_lit 435610544247))),(n6,(.str n3 (nat_lit 7499622))),(n7,(.str n2 (nat_lit 28265))),(n8,(.str n5 (nat_lit 461195539042))),(n9,(.str n8 (nat_lit 7310870969309884259))),(n10,(.str n4 (nat_lit 1954047342))),(n11,(.str n4 (nat_lit 1953069157))),(n12,(.str n6 (nat_lit 121437875889522))),(n13,(.str n6 (nat_lit 111550592214372))),(n14,(.str n5 (nat_lit 500068610672))),(n15,(.str n6 (nat_lit 112650254643824))),(n16,(.str n6 (nat_lit 114849160783212))),(n17,(.str n6 (nat_lit 125844477605235))),(n18,(.str n5 (nat_lit 517097156201))),(n19,(.str n5 (nat_lit 499984920691))),(n20,(.str n7 (nat_lit 32199680942501748))),(n21,(.str n3 (nat_lit 7630441)))] h fun a k=>kr a k
theorem eqF243:F243=CF 243 0:=by kernel_rfl
def B244x24:Ans:=JO (fun f k=>JO (fun g l=>JO (fun m o=>SEL a m bF fun n=>kr n o) fun j=>GW true a (EQL Pr 9 false f g fun p=>j p l) (j uU l)) fun J=>GW true a (J b k) (J uU k)) fun ja=>GW true a (OV (sliceA Pr 9 d none (some e) none) fun q=>ja q h) (ja uU h)
def F244:FX:=fun fu oR cl args h kr kp=>AR2 args fun d b=>LENT d fun e=>LENT b fun f=>GEQ Pr 3 false e f fun a=>JO (fun g k=>JO (fun m l=>JO (fun n o=>B244x24 a b g n o kr) fun j=>GW true a (LENT m fun p=>j p l) (j uU l)) fun J=>GW true a (J b k) (J uU k)) fun ja=>GW true a (ja d h) (ja uU h)
theorem eqF244:F244=CF 244 2:=by kernel_rfl
def B245x31:Ans:=NC a fun e=>FA n0 e fun f=>LD f h fun g=>NC a fun m=>FA n1 m fun n=>LD n h fun p=>ADD Pr 3 false p d fun q=>SA n4 g q fun r=>LDN n4 r h fun s=>ST n4 b s h fun k=>LDN n4 b k fun t=>kr t k
def F245:FX:=fun fu oR cl args l kr kp=>AR2 args fun a d=>NEWC (.n (some i0) (.n (some s0) (.n (some i0) .e .e) .e) (.n (some i0) .e .e)) n4 116 l fun b h=>NC a fun e=>FA n1 e fun f=>LD f h fun g=>ADD Pr 3 false g d fun m=>NC a fun n=>FA n0 n fun p=>LD p h fun q=>LENS q fun r=>GEQ Pr 3 false m r fun s=>IFB s (NC a fun t=>FA n2 t fun u=>LD u h fun v=>OV (buildA Pr 116 [(n3,v)]) fun w=>ST n4 b w h fun k=>LDN n4 b k fun x=>kr x k) (B245x31 a b d h kr)
theorem eqF245:F245=CF 245 2:=by kernel_rfl
def B246x27:Ans:=JO (fun e h=>JO (fun f l=>JO (fun g o=>SEL a g bF fun m=>kr m o) fun j=>GW true a (cl n203 [b,f] l j kp) (j uU l)) fun J=>GW true a (LD e h fun p=>J p h) (J uU h)) fun ja=>GW true a (FA n1 d fun q=>ja q k) (ja uU k)
def F246:FX:=fun fu oR cl args k kr kp=>AR3 args fun d e f=>BOX 116 d k fun a h=>FA n0 a fun g=>LD g h fun m=>EQL Pr 3 false m e fun b=>JO (fun n l=>B246x27 b n a l cl kr kp) fun j=>GW true b (j f h) (j uU h)
theorem eqF246:F246=CF 246 3:=by kernel_rfl
def B248x22:Ans:=NC a fun d=>FA n3 d fun e=>LD e h fun f=>ADD Pr 3 true f i1 fun g=>NC a fun m=>FA n3 m fun n=>ST n1 n g h fun l=>GEN (callV Pr (some b) [] l) cl (fun p k=>NC a fun q=>FA n3 q fun r=>LD r k fun s=>SUB Pr 3 true s i1 fun t=>NC a fun u=>FA n3 u fun v=>ST n1 v t k fun o=>kr p o) kp
def F248:FX:=fun fu oR cl args h kr kp=>AR2 args fun a b=>JO (fun k=>B248x22 a b k cl kr kp) fun j=>NC a fun d=>FA n3 d fun e=>LD e h fun f=>EQL Pr 3 true f i40 fun g=>IFB g (cl n247 [a] h (fun m l=>j l) kp) (j h)
theorem eqF248:F248=CF 248 2:=by kernel_rfl
def B249x42:Ans:=LD a h fun b=>LD a h fun f=>cl n194 [f] h (fun g k=>LD a k fun m=>EQV b m <| BSL n3 n1 [i0,i0] n2 [(n0,d),(n1,g)] k fun n l=>LD a l fun p=>EQV b p <| cl n251 [b,e,n] l kr kp) kp
def B249x51:Ans:=JO (fun d l=>B249x42 a b d l cl kr kp) fun j=>LD a h fun e=>cl n190 [e] h (fun f k=>OV (fieldA Pr 116 f 1) fun g=>EQL Pr 9 true g (.str n2 (nat_lit 15659)) fun m=>IFB m (j i8 k) (j i7 k)) kp
def B249x52 (j:Heap → Ans):Ans:=LD a h fun d=>BSL n9 n1 [s0,s0] n2 [(n0,(.str n1 n61)),(n1,(.str n2 (nat_lit 15659)))] h fun e l=>cl n193 [d,e] l (fun f k=>IFB f (B249x51 a b k cl kr kp) (j k)) kp
def F249:FX:=fun fu oR cl args k kr kp=>AR1 args fun a=>LD a k fun g=>cl n250 [g] k (fun b h=>LD a h fun m=>NC m fun n=>FA n4 n fun p=>FA n0 p fun q=>LD q h fun r=>SA n5 r b fun s=>FA n0 s fun t=>LD t h fun d=>JO (fun o=>kr b o) fun J=>JO (fun u l=>IFB u (B249x52 a b l cl kr kp J) (J l)) fun j=>EQL Pr 3 true d i3 fun e=>IFB e (j e h) (EQL Pr 3 true d i4 fun f=>IFB f (j f h) (EQL Pr 3 true d i5 fun v=>j v h))) kp
theorem eqF249:F249=CF 249 1:=by kernel_rfl
def B250x38:Ans:=NC a fun d=>FA n1 d fun e=>LD e h fun f=>ADD Pr 3 true f i1 fun g=>NC a fun m=>FA n1 m fun n=>ST n1 n g h fun k=>cl n194 [a] k (fun p l=>cl n192 [a,(.str n1 n58)] l (fun t o=>cl n194 [a] o (fun q A=>BSL n3 n1 [i0,i0,i0] n3 [(n0,b),(n1,p),(n2,q)] A fun r C=>cl n251 [a,i9,r] C kr kp) kp) kp) kp
def F250:FX:=fun fu oR cl args k kr kp=>AR1 args fun a=>cl n287 [a] k (fun b l=>BSL n9 n1 [s0] n1 [(n0,(.str n1 n63))] l fun d o=>cl n193 [a,d] o (fun e h=>OV (unOpA .not e) fun f=>IFB f (kr b h) (B250x38 a b h cl kr kp)) kp) kp
theorem eqF250:F250=CF 250 1:=by kernel_rfl
def F251:FX:=fun fu oR cl args h kr kp=>AR3 args fun a b d=>OV (buildA Pr 94 [(n0,b),(n4,d)]) fun e=>cl n288 [a,e] h kr kp
theorem eqF251:F251=CF 251 3:=by kernel_rfl
def F252:FX:=fun fu oR cl args h kr kp=>AR1 args fun a=>cl n248 [a,(.func (.func 289) [a] [])] h kr kp
theorem eqF252:F252=CF 252 1:=by kernel_rfl
def B255x59 (j:Heap → Ans):Ans:=JO (fun e h=>SEL a e bF fun f=>IFB f (NC b fun g=>FA n2 g fun m=>LD m h fun n=>NC n fun p=>FA n1 p fun q=>LD q h fun r=>NC b fun s=>FA n1 s fun t=>ST n1 t r h fun l=>j l) (j h)) fun J=>GW true a (cl n255 [d] k J kp) (J uU k)
def B255x66 (jb:Heap → Ans):Ans:=JO (fun e l=>JO (fun f h=>JO (fun g o=>B255x59 a b g o cl kp jb) fun j=>GW true a (LD f h fun m=>j m h) (j uU h)) fun J=>GW true a (FA n2 e fun n=>J n l) (J uU l)) fun ja=>GW true a (NC d fun p=>ja p k) (ja uU k)
def B255x72 (jb:Heap → Ans):Ans:=JO (fun f k=>JO (fun g l=>SEL a g bF fun d=>JO (fun m o=>B255x66 d b m o cl kp jb) fun j=>GW true d (j b l) (j uU l)) fun J=>GW true a (NEQ Pr 224 true f (.nilp) fun n=>J n k) (J uU k)) fun ja=>GW true a (LD e h fun p=>ja p h) (ja uU h)
def B255x78 (jb:Heap → Ans):Ans:=SEL d e bF fun a=>JO (fun f k=>JO (fun g l=>JO (fun m o=>B255x72 a b m o cl kp jb) fun j=>GW true a (FA n2 g fun n=>j n l) (j uU l)) fun J=>GW true a (NC f fun p=>J p k) (J uU k)) fun ja=>GW true a (ja b h) (ja uU h)
def B255x85 (jb:Heap → Ans):Ans:=JO (fun e h=>JO (fun f l=>JO (fun g o=>B255x78 b a g o cl kp jb) fun j=>GW true a (EQL Pr 266 true f (.nilp) fun m=>j m l) (j uU l)) fun J=>GW true a (LD e h fun n=>J n h) (J uU h)) fun ja=>GW true a (FA n0 d fun p=>ja p k) (ja uU k)
def F255:FX:=fun fu oR cl args h kr kp=>AR1 args fun a=>JO (fun k=>NC a fun d=>FA n1 d fun e=>LD e k fun f=>NEQ Pr 178 true f (.nilmap) fun g=>kr g k) fun ja=>NC a fun m=>FA n1 m fun n=>LD n h fun p=>EQL Pr 178 true p (.nilmap) fun b=>JO (fun q l=>JO (fun r o=>B255x85 b a r o cl kp ja) fun j=>GW true b (NC q fun s=>j s l) (j uU l)) fun J=>GW true b (J a h) (J uU h)
theorem eqF255:F255=CF 255 1:=by kernel_rfl
def F256:FX:=fun fu oR cl args k kr kp=>AR2 args fun b d=>LENS b fun e=>LP fu (fun _ _=>Ans.no) (fun j a h=>LSS Pr 3 false a e fun f=>IFB f (SA n1 b a fun g=>LD g h fun m=>EQL Pr 9 false d m fun n=>IFB n (kr a h) (ADD Pr 3 true a i1 fun p=>j p h)) (kr (.int .i64 (nat_lit 18446744073709551615)) h)) i0 k
theorem eqF256:F256=CF 256 2:=by kernel_rfl
def B257x31:Ans:=JO (fun f k=>JO (fun g l=>JO (fun m o=>SEL a m bF fun n=>kr n o) fun j=>GW true a (EQL Pr 3 false b g fun p=>j p l) (j uU l)) fun J=>GW true a (SUB Pr 3 false d f fun q=>J q k) (J uU k)) fun ja=>GW true a (ja e h) (ja uU h)
def B257x40:Ans:=JO (fun g k=>JO (fun m l=>JO (fun n o=>B257x31 a g n b o kr) fun j=>GW true a (LENT m fun p=>j p l) (j uU l)) fun J=>GW true a (J d k) (J uU k)) fun ja=>GW true a (cl n121 [e,f,(.func (.func 120) [] [])] h ja kp) (ja uU h)
def F257:FX:=fun fu oR cl args l kr kp=>AR1 args fun a=>cl n181 [a] l (fun e h=>EX n0 e fun m=>EX n1 e fun b=>GTR Pr 3 true b i0 fun d=>JO (fun f k=>JO (fun g o=>B257x40 d b a f g o cl kr kp) fun j=>GW true d (j b k) (j uU k)) fun J=>GW true d (J a h) (J uU h)) kp
theorem eqF257:F257=CF 257 1:=by kernel_rfl
def F260:FX:=fun fu oR cl args k kr kp=>AR2 args fun a b=>cl n297 [a,b] k (fun e h=>OV (unOpA .not e) fun f=>IFB f (kr (.tuple [i0,bF]) h) (ADD Pr 3 false a b fun g=>cl n298 [g] h (fun d l=>EX n0 d fun m=>EX n1 d fun n=>kr (.tuple [m,n]) l) kp)) kp
theorem eqF260:F260=CF 260 2:=by kernel_rfl
def B265x23:Ans:=JO (fun e k=>JO (fun f l=>JO (fun g o=>SEL a g bF fun m=>kr m o) fun j=>GW true a (EQL Pr 9 false e f fun n=>j n l) (j uU l)) fun J=>GW true a (LD b k fun p=>J p k) (J uU k)) fun ja=>GW true a (LD d h fun q=>ja q h) (ja uU h)
def F265:FX:=fun fu oR cl args k kr kp=>AR2 args fun d e=>BOX 61 d k fun a h=>FA n0 a fun f=>LD f h fun g=>EQL Pr 3 true g i4 fun b=>JO (fun m l=>B265x23 b e m l kr) fun j=>GW true b (FA n1 a fun n=>j n h) (j uU h)
theorem eqF265:F265=CF 265 2:=by kernel_rfl
def B266x40:Ans:=SEL e f bF fun g=>IFB g (FA n1 b fun m=>LD m h fun n=>FA n1 a fun p=>LD p h fun q=>cl n42 [n,q] h kr kp) (LDN n3 b h fun s=>LDN n3 a h fun d=>cl n134 [s] h (fun t k=>LDN n3 a k fun u=>EQV d u <| cl n134 [d] k (fun v o=>cl n41 [t,v] o kr kp) kp) kp)
def F266:FX:=fun fu oR cl args o kr kp=>AR2 args fun e f=>BOX 57 e o fun b A=>BOX 57 f A fun d h=>FA n0 b fun g=>LD g h fun m=>NEQ Pr 3 true m i2 fun a=>JO (fun n k=>JO (fun p l=>JO (fun q C=>B266x40 d b a q C cl kr kp) fun j=>GW true a (NEQ Pr 3 true p i2 fun r=>j r l) (j uU l)) fun J=>GW true a (LD n k fun s=>J s k) (J uU k)) fun ja=>GW true a (FA n0 d fun t=>ja t h) (ja uU h)
theorem eqF266:F266=CF 266 2:=by kernel_rfl
def B278x24:Ans:=cl n307 [a] h (fun d k=>BSL n3 n1 [i0,i0] n2 [(n0,b),(n1,d)] k fun e l=>OV (buildA Pr 94 [(n0,i11),(n4,e)]) fun f=>cl n163 [a,f] l j kp) kp
def F278:FX:=fun fu oR cl args k kr kp=>AR1 args fun a=>cl n307 [a] k (fun d l=>LP fu (fun _ _=>Ans.no) (fun j b o=>cl n100 [a,(.str n2 n9766)] o (fun e h=>IFB e (B278x24 a b h j cl kp) (kr b h)) kp) d l) kp
theorem eqF278:F278=CF 278 1:=by kernel_rfl
def B280x25:Ans:=cl n100 [a,(.str n1 n44)] k (fun d h=>IFB d (cl n103 [a] h (fun e l=>BSL n3 n1 [i0] n1 [(n0,e)] l fun f o=>GEN (builtinF .append Pr [92,92] [b,f] o) cl j kp) kp) (kr b h)) kp
def F280:FX:=fun fu oR cl args h kr kp=>AR1 args fun a=>cl n103 [a] h (fun b k=>BSL n3 n1 [i0] n1 [(n0,b)] k fun d l=>LP fu (fun _ _=>Ans.no) (fun j e o=>B280x25 a e o j cl kr kp) d l) kp
theorem eqF280:F280=CF 280 1:=by kernel_rfl
end
end Go.Ev
