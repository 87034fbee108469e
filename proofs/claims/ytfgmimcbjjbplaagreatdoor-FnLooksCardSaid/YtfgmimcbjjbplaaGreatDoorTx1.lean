import Derived.Test.YtfgmimcbjjbplaaGreatDoorTx0
set_option linter.all false
namespace Go.Ev
noncomputable section

noncomputable def B106x84 (x65 : AV) (x3 : AV) (h62 : Heap) (x9 : AV) (cl : CL) (j68 : AV → Heap → Ans) (kp : KP) : Ans := ADD Pr 9 true x65 (.str (nat_lit 6) (nat_lit 35620100269344)) fun x73 =>
 LDN (nat_lit 2) x3 h62 fun x74 =>
 FA (nat_lit 4) x9 fun x75 =>
 LD x75 h62 fun x76 =>
 SA (nat_lit 1) x76 (.int .i64 (nat_lit 2)) fun x77 =>
 LD x77 h62 fun x78 =>
 cl (nat_lit 106) [x74, x78] h62 (fun x79 h80 =>
 ADD Pr 9 false x73 x79 fun x83 =>
 j68 x83 h80) kp
noncomputable def B106x85 (x3 : AV) (h11 : Heap) (x9 : AV) (cl : CL) (kr : KR) (kp : KP) : Ans := LDN (nat_lit 2) x3 h11 fun x42 =>
 FA (nat_lit 4) x9 fun x43 =>
 LD x43 h11 fun x44 =>
 SA (nat_lit 1) x44 (.int .i64 (nat_lit 0)) fun x45 =>
 LD x45 h11 fun x46 =>
 LDN (nat_lit 2) x3 h11 fun x47 =>
 FA (nat_lit 4) x9 fun x48 =>
 LD x48 h11 fun x49 =>
 SA (nat_lit 1) x49 (.int .i64 (nat_lit 1)) fun x50 =>
 LD x50 h11 fun x51 =>
 cl (nat_lit 105) [x42, x46] h11 (fun x52 h53 =>
 LD x50 h53 fun x56 =>
 EQV x51 x56 <|
 LD x48 h53 fun x57 =>
 EQV x49 x57 <|
 LDN (nat_lit 2) x3 h53 fun x58 =>
 EQV x47 x58 <|
 ADD Pr 9 true (.str (nat_lit 4) (nat_lit 673212009)) x52 fun x59 =>
 ADD Pr 9 true x59 (.str (nat_lit 2) (nat_lit 8233)) fun x60 =>
 cl (nat_lit 106) [x47, x51] h53 (fun x61 h62 =>
 ADD Pr 9 false x60 x61 fun x65 =>
 JO (fun x66 h67 =>
 kr x66 h67) fun j68 =>
 FA (nat_lit 4) x9 fun x69 =>
 LD x69 h62 fun x70 =>
 LENS x70 fun x71 =>
 EQL Pr 3 true x71 (.int .i64 (nat_lit 3)) fun x72 =>
 IFB x72 (B106x84 x65 x3 h62 x9 cl j68 kp)
 (j68 x65 h62)) kp) kp
noncomputable def B106x111 (x3 : AV) (h11 : Heap) (x9 : AV) (cl : CL) (kr : KR) (kp : KP) : Ans := LDN (nat_lit 2) x3 h11 fun x87 =>
 FA (nat_lit 4) x9 fun x88 =>
 LD x88 h11 fun x89 =>
 SA (nat_lit 1) x89 (.int .i64 (nat_lit 0)) fun x90 =>
 LD x90 h11 fun x91 =>
 LDN (nat_lit 2) x3 h11 fun x92 =>
 FA (nat_lit 4) x9 fun x93 =>
 LD x93 h11 fun x94 =>
 SA (nat_lit 1) x94 (.int .i64 (nat_lit 1)) fun x95 =>
 LD x95 h11 fun x96 =>
 cl (nat_lit 105) [x87, x91] h11 (fun x97 h98 =>
 LD x95 h98 fun x101 =>
 EQV x96 x101 <|
 LD x93 h98 fun x102 =>
 EQV x94 x102 <|
 LDN (nat_lit 2) x3 h98 fun x103 =>
 EQV x92 x103 <|
 ADD Pr 9 true (.str (nat_lit 7) (nat_lit 11294619051059319)) x97 fun x104 =>
 ADD Pr 9 true x104 (.str (nat_lit 2) (nat_lit 8233)) fun x105 =>
 cl (nat_lit 106) [x92, x96] h98 (fun x106 h107 =>
 ADD Pr 9 false x105 x106 fun x110 =>
 kr x110 h107) kp) kp
noncomputable def B106x174 (x3 : AV) (h11 : Heap) (x9 : AV) (cl : CL) (kr : KR) (kp : KP) : Ans := LDN (nat_lit 2) x3 h11 fun x113 =>
 FA (nat_lit 4) x9 fun x114 =>
 LD x114 h11 fun x115 =>
 SA (nat_lit 1) x115 (.int .i64 (nat_lit 0)) fun x116 =>
 LD x116 h11 fun x117 =>
 LDN (nat_lit 2) x3 h11 fun x118 =>
 FA (nat_lit 4) x9 fun x119 =>
 LD x119 h11 fun x120 =>
 SA (nat_lit 1) x120 (.int .i64 (nat_lit 1)) fun x121 =>
 LD x121 h11 fun x122 =>
 LDN (nat_lit 2) x3 h11 fun x123 =>
 FA (nat_lit 4) x9 fun x124 =>
 LD x124 h11 fun x125 =>
 SA (nat_lit 1) x125 (.int .i64 (nat_lit 2)) fun x126 =>
 LD x126 h11 fun x127 =>
 LDN (nat_lit 2) x3 h11 fun x128 =>
 FA (nat_lit 4) x9 fun x129 =>
 LD x129 h11 fun x130 =>
 SA (nat_lit 1) x130 (.int .i64 (nat_lit 3)) fun x131 =>
 LD x131 h11 fun x132 =>
 cl (nat_lit 105) [x113, x117] h11 (fun x133 h134 =>
 LD x131 h134 fun x137 =>
 EQV x132 x137 <|
 LD x129 h134 fun x138 =>
 EQV x130 x138 <|
 LDN (nat_lit 2) x3 h134 fun x139 =>
 EQV x128 x139 <|
 LD x126 h134 fun x140 =>
 EQV x127 x140 <|
 LD x124 h134 fun x141 =>
 EQV x125 x141 <|
 LDN (nat_lit 2) x3 h134 fun x142 =>
 EQV x123 x142 <|
 LD x121 h134 fun x143 =>
 EQV x122 x143 <|
 LD x119 h134 fun x144 =>
 EQV x120 x144 <|
 LDN (nat_lit 2) x3 h134 fun x145 =>
 EQV x118 x145 <|
 ADD Pr 9 true (.str (nat_lit 5) (nat_lit 172343062374)) x133 fun x146 =>
 ADD Pr 9 true x146 (.str (nat_lit 2) (nat_lit 8251)) fun x147 =>
 cl (nat_lit 105) [x118, x122] h134 (fun x148 h149 =>
 LD x131 h149 fun x152 =>
 EQV x132 x152 <|
 LD x129 h149 fun x153 =>
 EQV x130 x153 <|
 LDN (nat_lit 2) x3 h149 fun x154 =>
 EQV x128 x154 <|
 LD x126 h149 fun x155 =>
 EQV x127 x155 <|
 LD x124 h149 fun x156 =>
 EQV x125 x156 <|
 LDN (nat_lit 2) x3 h149 fun x157 =>
 EQV x123 x157 <|
 ADD Pr 9 false x147 x148 fun x158 =>
 ADD Pr 9 true x158 (.str (nat_lit 2) (nat_lit 8251)) fun x159 =>
 cl (nat_lit 105) [x123, x127] h149 (fun x160 h161 =>
 LD x131 h161 fun x164 =>
 EQV x132 x164 <|
 LD x129 h161 fun x165 =>
 EQV x130 x165 <|
 LDN (nat_lit 2) x3 h161 fun x166 =>
 EQV x128 x166 <|
 ADD Pr 9 false x159 x160 fun x167 =>
 ADD Pr 9 true x167 (.str (nat_lit 2) (nat_lit 8233)) fun x168 =>
 cl (nat_lit 106) [x128, x132] h161 (fun x169 h170 =>
 ADD Pr 9 false x168 x169 fun x173 =>
 kr x173 h170) kp) kp) kp) kp
noncomputable def B106x196 (x9 : AV) (h11 : Heap) (x3 : AV) (cl : CL) (kr : KR) (kp : KP) : Ans := FA (nat_lit 1) x9 fun x176 =>
 LD x176 h11 fun x177 =>
 ADD Pr 9 true (.str (nat_lit 5) (nat_lit 172343062374)) x177 fun x178 =>
 ADD Pr 9 true x178 (.str (nat_lit 4) (nat_lit 544106784)) fun x179 =>
 FA (nat_lit 2) x9 fun x180 =>
 LD x180 h11 fun x181 =>
 ADD Pr 9 false x179 x181 fun x182 =>
 ADD Pr 9 true x182 (.str (nat_lit 2) (nat_lit 8233)) fun x183 =>
 LDN (nat_lit 2) x3 h11 fun x184 =>
 FA (nat_lit 4) x9 fun x185 =>
 LD x185 h11 fun x186 =>
 SA (nat_lit 1) x186 (.int .i64 (nat_lit 0)) fun x187 =>
 LD x187 h11 fun x188 =>
 cl (nat_lit 106) [x184, x188] h11 (fun x189 h190 =>
 LD x180 h190 fun x193 =>
 EQV x181 x193 <|
 LD x176 h190 fun x194 =>
 EQV x177 x194 <|
 ADD Pr 9 false x183 x189 fun x195 =>
 kr x195 h190) kp
noncomputable def B106x233 (x9 : AV) (h11 : Heap) (x3 : AV) (cl : CL) (kr : KR) (kp : KP) : Ans := FA (nat_lit 1) x9 fun x217 =>
 LD x217 h11 fun x218 =>
 ADD Pr 9 true (.str (nat_lit 7) (nat_lit 9118749846955364)) x218 fun x219 =>
 ADD Pr 9 true x219 (.str (nat_lit 1) (nat_lit 91)) fun x220 =>
 LDN (nat_lit 2) x3 h11 fun x221 =>
 FA (nat_lit 4) x9 fun x222 =>
 LD x222 h11 fun x223 =>
 SA (nat_lit 1) x223 (.int .i64 (nat_lit 0)) fun x224 =>
 LD x224 h11 fun x225 =>
 cl (nat_lit 105) [x221, x225] h11 (fun x226 h227 =>
 LD x217 h227 fun x230 =>
 EQV x218 x230 <|
 ADD Pr 9 false x220 x226 fun x231 =>
 ADD Pr 9 true x231 (.str (nat_lit 2) (nat_lit 15197)) fun x232 =>
 kr x232 h227) kp
noncomputable def B106x254 (x3 : AV) (h236 : Heap) (x9 : AV) (x234 : AV) (cl : CL) (x235 : AV) (j237 : AV → AV → Heap → Ans) (kp : KP) : Ans := LDN (nat_lit 2) x3 h236 fun x242 =>
 FA (nat_lit 4) x9 fun x243 =>
 LD x243 h236 fun x244 =>
 SA (nat_lit 1) x244 x234 fun x245 =>
 LD x245 h236 fun x246 =>
 cl (nat_lit 106) [x242, x246] h236 (fun x247 h248 =>
 ADD Pr 9 false x235 x247 fun x251 =>
 ADD Pr 9 true x251 (.str (nat_lit 1) (nat_lit 32)) fun x252 =>
 ADD Pr 3 true x234 (.int .i64 (nat_lit 1)) fun x253 =>
 j237 x253 x252 h248) kp
noncomputable def B106x256 (fu : Nat) (x9 : AV) (x3 : AV) (cl : CL) (kp : KP) (kr : KR) (h11 : Heap) : Ans := LP fu (fun _ _ _ => Ans.no) (fun j237 x234 x235 h236 =>
 FA (nat_lit 4) x9 fun x238 =>
 LD x238 h236 fun x239 =>
 LENS x239 fun x240 =>
 LSS Pr 3 false x234 x240 fun x241 =>
 IFB x241 (B106x254 x3 h236 x9 x234 cl x235 j237 kp)
 (ADD Pr 9 true x235 (.str (nat_lit 1) (nat_lit 125)) fun x255 =>
 kr x255 h236)) (.int .i64 (nat_lit 0)) (.str (nat_lit 2) (nat_lit 8315)) h11
noncomputable def B106x257 (x13 : AV) (x3 : AV) (h11 : Heap) (x9 : AV) (cl : CL) (kr : KR) (kp : KP) (fu : Nat) : Ans := EQL Pr 3 true x13 (.int .i64 (nat_lit 51)) fun x208 =>
 IFB x208 (LDN (nat_lit 2) x3 h11 fun x209 =>
 FA (nat_lit 4) x9 fun x210 =>
 LD x210 h11 fun x211 =>
 cl (nat_lit 169) [x209, (.str (nat_lit 6) (nat_lit 121437875889522)), x211] h11 (fun x212 h213 =>
 kr x212 h213) kp)
 (EQL Pr 3 true x13 (.int .i64 (nat_lit 52)) fun x216 =>
 IFB x216 (B106x233 x9 h11 x3 cl kr kp)
 (B106x256 fu x9 x3 cl kp kr h11))
noncomputable def B106x258 (x13 : AV) (x3 : AV) (h11 : Heap) (x9 : AV) (cl : CL) (kr : KR) (kp : KP) (fu : Nat) : Ans := EQL Pr 3 true x13 (.int .i64 (nat_lit 50)) fun x200 =>
 IFB x200 (LDN (nat_lit 2) x3 h11 fun x201 =>
 FA (nat_lit 4) x9 fun x202 =>
 LD x202 h11 fun x203 =>
 cl (nat_lit 169) [x201, (.str (nat_lit 4) (nat_lit 1953069157)), x203] h11 (fun x204 h205 =>
 kr x204 h205) kp)
 (B106x257 x13 x3 h11 x9 cl kr kp fu)
noncomputable def B106x259 (x13 : AV) (kr : KR) (h11 : Heap) (x3 : AV) (x9 : AV) (cl : CL) (kp : KP) (fu : Nat) : Ans := EQL Pr 3 true x13 (.int .i64 (nat_lit 47)) fun x197 =>
 IFB x197 (kr (.str (nat_lit 6) (nat_lit 65332381577826)) h11)
 (EQL Pr 3 true x13 (.int .i64 (nat_lit 48)) fun x198 =>
 IFB x198 (kr (.str (nat_lit 9) (nat_lit 1095668771318173429603)) h11)
 (EQL Pr 3 true x13 (.int .i64 (nat_lit 49)) fun x199 =>
 IFB x199 (kr (.str (nat_lit 5) (nat_lit 255357117806)) h11)
 (B106x258 x13 x3 h11 x9 cl kr kp fu)))
noncomputable def B106x260 (x13 : AV) (x3 : AV) (h11 : Heap) (x9 : AV) (cl : CL) (kr : KR) (kp : KP) (fu : Nat) : Ans := EQL Pr 3 true x13 (.int .i64 (nat_lit 44)) fun x86 =>
 IFB x86 (B106x111 x3 h11 x9 cl kr kp)
 (EQL Pr 3 true x13 (.int .i64 (nat_lit 45)) fun x112 =>
 IFB x112 (B106x174 x3 h11 x9 cl kr kp)
 (EQL Pr 3 true x13 (.int .i64 (nat_lit 46)) fun x175 =>
 IFB x175 (B106x196 x9 h11 x3 cl kr kp)
 (B106x259 x13 kr h11 x3 x9 cl kp fu)))
noncomputable def B106x261 (x13 : AV) (x3 : AV) (h11 : Heap) (x9 : AV) (cl : CL) (kr : KR) (kp : KP) (fu : Nat) : Ans := EQL Pr 3 true x13 (.int .i64 (nat_lit 42)) fun x33 =>
 IFB x33 (LDN (nat_lit 2) x3 h11 fun x34 =>
 FA (nat_lit 4) x9 fun x35 =>
 LD x35 h11 fun x36 =>
 cl (nat_lit 169) [x34, (.str (nat_lit 6) (nat_lit 112650254643824)), x36] h11 (fun x37 h38 =>
 kr x37 h38) kp)
 (EQL Pr 3 true x13 (.int .i64 (nat_lit 43)) fun x41 =>
 IFB x41 (B106x85 x3 h11 x9 cl kr kp)
 (B106x260 x13 x3 h11 x9 cl kr kp fu))
noncomputable def F106 (fu : Nat) (oR : FuncId → List AV → Option AV) (cl : CL) (args : List AV) (h2 : Heap) (kr : KR) (kp : KP) : Ans := AR2 args fun x0 x1 =>
 BOX 37 x0 h2 fun x3 h4 =>
 FA (nat_lit 0) x3 fun x5 =>
 LD x5 h4 fun x6 =>
 SA (nat_lit 5) x6 x1 fun x7 =>
 LDN (nat_lit 5) x7 h4 fun x8 =>
 NEWC (.n (some (.int .i64 (nat_lit 0))) (.n (some (.str (nat_lit 0) (nat_lit 0))) (.n (some (.int .i64 (nat_lit 0))) .e .e) .e) (.n (some (.str (nat_lit 0) (nat_lit 0))) (.n (some (.nilslice)) .e .e) .e)) (nat_lit 5) 92 h4 fun x9 h10 =>
 ST (nat_lit 5) x9 x8 h10 fun h11 =>
 FA (nat_lit 0) x9 fun x12 =>
 LD x12 h11 fun x13 =>
 EQL Pr 3 true x13 (.int .i64 (nat_lit 40)) fun x14 =>
 IFB x14 (LDN (nat_lit 2) x3 h11 fun x15 =>
 FA (nat_lit 4) x9 fun x16 =>
 LD x16 h11 fun x17 =>
 SA (nat_lit 1) x17 (.int .i64 (nat_lit 0)) fun x18 =>
 LD x18 h11 fun x19 =>
 cl (nat_lit 105) [x15, x19] h11 (fun x20 h21 =>
 ADD Pr 9 true x20 (.str (nat_lit 1) (nat_lit 59)) fun x24 =>
 kr x24 h21) kp)
 (EQL Pr 3 true x13 (.int .i64 (nat_lit 41)) fun x25 =>
 IFB x25 (LDN (nat_lit 2) x3 h11 fun x26 =>
 FA (nat_lit 4) x9 fun x27 =>
 LD x27 h11 fun x28 =>
 cl (nat_lit 169) [x26, (.str (nat_lit 5) (nat_lit 500068610672)), x28] h11 (fun x29 h30 =>
 kr x29 h30) kp)
 (B106x261 x13 x3 h11 x9 cl kr kp fu))

theorem eqF106 : F106 = fun fu oR => compF Pr fu oR 106 2 := by kernel_rfl

noncomputable def B108x30 (cl : CL) (x18 : AV) (x1 : AV) (h19 : Heap) (kr : KR) (x17 : AV) (j20 : AV → AV → Heap → Ans) (kp : KP) : Ans := cl (nat_lit 109) [x18, x1] h19 (fun x21 h22 =>
 EQL Pr 3 true x21 (.int .i64 (nat_lit 18446744073709551615)) fun x25 =>
 IFB x25 (kr x17 h22)
 (ADD Pr 3 true x17 (.int .i64 (nat_lit 1)) fun x26 =>
 LENT x1 fun x27 =>
 ADD Pr 3 false x21 x27 fun x28 =>
 OV (sliceA Pr 9 x18 (some x28) none none) fun x29 =>
 j20 x26 x29 h22)) kp
noncomputable def B108x31 (x1 : AV) (h2 : Heap) (x0 : AV) (cl : CL) (kr : KR) (kp : KP) (fu : Nat) : Ans := LENT x1 fun x10 =>
 EQL Pr 3 true x10 (.int .i64 (nat_lit 1)) fun x11 =>
 IFB x11 (SAT x1 (.int .i64 (nat_lit 0)) fun x12 =>
 GEN (callF Pr h2 172 [x0, x12]) cl (fun x13 h14 =>
 kr x13 h14) kp)
 (LP fu (fun _ _ _ => Ans.no) (fun j20 x17 x18 h19 =>
 B108x30 cl x18 x1 h19 kr x17 j20 kp) (.int .i64 (nat_lit 0)) x0 h2)
noncomputable def F108 (fu : Nat) (oR : FuncId → List AV → Option AV) (cl : CL) (args : List AV) (h2 : Heap) (kr : KR) (kp : KP) : Ans := AR2 args fun x0 x1 =>
 LENT x1 fun x3 =>
 EQL Pr 3 true x3 (.int .i64 (nat_lit 0)) fun x4 =>
 IFB x4 (cl (nat_lit 170) [x0] h2 (fun x5 h6 =>
 ADD Pr 3 true x5 (.int .i64 (nat_lit 1)) fun x9 =>
 kr x9 h6) kp)
 (B108x31 x1 h2 x0 cl kr kp fu)

theorem eqF108 : F108 = fun fu oR => compF Pr fu oR 108 2 := by kernel_rfl

noncomputable def F109 (fu : Nat) (oR : FuncId → List AV → Option AV) (cl : CL) (args : List AV) (h2 : Heap) (kr : KR) (kp : KP) : Ans := AR2 args fun x0 x1 =>
 cl (nat_lit 173) [x0, x1] h2 (fun x3 h4 =>
 kr x3 h4) kp

theorem eqF109 : F109 = fun fu oR => compF Pr fu oR 109 2 := by kernel_rfl

noncomputable def F110 (fu : Nat) (oR : FuncId → List AV → Option AV) (cl : CL) (args : List AV) (h2 : Heap) (kr : KR) (kp : KP) : Ans := AR2 args fun x0 x1 =>
 cl (nat_lit 174) [x0] h2 (fun x3 h4 =>
 NC x0 fun x7 =>
 FA (nat_lit 1) x7 fun x8 =>
 LD x8 h4 fun x9 =>
 GEN (builtinF .append Pr [22, 9] [x9, x1] h4) cl (fun x10 h11 =>
 NC x0 fun x14 =>
 FA (nat_lit 1) x14 fun x15 =>
 ST (nat_lit 1) x15 x10 h11 fun h16 =>
 LENT x1 fun x17 =>
 kr (.tuple [x17, (.niliface)]) h16) kp) kp

theorem eqF110 : F110 = fun fu oR => compF Pr fu oR 110 2 := by kernel_rfl

noncomputable def F111 (fu : Nat) (oR : FuncId → List AV → Option AV) (cl : CL) (args : List AV) (h1 : Heap) (kr : KR) (kp : KP) : Ans := AR1 args fun x0 =>
 NC x0 fun x2 =>
 FA (nat_lit 1) x2 fun x3 =>
 LD x3 h1 fun x4 =>
 LENS x4 fun x5 =>
 kr x5 h1

theorem eqF111 : F111 = fun fu oR => compF Pr fu oR 111 1 := by kernel_rfl

noncomputable def B112x18 (x0 : AV) (kr : KR) (h1 : Heap) : Ans := EQL Pr 3 true x0 (.int .i64 (nat_lit 22)) fun x15 =>
 IFB x15 (kr (.str (nat_lit 3) (nat_lit 2107936)) h1)
 (EQL Pr 3 true x0 (.int .i64 (nat_lit 23)) fun x16 =>
 IFB x16 (kr (.str (nat_lit 3) (nat_lit 2109216)) h1)
 (EQL Pr 3 true x0 (.int .i64 (nat_lit 24)) fun x17 =>
 IFB x17 (kr (.str (nat_lit 3) (nat_lit 2106656)) h1)
 (kr (.str (nat_lit 0) (nat_lit 0)) h1)))
noncomputable def B112x19 (x0 : AV) (kr : KR) (h1 : Heap) : Ans := EQL Pr 3 true x0 (.int .i64 (nat_lit 19)) fun x12 =>
 IFB x12 (kr (.str (nat_lit 1) (nat_lit 32)) h1)
 (EQL Pr 3 true x0 (.int .i64 (nat_lit 20)) fun x13 =>
 IFB x13 (kr (.str (nat_lit 3) (nat_lit 2108192)) h1)
 (EQL Pr 3 true x0 (.int .i64 (nat_lit 21)) fun x14 =>
 IFB x14 (kr (.str (nat_lit 3) (nat_lit 2108704)) h1)
 (B112x18 x0 kr h1)))
noncomputable def B112x20 (x0 : AV) (kr : KR) (h1 : Heap) : Ans := EQL Pr 3 true x0 (.int .i64 (nat_lit 16)) fun x9 =>
 IFB x9 (kr (.str (nat_lit 4) (nat_lit 540884000)) h1)
 (EQL Pr 3 true x0 (.int .i64 (nat_lit 17)) fun x10 =>
 IFB x10 (kr (.str (nat_lit 4) (nat_lit 540884256)) h1)
 (EQL Pr 3 true x0 (.int .i64 (nat_lit 18)) fun x11 =>
 IFB x11 (kr (.str (nat_lit 4) (nat_lit 540877088)) h1)
 (B112x19 x0 kr h1)))
noncomputable def B112x21 (x0 : AV) (kr : KR) (h1 : Heap) : Ans := EQL Pr 3 true x0 (.int .i64 (nat_lit 13)) fun x6 =>
 IFB x6 (kr (.str (nat_lit 3) (nat_lit 2129440)) h1)
 (EQL Pr 3 true x0 (.int .i64 (nat_lit 14)) fun x7 =>
 IFB x7 (kr (.str (nat_lit 4) (nat_lit 545136928)) h1)
 (EQL Pr 3 true x0 (.int .i64 (nat_lit 15)) fun x8 =>
 IFB x8 (kr (.str (nat_lit 3) (nat_lit 2112544)) h1)
 (B112x20 x0 kr h1)))
noncomputable def B112x22 (x0 : AV) (kr : KR) (h1 : Heap) : Ans := EQL Pr 3 true x0 (.int .i64 (nat_lit 8)) fun x3 =>
 IFB x3 (kr (.str (nat_lit 4) (nat_lit 540879648)) h1)
 (EQL Pr 3 true x0 (.int .i64 (nat_lit 10)) fun x4 =>
 IFB x4 (kr (.str (nat_lit 4) (nat_lit 545029152)) h1)
 (EQL Pr 3 true x0 (.int .i64 (nat_lit 11)) fun x5 =>
 IFB x5 (kr (.str (nat_lit 4) (nat_lit 539371040)) h1)
 (B112x21 x0 kr h1)))
noncomputable def F112 (fu : Nat) (oR : FuncId → List AV → Option AV) (cl : CL) (args : List AV) (h1 : Heap) (kr : KR) (kp : KP) : Ans := AR1 args fun x0 =>
 EQL Pr 3 true x0 (.int .i64 (nat_lit 7)) fun x2 =>
 IFB x2 (kr (.str (nat_lit 3) (nat_lit 2112800)) h1)
 (B112x22 x0 kr h1)

theorem eqF112 : F112 = fun fu oR => compF Pr fu oR 112 1 := by kernel_rfl

noncomputable def B113x42 (x11 : AV) (x24 : AV) (h25 : Heap) (x1 : AV) (cl : CL) (x0 : AV) (x3 : AV) (kr : KR) (j26 : AV → Heap → Ans) (kp : KP) : Ans := SA (nat_lit 1) x11 x24 fun x28 =>
 LD x28 h25 fun x29 =>
 SUB Pr 3 true x1 (.int .i64 (nat_lit 1)) fun x30 =>
 cl (nat_lit 23) [x29, (.int .i64 (nat_lit 0)), x30] h25 (fun x31 h32 =>
 OV (unOpA .not x31) fun x35 =>
 IFB x35 (NC x0 fun x36 =>
 FA (nat_lit 4) x36 fun x37 =>
 ST (nat_lit 1) x37 (.bool true) h32 fun h38 =>
 OVH (makeSliceA Pr h38 90 x3 x3) fun x39 h40 =>
 kr x39 h40)
 (ADD Pr 3 true x24 (.int .i64 (nat_lit 1)) fun x41 =>
 j26 x41 h32)) kp
noncomputable def F113 (fu : Nat) (oR : FuncId → List AV → Option AV) (cl : CL) (args : List AV) (h4 : Heap) (kr : KR) (kp : KP) : Ans := AR4 args fun x0 x1 x2 x3 =>
 NC x0 fun x5 =>
 FA (nat_lit 0) x5 fun x6 =>
 FA (nat_lit 0) x6 fun x7 =>
 LD x7 h4 fun x8 =>
 SA (nat_lit 5) x8 x1 fun x9 =>
 FA (nat_lit 4) x9 fun x10 =>
 LD x10 h4 fun x11 =>
 LENS x11 fun x12 =>
 cl (nat_lit 23) [x12, x2, x3] h4 (fun x13 h14 =>
 OV (unOpA .not x13) fun x17 =>
 IFB x17 (NC x0 fun x18 =>
 FA (nat_lit 4) x18 fun x19 =>
 ST (nat_lit 1) x19 (.bool true) h14 fun h20 =>
 OVH (makeSliceA Pr h20 90 x3 x3) fun x21 h22 =>
 kr x21 h22)
 (LENS x11 fun x23 =>
 LP fu (fun _ _ => Ans.no) (fun j26 x24 h25 =>
 LSS Pr 3 false x24 x23 fun x27 =>
 IFB x27 (B113x42 x11 x24 h25 x1 cl x0 x3 kr j26 kp)
 (kr x11 h25)) (.int .i64 (nat_lit 0)) h14)) kp

theorem eqF113 : F113 = fun fu oR => compF Pr fu oR 113 4 := by kernel_rfl

noncomputable def B114x25 (x1 : AV) (x5 : AV) (h6 : Heap) (cl : CL) (x0 : AV) (j7 : AV → Heap → Ans) (kp : KP) (x2 : AV) : Ans := SA (nat_lit 1) x1 x5 fun x9 =>
 LD x9 h6 fun x10 =>
 JO (fun h11 =>
 cl (nat_lit 69) [x0, x10] h11 (fun x12 h13 =>
 ADD Pr 3 true x5 (.int .i64 (nat_lit 1)) fun x16 =>
 j7 x16 h13) kp) fun j17 =>
 GTR Pr 3 true x5 (.int .i64 (nat_lit 0)) fun x18 =>
 IFB x18 (BSL (nat_lit 9) (nat_lit 1) [(.str (nat_lit 0) (nat_lit 0))] (nat_lit 1) [((nat_lit 0), x2)] h6 fun x19 h20 =>
 cl (nat_lit 68) [x0, x19] h20 (fun x21 h22 =>
 j17  h22) kp)
 (j17  h6)
noncomputable def F114 (fu : Nat) (oR : FuncId → List AV → Option AV) (cl : CL) (args : List AV) (h3 : Heap) (kr : KR) (kp : KP) : Ans := AR3 args fun x0 x1 x2 =>
 LENS x1 fun x4 =>
 LP fu (fun _ _ => Ans.no) (fun j7 x5 h6 =>
 LSS Pr 3 false x5 x4 fun x8 =>
 IFB x8 (B114x25 x1 x5 h6 cl x0 j7 kp x2)
 (kr (.tuple []) h6)) (.int .i64 (nat_lit 0)) h3

theorem eqF114 : F114 = fun fu oR => compF Pr fu oR 114 3 := by kernel_rfl

noncomputable def B115x35 (x8 : AV) (cl : CL) (h13 : Heap) (x16 : AV) (j19 : AV → Heap → Ans) (kp : KP) : Ans := BOP Pr .rem 3 true x8 (.int .i64 (nat_lit 1000000)) fun x22 =>
 ADD Pr 3 true (.int .i64 (nat_lit 1000000)) x22 fun x23 =>
 cl (nat_lit 176) [x23] h13 (fun x24 h25 =>
 OV (sliceA Pr 9 x24 (some (.int .i64 (nat_lit 1))) none none) fun x28 =>
 cl (nat_lit 177) [x28, (.str (nat_lit 1) (nat_lit 48))] h25 (fun x29 h30 =>
 ADD Pr 9 true (.str (nat_lit 1) (nat_lit 46)) x29 fun x33 =>
 ADD Pr 9 false x16 x33 fun x34 =>
 j19 x34 h30) kp) kp
noncomputable def B115x36 (x8 : AV) (cl : CL) (h10 : Heap) (x9 : AV) (kr : KR) (kp : KP) : Ans := BOP Pr .quo 3 true x8 (.int .i64 (nat_lit 1000000)) fun x11 =>
 cl (nat_lit 176) [x11] h10 (fun x12 h13 =>
 ADD Pr 9 false x9 x12 fun x16 =>
 JO (fun x17 h18 =>
 kr x17 h18) fun j19 =>
 BOP Pr .rem 3 true x8 (.int .i64 (nat_lit 1000000)) fun x20 =>
 GTR Pr 3 true x20 (.int .i64 (nat_lit 0)) fun x21 =>
 IFB x21 (B115x35 x8 cl h13 x16 j19 kp)
 (j19 x16 h13)) kp
noncomputable def F115 (fu : Nat) (oR : FuncId → List AV → Option AV) (cl : CL) (args : List AV) (h1 : Heap) (kr : KR) (kp : KP) : Ans := AR1 args fun x0 =>
 cl (nat_lit 175) [x0] h1 (fun x2 h3 =>
 OV (unOpA .not x2) fun x6 =>
 IFB x6 (kr (.str (nat_lit 0) (nat_lit 0)) h3)
 (OV (unOpA .neg x0) fun x7 =>
 OPV (builtinF .max Pr [3, 3] [x0, x7] h3) fun x8 =>
 JO (fun x9 h10 =>
 B115x36 x8 cl h10 x9 kr kp) fun j37 =>
 LSS Pr 3 true x0 (.int .i64 (nat_lit 0)) fun x38 =>
 IFB x38 (j37 (.str (nat_lit 1) (nat_lit 45)) h3)
 (j37 (.str (nat_lit 0) (nat_lit 0)) h3))) kp

theorem eqF115 : F115 = fun fu oR => compF Pr fu oR 115 1 := by kernel_rfl

noncomputable def B116x27 (x15 : AV) (h16 : Heap) (x6 : AV) (cl : CL) (j13 : AV → Heap → Ans) (kp : KP) : Ans := SAT (.str (nat_lit 4) (nat_lit 1545761902)) x15 fun x20 =>
 BSL (nat_lit 5) (nat_lit 1) [(.int .u8 (nat_lit 0)), (.int .u8 (nat_lit 0))] (nat_lit 2) [((nat_lit 0), (.int .u8 (nat_lit 92))), ((nat_lit 1), x20)] h16 fun x21 h22 =>
 GEN (builtinF .append Pr [22, 22] [x6, x21] h22) cl (fun x23 h24 =>
 j13 x23 h24) kp
noncomputable def B116x35 (x5 : AV) (j8 : AV → AV → Heap → Ans) (x0 : AV) (cl : CL) (h7 : Heap) (x6 : AV) (kp : KP) : Ans := JO (fun x10 h11 =>
 ADD Pr 3 true x5 (.int .i64 (nat_lit 1)) fun x12 =>
 j8 x12 x10 h11) fun j13 =>
 SAT x0 x5 fun x14 =>
 cl (nat_lit 178) [(.str (nat_lit 4) (nat_lit 1545734410)), x14] h7 (fun x15 h16 =>
 GEQ Pr 3 true x15 (.int .i64 (nat_lit 0)) fun x19 =>
 IFB x19 (B116x27 x15 h16 x6 cl j13 kp)
 (SAT x0 x5 fun x28 =>
 BSL (nat_lit 5) (nat_lit 1) [(.int .u8 (nat_lit 0))] (nat_lit 1) [((nat_lit 0), x28)] h16 fun x29 h30 =>
 GEN (builtinF .append Pr [22, 22] [x6, x29] h30) cl (fun x31 h32 =>
 j13 x31 h32) kp)) kp
noncomputable def B116x43 (x5 : AV) (x4 : AV) (j8 : AV → AV → Heap → Ans) (x0 : AV) (cl : CL) (h7 : Heap) (x6 : AV) (kp : KP) (kr : KR) : Ans := LSS Pr 3 false x5 x4 fun x9 =>
 IFB x9 (B116x35 x5 j8 x0 cl h7 x6 kp)
 (BSL (nat_lit 5) (nat_lit 1) [(.int .u8 (nat_lit 0))] (nat_lit 1) [((nat_lit 0), (.int .u8 (nat_lit 34)))] h7 fun x36 h37 =>
 GEN (builtinF .append Pr [22, 22] [x6, x36] h37) cl (fun x38 h39 =>
 OV (convV Pr h39 22 9 x38) fun x42 =>
 kr x42 h39) kp)
noncomputable def F116 (fu : Nat) (oR : FuncId → List AV → Option AV) (cl : CL) (args : List AV) (h1 : Heap) (kr : KR) (kp : KP) : Ans := AR1 args fun x0 =>
 BSL (nat_lit 5) (nat_lit 1) [(.int .u8 (nat_lit 0))] (nat_lit 1) [((nat_lit 0), (.int .u8 (nat_lit 34)))] h1 fun x2 h3 =>
 LENT x0 fun x4 =>
 LP fu (fun _ _ _ => Ans.no) (fun j8 x5 x6 h7 =>
 B116x43 x5 x4 j8 x0 cl h7 x6 kp kr) (.int .i64 (nat_lit 0)) x2 h3

theorem eqF116 : F116 = fun fu oR => compF Pr fu oR 116 1 := by kernel_rfl

noncomputable def B118x22 (x0 : AV) (h7 : Heap) (x1 : AV) (cl : CL) (kr : KR) (kp : KP) : Ans := NC x0 fun x8 =>
 FA (nat_lit 1) x8 fun x9 =>
 LD x9 h7 fun x10 =>
 OPV (builtinF .cap Pr [22] [x10] h7) fun x11 =>
 NC x0 fun x12 =>
 FA (nat_lit 1) x12 fun x13 =>
 LD x13 h7 fun x14 =>
 LENS x14 fun x15 =>
 SUB Pr 3 false x11 x15 fun x16 =>
 LSS Pr 3 false x16 x1 fun x17 =>
 IFB x17 (cl (nat_lit 179) [x0, x1] h7 (fun x18 h19 =>
 kr (.tuple []) h19) kp)
 (kr (.tuple []) h7)
noncomputable def F118 (fu : Nat) (oR : FuncId → List AV → Option AV) (cl : CL) (args : List AV) (h2 : Heap) (kr : KR) (kp : KP) : Ans := AR2 args fun x0 x1 =>
 cl (nat_lit 174) [x0] h2 (fun x3 h4 =>
 JO (fun h7 =>
 B118x22 x0 h7 x1 cl kr kp) fun j23 =>
 LSS Pr 3 true x1 (.int .i64 (nat_lit 0)) fun x24 =>
 IFB x24 (GEN (panA (.iface (nat_lit 9) (.str (nat_lit 36) (nat_lit 226187813140227768008177986391742176399534891738691412630441701833056540972817830802547))) h4) cl (fun x25 h26 =>
 j23  h26) kp)
 (j23  h4)) kp

theorem eqF118 : F118 = fun fu oR => compF Pr fu oR 118 2 := by kernel_rfl

noncomputable def F119 (fu : Nat) (oR : FuncId → List AV → Option AV) (cl : CL) (args : List AV) (h5 : Heap) (kr : KR) (kp : KP) : Ans := AR5 args fun x0 x1 x2 x3 x4 =>
 BSL (nat_lit 9) (nat_lit 1) [(.str (nat_lit 0) (nat_lit 0))] (nat_lit 1) [((nat_lit 0), x2)] h5 fun x6 h7 =>
 cl (nat_lit 68) [x0, x6] h7 (fun x8 h9 =>
 JO (fun h12 =>
 BSL (nat_lit 9) (nat_lit 1) [(.str (nat_lit 0) (nat_lit 0))] (nat_lit 1) [((nat_lit 0), (.str (nat_lit 1) (nat_lit 59)))] h12 fun x13 h14 =>
 cl (nat_lit 68) [x0, x13] h14 (fun x15 h16 =>
 kr (.tuple []) h16) kp) fun j19 =>
 cl (nat_lit 113) [x0, x1, x3, x4] h9 (fun x20 h21 =>
 LENS x20 fun x24 =>
 GTR Pr 3 true x24 (.int .i64 (nat_lit 0)) fun x25 =>
 IFB x25 (BSL (nat_lit 9) (nat_lit 1) [(.str (nat_lit 0) (nat_lit 0))] (nat_lit 1) [((nat_lit 0), (.str (nat_lit 1) (nat_lit 32)))] h21 fun x26 h27 =>
 cl (nat_lit 68) [x0, x26] h27 (fun x28 h29 =>
 cl (nat_lit 114) [x0, x20, (.str (nat_lit 2) (nat_lit 8236))] h29 (fun x32 h33 =>
 j19  h33) kp) kp)
 (j19  h21)) kp) kp

theorem eqF119 : F119 = fun fu oR => compF Pr fu oR 119 5 := by kernel_rfl

noncomputable def B120x18 (x2 : AV) (kr : KR) (x0 : AV) (x3 : AV) (h4 : Heap) : Ans := JO (fun x5 h6 =>
 SEL x2 (.bool true) x5 fun x7 =>
 JO (fun x8 h9 =>
 JO (fun x10 h11 =>
 SEL x7 (.bool true) x10 fun x12 =>
 kr x12 h11) fun j13 =>
 GW false x7 (EQL Pr 5 true x8 (.int .u8 (nat_lit 10)) fun x14 =>
 j13 x14 h9)
 (j13 undefA h9)) fun j15 =>
 GW false x7 (j15 x0 h6)
 (j15 undefA h6)) fun j16 =>
 GW false x2 (EQL Pr 5 true x3 (.int .u8 (nat_lit 9)) fun x17 =>
 j16 x17 h4)
 (j16 undefA h4)
noncomputable def F120 (fu : Nat) (oR : FuncId → List AV → Option AV) (cl : CL) (args : List AV) (h1 : Heap) (kr : KR) (kp : KP) : Ans := AR1 args fun x0 =>
 EQL Pr 5 true x0 (.int .u8 (nat_lit 32)) fun x2 =>
 JO (fun x3 h4 =>
 B120x18 x2 kr x0 x3 h4) fun j19 =>
 GW false x2 (j19 x0 h1)
 (j19 undefA h1)

theorem eqF120 : F120 = fun fu oR => compF Pr fu oR 120 1 := by kernel_rfl

noncomputable def B121x33 (x9 : AV) (x4 : AV) (j6 : AV → Heap → Ans) (kr : KR) (x10 : AV) (cl : CL) (kp : KP) (x12 : AV) (x18 : AV) (h19 : Heap) : Ans := JO (fun x20 h21 =>
 JO (fun x22 h23 =>
 SEL x9 x22 (.bool false) fun x24 =>
 IFB x24 (ADD Pr 3 true x4 (.int .i64 (nat_lit 1)) fun x25 =>
 j6 x25 h23)
 (kr x4 h23)) fun j26 =>
 GW true x9 (GEN (callV Pr (some x10) [x20] h21) cl (fun x27 h28 =>
 j26 x27 h28) kp)
 (j26 undefA h21)) fun j31 =>
 GW true x9 (SAT x12 x18 fun x32 =>
 j31 x32 h19)
 (j31 undefA h19)
noncomputable def B121x39 (x9 : AV) (x4 : AV) (j6 : AV → Heap → Ans) (kr : KR) (x10 : AV) (cl : CL) (kp : KP) (x1 : AV) (x0 : AV) (h11 : Heap) : Ans := JO (fun x12 h13 =>
 JO (fun x14 h15 =>
 JO (fun x16 h17 =>
 JO (fun x18 h19 =>
 B121x33 x9 x4 j6 kr x10 cl kp x12 x18 h19) fun j34 =>
 GW true x9 (ADD Pr 3 false x14 x16 fun x35 =>
 j34 x35 h17)
 (j34 undefA h17)) fun j36 =>
 GW true x9 (j36 x4 h15)
 (j36 undefA h15)) fun j37 =>
 GW true x9 (j37 x1 h13)
 (j37 undefA h13)) fun j38 =>
 GW true x9 (j38 x0 h11)
 (j38 undefA h11)
noncomputable def F121 (fu : Nat) (oR : FuncId → List AV → Option AV) (cl : CL) (args : List AV) (h3 : Heap) (kr : KR) (kp : KP) : Ans := AR3 args fun x0 x1 x2 =>
 LP fu (fun _ _ => Ans.no) (fun j6 x4 h5 =>
 ADD Pr 3 false x1 x4 fun x7 =>
 LENT x0 fun x8 =>
 LSS Pr 3 false x7 x8 fun x9 =>
 JO (fun x10 h11 =>
 B121x39 x9 x4 j6 kr x10 cl kp x1 x0 h11) fun j40 =>
 GW true x9 (j40 x2 h5)
 (j40 undefA h5)) (.int .i64 (nat_lit 0)) h3

theorem eqF121 : F121 = fun fu oR => compF Pr fu oR 121 3 := by kernel_rfl

noncomputable def B123x28 (x0 : AV) (x16 : AV) (cl : CL) (h17 : Heap) (x5 : AV) (kr : KR) (kp : KP) : Ans := OV (sliceA Pr 9 x0 none (some x16) none) fun x18 =>
 cl (nat_lit 181) [x18] h17 (fun x19 h20 =>
 EX (nat_lit 0) x19 fun x23 =>
 EX (nat_lit 1) x19 fun x24 =>
 OV (buildA Pr 114 [((nat_lit 0), (.int .i64 (nat_lit 1))), ((nat_lit 2), x23)]) fun x25 =>
 ST (nat_lit 4) x5 x25 h20 fun h26 =>
 LDN (nat_lit 4) x5 h26 fun x27 =>
 kr (.tuple [x27, x16]) h26) kp
noncomputable def B123x65 (x41 : AV) (x12 : AV) (cl : CL) (x0 : AV) (j29 : AV → Heap → Ans) (kp : KP) (x48 : AV) (h49 : Heap) : Ans := JO (fun x50 h51 =>
 SEL x41 x50 (.bool false) fun x52 =>
 IFB x52 (ADD Pr 3 true x12 (.int .i64 (nat_lit 1)) fun x53 =>
 cl (nat_lit 121) [x0, x53, (.func (.func 180) [] [])] h51 (fun x54 h55 =>
 ADD Pr 3 true (.int .i64 (nat_lit 1)) x54 fun x58 =>
 ADD Pr 3 false x12 x58 fun x59 =>
 j29 x59 h55) kp)
 (j29 x12 h51)) fun j60 =>
 GW true x41 (cl (nat_lit 180) [x48] h49 (fun x61 h62 =>
 j60 x61 h62) kp)
 (j60 undefA h49)
noncomputable def B123x71 (x41 : AV) (x12 : AV) (cl : CL) (x0 : AV) (j29 : AV → Heap → Ans) (kp : KP) (x42 : AV) (h43 : Heap) : Ans := JO (fun x44 h45 =>
 JO (fun x46 h47 =>
 JO (fun x48 h49 =>
 B123x65 x41 x12 cl x0 j29 kp x48 h49) fun j66 =>
 GW true x41 (SAT x42 x46 fun x67 =>
 j66 x67 h47)
 (j66 undefA h47)) fun j68 =>
 GW true x41 (ADD Pr 3 true x44 (.int .i64 (nat_lit 1)) fun x69 =>
 j68 x69 h45)
 (j68 undefA h45)) fun j70 =>
 GW true x41 (j70 x12 h43)
 (j70 undefA h43)
noncomputable def B123x77 (x32 : AV) (x12 : AV) (cl : CL) (x0 : AV) (j29 : AV → Heap → Ans) (kp : KP) (x33 : AV) (x35 : AV) (h36 : Heap) : Ans := JO (fun x37 h38 =>
 JO (fun x39 h40 =>
 SEL x32 x39 (.bool false) fun x41 =>
 JO (fun x42 h43 =>
 B123x71 x41 x12 cl x0 j29 kp x42 h43) fun j72 =>
 GW true x41 (j72 x0 h40)
 (j72 undefA h40)) fun j73 =>
 GW true x32 (EQL Pr 5 true x37 (.int .u8 (nat_lit 46)) fun x74 =>
 j73 x74 h38)
 (j73 undefA h38)) fun j75 =>
 GW true x32 (SAT x33 x35 fun x76 =>
 j75 x76 h36)
 (j75 undefA h36)
noncomputable def B123x80 (cl : CL) (x0 : AV) (h9 : Heap) (x5 : AV) (kr : KR) (kp : KP) : Ans := cl (nat_lit 121) [x0, (.int .i64 (nat_lit 0)), (.func (.func 180) [] [])] h9 (fun x12 h13 =>
 JO (fun x16 h17 =>
 B123x28 x0 x16 cl h17 x5 kr kp) fun j29 =>
 ADD Pr 3 true x12 (.int .i64 (nat_lit 1)) fun x30 =>
 LENT x0 fun x31 =>
 LSS Pr 3 false x30 x31 fun x32 =>
 JO (fun x33 h34 =>
 JO (fun x35 h36 =>
 B123x77 x32 x12 cl x0 j29 kp x33 x35 h36) fun j78 =>
 GW true x32 (j78 x12 h34)
 (j78 undefA h34)) fun j79 =>
 GW true x32 (j79 x0 h13)
 (j79 undefA h13)) kp
noncomputable def B123x108 (cl : CL) (x0 : AV) (h97 : Heap) (x5 : AV) (kr : KR) (kp : KP) : Ans := cl (nat_lit 184) [x0] h97 (fun x99 h100 =>
 EX (nat_lit 0) x99 fun x103 =>
 EX (nat_lit 1) x99 fun x104 =>
 OV (buildA Pr 114 [((nat_lit 0), (.int .i64 (nat_lit 3))), ((nat_lit 1), x103)]) fun x105 =>
 ST (nat_lit 4) x5 x105 h100 fun h106 =>
 LDN (nat_lit 4) x5 h106 fun x107 =>
 kr (.tuple [x107, x104]) h106) kp
noncomputable def B123x155 (x141 : AV) (x120 : AV) (j127 : Heap → Ans) (x146 : AV) (h147 : Heap) : Ans := JO (fun x148 h149 =>
 SEL x141 x148 (.bool false) fun x150 =>
 IFB x150 (FA (nat_lit 0) x120 fun x151 =>
 ST (nat_lit 1) x151 (.int .i64 (nat_lit 5)) h149 fun h152 =>
 j127  h152)
 (j127  h149)) fun j153 =>
 GW true x141 (EQL Pr 5 true x146 (.int .u8 (nat_lit 40)) fun x154 =>
 j153 x154 h147)
 (j153 undefA h147)
noncomputable def B123x160 (x0 : AV) (x113 : AV) (x120 : AV) (j127 : Heap → Ans) (h135 : Heap) : Ans := LENT x0 fun x140 =>
 LSS Pr 3 false x113 x140 fun x141 =>
 JO (fun x142 h143 =>
 JO (fun x144 h145 =>
 JO (fun x146 h147 =>
 B123x155 x141 x120 j127 x146 h147) fun j156 =>
 GW true x141 (SAT x142 x144 fun x157 =>
 j156 x157 h145)
 (j156 undefA h145)) fun j158 =>
 GW true x141 (j158 x113 h143)
 (j158 undefA h143)) fun j159 =>
 GW true x141 (j159 x0 h135)
 (j159 undefA h135)
noncomputable def B123x161 (cl : CL) (x0 : AV) (h110 : Heap) (x5 : AV) (kr : KR) (kp : KP) : Ans := cl (nat_lit 121) [x0, (.int .i64 (nat_lit 0)), (.func (.func 186) [] [])] h110 (fun x113 h114 =>
 OPV (builtinF .min Pr [3, 3] [x113, (.int .i64 (nat_lit 40))] h114) fun x117 =>
 OV (sliceA Pr 9 x0 none (some x117) none) fun x118 =>
 OV (buildA Pr 114 [((nat_lit 0), (.int .i64 (nat_lit 4))), ((nat_lit 1), x118)]) fun x119 =>
 NEWC (.n (some (.int .i64 (nat_lit 0))) (.n (some (.str (nat_lit 0) (nat_lit 0))) (.n (some (.int .i64 (nat_lit 0))) .e .e) .e) (.n (some (.int .i64 (nat_lit 0))) .e .e)) (nat_lit 4) 114 h114 fun x120 h121 =>
 ST (nat_lit 4) x120 x119 h121 fun h122 =>
 JO (fun h123 =>
 LDN (nat_lit 4) x120 h123 fun x124 =>
 ST (nat_lit 4) x5 x124 h123 fun h125 =>
 LDN (nat_lit 4) x5 h125 fun x126 =>
 kr (.tuple [x126, x113]) h125) fun j127 =>
 GTR Pr 3 true x113 (.int .i64 (nat_lit 40)) fun x128 =>
 IFB x128 (OV (buildA Pr 114 []) fun x129 =>
 ST (nat_lit 4) x5 x129 h122 fun h130 =>
 LDN (nat_lit 4) x5 h130 fun x131 =>
 kr (.tuple [x131, (.int .i64 (nat_lit 0))]) h130)
 (FA (nat_lit 1) x120 fun x132 =>
 LD x132 h122 fun x133 =>
 cl (nat_lit 187) [x133] h122 (fun x134 h135 =>
 IFB x134 (FA (nat_lit 0) x120 fun x138 =>
 ST (nat_lit 1) x138 (.int .i64 (nat_lit 6)) h135 fun h139 =>
 j127  h139)
 (B123x160 x0 x113 x120 j127 h135)) kp)) kp
noncomputable def B123x182 (x162 : AV) (x167 : AV) (h168 : Heap) (cl : CL) (x0 : AV) (x5 : AV) (kr : KR) (j169 : AV → Heap → Ans) (kp : KP) : Ans := SA (nat_lit 1) x162 x167 fun x171 =>
 LD x171 h168 fun x172 =>
 cl (nat_lit 188) [x0, x172] h168 (fun x173 h174 =>
 IFB x173 (OV (buildA Pr 114 [((nat_lit 0), (.int .i64 (nat_lit 7))), ((nat_lit 1), x172)]) fun x177 =>
 LENT x172 fun x178 =>
 ST (nat_lit 4) x5 x177 h174 fun h179 =>
 LDN (nat_lit 4) x5 h179 fun x180 =>
 kr (.tuple [x180, x178]) h179)
 (ADD Pr 3 true x167 (.int .i64 (nat_lit 1)) fun x181 =>
 j169 x181 h174)) kp
noncomputable def B123x186 (cl : CL) (h110 : Heap) (fu : Nat) (x0 : AV) (x5 : AV) (kr : KR) (kp : KP) : Ans := cl (nat_lit 45) [(.str (nat_lit 60) (nat_lit 440530996711968739911640227301029809639671399024529253903015996329481968211493671615709962352221065548437406721784014841120924320141379100485158)), (.str (nat_lit 1) (nat_lit 32))] h110 (fun x162 h163 =>
 LENS x162 fun x166 =>
 LP fu (fun _ _ => Ans.no) (fun j169 x167 h168 =>
 LSS Pr 3 false x167 x166 fun x170 =>
 IFB x170 (B123x182 x162 x167 h168 cl x0 x5 kr j169 kp)
 (OV (buildA Pr 114 []) fun x183 =>
 ST (nat_lit 4) x5 x183 h168 fun h184 =>
 LDN (nat_lit 4) x5 h184 fun x185 =>
 kr (.tuple [x185, (.int .i64 (nat_lit 0))]) h184)) (.int .i64 (nat_lit 0)) h163) kp
noncomputable def B123x189 (x91 : AV) (cl : CL) (x0 : AV) (x5 : AV) (kr : KR) (kp : KP) (x7 : AV) (fu : Nat) (x94 : AV) (h95 : Heap) : Ans := JO (fun x96 h97 =>
 SEL x91 x96 (.bool false) fun x98 =>
 IFB x98 (B123x108 cl x0 h97 x5 kr kp)
 (cl (nat_lit 185) [x7] h97 (fun x109 h110 =>
 IFB x109 (B123x161 cl x0 h110 x5 kr kp)
 (B123x186 cl h110 fu x0 x5 kr kp)) kp)) fun j187 =>
 GW true x91 (OV (unOpA .not x94) fun x188 =>
 j187 x188 h95)
 (j187 undefA h95)
noncomputable def B123x197 (x7 : AV) (cl : CL) (x0 : AV) (x5 : AV) (kr : KR) (kp : KP) (fu : Nat) (x3 : AV) (h9 : Heap) : Ans := EQL Pr 5 true x7 (.int .u8 (nat_lit 47)) fun x91 =>
 JO (fun x92 h93 =>
 JO (fun x94 h95 =>
 B123x189 x91 cl x0 x5 kr kp x7 fu x94 h95) fun j190 =>
 GW true x91 (cl (nat_lit 183) [x92] h93 (fun x191 h192 =>
 j190 x191 h192) kp)
 (j190 undefA h93)) fun j195 =>
 GW true x91 (LDN (nat_lit 4) x3 h9 fun x196 =>
 j195 x196 h9)
 (j195 undefA h9)
noncomputable def B123x198 (x7 : AV) (cl : CL) (x0 : AV) (h9 : Heap) (x5 : AV) (kr : KR) (kp : KP) (fu : Nat) (x3 : AV) : Ans := EQL Pr 5 true x7 (.int .u8 (nat_lit 34)) fun x81 =>
 IFB x81 (cl (nat_lit 182) [x0] h9 (fun x82 h83 =>
 EX (nat_lit 0) x82 fun x86 =>
 EX (nat_lit 1) x82 fun x87 =>
 OV (buildA Pr 114 [((nat_lit 0), (.int .i64 (nat_lit 2))), ((nat_lit 1), x86)]) fun x88 =>
 ST (nat_lit 4) x5 x88 h83 fun h89 =>
 LDN (nat_lit 4) x5 h89 fun x90 =>
 kr (.tuple [x90, x87]) h89) kp)
 (B123x197 x7 cl x0 x5 kr kp fu x3 h9)
noncomputable def F123 (fu : Nat) (oR : FuncId → List AV → Option AV) (cl : CL) (args : List AV) (h2 : Heap) (kr : KR) (kp : KP) : Ans := AR2 args fun x0 x1 =>
 BOX 114 x1 h2 fun x3 h4 =>
 NEWC (.n (some (.int .i64 (nat_lit 0))) (.n (some (.str (nat_lit 0) (nat_lit 0))) (.n (some (.int .i64 (nat_lit 0))) .e .e) .e) (.n (some (.int .i64 (nat_lit 0))) .e .e)) (nat_lit 4) 114 h4 fun x5 h6 =>
 SAT x0 (.int .i64 (nat_lit 0)) fun x7 =>
 cl (nat_lit 180) [x7] h6 (fun x8 h9 =>
 IFB x8 (B123x80 cl x0 h9 x5 kr kp)
 (B123x198 x7 cl x0 h9 x5 kr kp fu x3)) kp

theorem eqF123 : F123 = fun fu oR => compF Pr fu oR 123 2 := by kernel_rfl

noncomputable def B124x89 (x5 : AV) (h69 : Heap) (cl : CL) (x0 : AV) (j61 : Heap → Ans) (kp : KP) : Ans := FA (nat_lit 2) x5 fun x70 =>
 LD x70 h69 fun x71 =>
 BSL (nat_lit 3) (nat_lit 1) [(.int .i64 (nat_lit 0))] (nat_lit 1) [((nat_lit 0), (.int .i64 (nat_lit 4)))] h69 fun x72 h73 =>
 LD x70 h73 fun x74 =>
 EQV x71 x74 <|
 cl (nat_lit 191) [x0, x72] h73 (fun x75 h76 =>
 LD x70 h76 fun x79 =>
 EQV x71 x79 <|
 BSL (nat_lit 9) (nat_lit 1) [(.str (nat_lit 0) (nat_lit 0))] (nat_lit 1) [((nat_lit 0), x75)] h76 fun x80 h81 =>
 LD x70 h81 fun x82 =>
 EQV x71 x82 <|
 GEN (builtinF .append Pr [43, 43] [x71, x80] h81) cl (fun x83 h84 =>
 FA (nat_lit 2) x5 fun x87 =>
 ST (nat_lit 1) x87 x83 h84 fun h88 =>
 j61  h88) kp) kp
noncomputable def B124x106 (h60 : Heap) (cl : CL) (x0 : AV) (x5 : AV) (j61 : Heap → Ans) (kp : KP) (j18 : Heap → Ans) : Ans := BSL (nat_lit 9) (nat_lit 1) [(.str (nat_lit 0) (nat_lit 0))] (nat_lit 1) [((nat_lit 0), (.str (nat_lit 1) (nat_lit 41)))] h60 fun x62 h63 =>
 cl (nat_lit 193) [x0, x62] h63 (fun x64 h65 =>
 OV (unOpA .not x64) fun x68 =>
 IFB x68 (JO (fun h69 =>
 B124x89 x5 h69 cl x0 j61 kp) fun j90 =>
 FA (nat_lit 2) x5 fun x91 =>
 LD x91 h65 fun x92 =>
 LENS x92 fun x93 =>
 GTR Pr 3 true x93 (.int .i64 (nat_lit 0)) fun x94 =>
 IFB x94 (cl (nat_lit 192) [x0, (.str (nat_lit 1) (nat_lit 44))] h65 (fun x95 h96 =>
 j90  h96) kp)
 (j90  h65))
 (NC x0 fun x99 =>
 FA (nat_lit 1) x99 fun x100 =>
 LD x100 h65 fun x101 =>
 ADD Pr 3 true x101 (.int .i64 (nat_lit 1)) fun x102 =>
 NC x0 fun x103 =>
 FA (nat_lit 1) x103 fun x104 =>
 ST (nat_lit 1) x104 x102 h65 fun h105 =>
 j18  h105)) kp
noncomputable def B124x107 (x0 : AV) (h36 : Heap) (cl : CL) (x5 : AV) (fu : Nat) (kp : KP) (j18 : Heap → Ans) : Ans := NC x0 fun x39 =>
 FA (nat_lit 1) x39 fun x40 =>
 LD x40 h36 fun x41 =>
 ADD Pr 3 true x41 (.int .i64 (nat_lit 1)) fun x42 =>
 NC x0 fun x43 =>
 FA (nat_lit 1) x43 fun x44 =>
 ST (nat_lit 1) x44 x42 h36 fun h45 =>
 BSL (nat_lit 3) (nat_lit 1) [(.int .i64 (nat_lit 0)), (.int .i64 (nat_lit 0))] (nat_lit 2) [((nat_lit 0), (.int .i64 (nat_lit 4))), ((nat_lit 1), (.int .i64 (nat_lit 5)))] h45 fun x46 h47 =>
 cl (nat_lit 191) [x0, x46] h47 (fun x48 h49 =>
 FA (nat_lit 0) x5 fun x52 =>
 ST (nat_lit 1) x52 (.int .i64 (nat_lit 4)) h49 fun h53 =>
 FA (nat_lit 1) x5 fun x54 =>
 ST (nat_lit 1) x54 x48 h53 fun h55 =>
 cl (nat_lit 192) [x0, (.str (nat_lit 1) (nat_lit 40))] h55 (fun x56 h57 =>
 LP fu (fun _ => Ans.no) (fun j61 h60 =>
 B124x106 h60 cl x0 x5 j61 kp j18)  h57) kp) kp
noncomputable def B124x124 (h36 : Heap) (cl : CL) (x0 : AV) (x5 : AV) (j18 : Heap → Ans) (kp : KP) : Ans := BSL (nat_lit 9) (nat_lit 1) [(.str (nat_lit 0) (nat_lit 0))] (nat_lit 1) [((nat_lit 0), (.str (nat_lit 1) (nat_lit 123)))] h36 fun x108 h109 =>
 cl (nat_lit 193) [x0, x108] h109 (fun x110 h111 =>
 IFB x110 (FA (nat_lit 0) x5 fun x114 =>
 ST (nat_lit 1) x114 (.int .i64 (nat_lit 2)) h111 fun h115 =>
 j18  h115)
 (cl (nat_lit 194) [x0] h111 (fun x116 h117 =>
 FA (nat_lit 0) x5 fun x120 =>
 ST (nat_lit 1) x120 (.int .i64 (nat_lit 3)) h117 fun h121 =>
 FA (nat_lit 3) x5 fun x122 =>
 ST (nat_lit 1) x122 x116 h121 fun h123 =>
 j18  h123) kp)) kp
noncomputable def F124 (fu : Nat) (oR : FuncId → List AV → Option AV) (cl : CL) (args : List AV) (h1 : Heap) (kr : KR) (kp : KP) : Ans := AR1 args fun x0 =>
 NEWC (.n (some (.int .i64 (nat_lit 0))) (.n (some (.str (nat_lit 0) (nat_lit 0))) (.n (some (.int .i64 (nat_lit 0))) .e .e) .e) (.n (some (.nilslice)) (.n (some (.int .i64 (nat_lit 0))) .e .e) .e)) (nat_lit 5) 58 h1 fun x2 h3 =>
 OV (buildA Pr 58 [((nat_lit 3), (.int .i64 (nat_lit 18446744073709551615)))]) fun x4 =>
 NEWC (.n (some (.int .i64 (nat_lit 0))) (.n (some (.str (nat_lit 0) (nat_lit 0))) (.n (some (.int .i64 (nat_lit 0))) .e .e) .e) (.n (some (.nilslice)) (.n (some (.int .i64 (nat_lit 0))) .e .e) .e)) (nat_lit 5) 58 h3 fun x5 h6 =>
 ST (nat_lit 5) x5 x4 h6 fun h7 =>
 JO (fun h8 =>
 cl (nat_lit 195) [x0] h8 (fun x9 h10 =>
 FA (nat_lit 4) x5 fun x13 =>
 ST (nat_lit 1) x13 x9 h10 fun h14 =>
 LDN (nat_lit 5) x5 h14 fun x15 =>
 ST (nat_lit 5) x2 x15 h14 fun h16 =>
 LDN (nat_lit 5) x2 h16 fun x17 =>
 kr x17 h16) kp) fun j18 =>
 BSL (nat_lit 9) (nat_lit 1) [(.str (nat_lit 0) (nat_lit 0)), (.str (nat_lit 0) (nat_lit 0))] (nat_lit 2) [((nat_lit 0), (.str (nat_lit 5) (nat_lit 336236856642))), ((nat_lit 1), (.str (nat_lit 3) (nat_lit 4476485)))] h7 fun x19 h20 =>
 cl (nat_lit 189) [x0, x19] h20 (fun x21 h22 =>
 IFB x21 (cl (nat_lit 190) [x0] h22 (fun x25 h26 =>
 OV (fieldA Pr 114 x25 1) fun x29 =>
 EQL Pr 9 true x29 (.str (nat_lit 3) (nat_lit 4476485)) fun x30 =>
 IFB x30 (FA (nat_lit 0) x5 fun x31 =>
 ST (nat_lit 1) x31 (.int .i64 (nat_lit 1)) h26 fun h32 =>
 j18  h32)
 (j18  h26)) kp)
 (BSL (nat_lit 9) (nat_lit 1) [(.str (nat_lit 0) (nat_lit 0))] (nat_lit 1) [((nat_lit 0), (.str (nat_lit 8) (nat_lit 7957695015192261990)))] h22 fun x33 h34 =>
 cl (nat_lit 189) [x0, x33] h34 (fun x35 h36 =>
 IFB x35 (B124x107 x0 h36 cl x5 fu kp j18)
 (B124x124 h36 cl x0 x5 j18 kp)) kp)) kp

theorem eqF124 : F124 = fun fu oR => compF Pr fu oR 124 1 := by kernel_rfl

noncomputable def B125x29 (x0 : AV) (h5 : Heap) (x1 : AV) (x3 : AV) (kr : KR) : Ans := NC x0 fun x6 =>
 FA (nat_lit 12) x6 fun x7 =>
 FA (nat_lit 3) x7 fun x8 =>
 LD x8 h5 fun x9 =>
 SUB Pr 3 true x9 (.int .i64 (nat_lit 1)) fun x10 =>
 NC x0 fun x11 =>
 FA (nat_lit 12) x11 fun x12 =>
 FA (nat_lit 3) x12 fun x13 =>
 ST (nat_lit 1) x13 x10 h5 fun h14 =>
 NC x0 fun x15 =>
 FA (nat_lit 12) x15 fun x16 =>
 FA (nat_lit 5) x16 fun x17 =>
 LD x17 h14 fun x18 =>
 SA (nat_lit 1) x18 x1 fun x19 =>
 ST (nat_lit 1) x19 (.bool true) h14 fun h20 =>
 NC x0 fun x21 =>
 FA (nat_lit 0) x21 fun x22 =>
 FA (nat_lit 0) x22 fun x23 =>
 LD x23 h20 fun x24 =>
 SA (nat_lit 5) x24 x1 fun x25 =>
 LDN (nat_lit 5) x25 h20 fun x26 =>
 ST (nat_lit 5) x3 x26 h20 fun h27 =>
 LDN (nat_lit 5) x3 h27 fun x28 =>
 kr x28 h27
noncomputable def F125 (fu : Nat) (oR : FuncId → List AV → Option AV) (cl : CL) (args : List AV) (h2 : Heap) (kr : KR) (kp : KP) : Ans := AR2 args fun x0 x1 =>
 NEWC (.n (some (.int .i64 (nat_lit 0))) (.n (some (.str (nat_lit 0) (nat_lit 0))) (.n (some (.int .i64 (nat_lit 0))) .e .e) .e) (.n (some (.str (nat_lit 0) (nat_lit 0))) (.n (some (.nilslice)) .e .e) .e)) (nat_lit 5) 92 h2 fun x3 h4 =>
 JO (fun h5 =>
 B125x29 x0 h5 x1 x3 kr) fun j30 =>
 NC x0 fun x31 =>
 FA (nat_lit 12) x31 fun x32 =>
 FA (nat_lit 3) x32 fun x33 =>
 LD x33 h4 fun x34 =>
 EQL Pr 3 true x34 (.int .i64 (nat_lit 0)) fun x35 =>
 IFB x35 (GEN (panA (.iface (nat_lit 71) (.int .i64 (nat_lit 1))) h4) cl (fun x36 h37 =>
 j30  h37) kp)
 (j30  h4)

theorem eqF125 : F125 = fun fu oR => compF Pr fu oR 125 2 := by kernel_rfl

noncomputable def F126 (fu : Nat) (oR : FuncId → List AV → Option AV) (cl : CL) (args : List AV) (h1 : Heap) (kr : KR) (kp : KP) : Ans := AR1 args fun x0 =>
 NEWC (.n (some (.int .i64 (nat_lit 0))) (.n (some (.int .i64 (nat_lit 0))) .e .e) (.n (some (.str (nat_lit 0) (nat_lit 0))) .e .e)) (nat_lit 3) 54 h1 fun x2 h3 =>
 OV (buildA Pr 54 [((nat_lit 0), (.int .i64 (nat_lit 1))), ((nat_lit 1), x0)]) fun x4 =>
 ST (nat_lit 3) x2 x4 h3 fun h5 =>
 LDN (nat_lit 3) x2 h5 fun x6 =>
 kr x6 h5

theorem eqF126 : F126 = fun fu oR => compF Pr fu oR 126 1 := by kernel_rfl

noncomputable def F127 (fu : Nat) (oR : FuncId → List AV → Option AV) (cl : CL) (args : List AV) (h1 : Heap) (kr : KR) (kp : KP) : Ans := AR1 args fun x0 =>
 NEWC (.n (some (.int .i64 (nat_lit 0))) (.n (some (.int .i64 (nat_lit 0))) .e .e) (.n (some (.str (nat_lit 0) (nat_lit 0))) .e .e)) (nat_lit 3) 54 h1 fun x2 h3 =>
 JO (fun h4 =>
 OV (buildA Pr 54 [((nat_lit 0), (.int .i64 (nat_lit 2))), ((nat_lit 2), x0)]) fun x5 =>
 ST (nat_lit 3) x2 x5 h4 fun h6 =>
 LDN (nat_lit 3) x2 h6 fun x7 =>
 kr x7 h6) fun j8 =>
 LENT x0 fun x9 =>
 GTR Pr 3 true x9 (.int .i64 (nat_lit 500)) fun x10 =>
 IFB x10 (GEN (panA (.iface (nat_lit 71) (.int .i64 (nat_lit 5))) h3) cl (fun x11 h12 =>
 j8  h12) kp)
 (j8  h3)

theorem eqF127 : F127 = fun fu oR => compF Pr fu oR 127 1 := by kernel_rfl

noncomputable def F128 (fu : Nat) (oR : FuncId → List AV → Option AV) (cl : CL) (args : List AV) (h1 : Heap) (kr : KR) (kp : KP) : Ans := AR1 args fun x0 =>
 NEWC (.n (some (.int .i64 (nat_lit 0))) (.n (some (.int .i64 (nat_lit 0))) .e .e) (.n (some (.str (nat_lit 0) (nat_lit 0))) .e .e)) (nat_lit 3) 54 h1 fun x2 h3 =>
 IFB x0 (cl (nat_lit 196) [(.int .i64 (nat_lit 1))] h3 (fun x4 h5 =>
 ST (nat_lit 3) x2 x4 h5 fun h8 =>
 LDN (nat_lit 3) x2 h8 fun x9 =>
 kr x9 h8) kp)
 (cl (nat_lit 196) [(.int .i64 (nat_lit 0))] h3 (fun x10 h11 =>
 ST (nat_lit 3) x2 x10 h11 fun h14 =>
 LDN (nat_lit 3) x2 h14 fun x15 =>
 kr x15 h14) kp)

theorem eqF128 : F128 = fun fu oR => compF Pr fu oR 128 1 := by kernel_rfl

noncomputable def B130x34 (x3 : AV) (h9 : Heap) (x0 : AV) (cl : CL) (x5 : AV) (kr : KR) (kp : KP) : Ans := FA (nat_lit 1) x3 fun x12 =>
 LD x12 h9 fun x13 =>
 EQL Pr 9 true x13 (.str (nat_lit 2) (nat_lit 21070)) fun x14 =>
 IFB x14 (NC x0 fun x15 =>
 FA (nat_lit 8) x15 fun x16 =>
 LD x16 h9 fun x17 =>
 cl (nat_lit 196) [x17] h9 (fun x18 h19 =>
 ST (nat_lit 3) x5 x18 h19 fun h22 =>
 LDN (nat_lit 3) x5 h22 fun x23 =>
 kr x23 h22) kp)
 (NC x0 fun x24 =>
 FA (nat_lit 7) x24 fun x25 =>
 LD x25 h9 fun x26 =>
 LENS x26 fun x27 =>
 cl (nat_lit 196) [x27] h9 (fun x28 h29 =>
 ST (nat_lit 3) x5 x28 h29 fun h32 =>
 LDN (nat_lit 3) x5 h32 fun x33 =>
 kr x33 h32) kp)
noncomputable def B130x57 (x3 : AV) (h9 : Heap) (cl : CL) (x0 : AV) (x5 : AV) (kr : KR) (kp : KP) : Ans := LDN (nat_lit 3) x3 h9 fun x35 =>
 cl (nat_lit 200) [x0, x35] h9 (fun x36 h37 =>
 cl (nat_lit 201) [x36] h37 (fun x40 h41 =>
 NEWC (.n (some (.int .i64 (nat_lit 0))) (.n (some (.int .i64 (nat_lit 0))) .e .e) (.n (some (.str (nat_lit 0) (nat_lit 0))) .e .e)) (nat_lit 3) 54 h41 fun x44 h45 =>
 ST (nat_lit 3) x44 x40 h45 fun h46 =>
 LDN (nat_lit 3) x3 h46 fun x47 =>
 FA (nat_lit 0) x44 fun x48 =>
 LD x48 h46 fun x49 =>
 cl (nat_lit 202) [x0, x47, (.int .i64 (nat_lit 0)), x49] h46 (fun x50 h51 =>
 LDN (nat_lit 3) x44 h51 fun x54 =>
 ST (nat_lit 3) x5 x54 h51 fun h55 =>
 LDN (nat_lit 3) x5 h55 fun x56 =>
 kr x56 h55) kp) kp) kp
noncomputable def F130 (fu : Nat) (oR : FuncId → List AV → Option AV) (cl : CL) (args : List AV) (h2 : Heap) (kr : KR) (kp : KP) : Ans := AR2 args fun x0 x1 =>
 BOX 171 x1 h2 fun x3 h4 =>
 NEWC (.n (some (.int .i64 (nat_lit 0))) (.n (some (.int .i64 (nat_lit 0))) .e .e) (.n (some (.str (nat_lit 0) (nat_lit 0))) .e .e)) (nat_lit 3) 54 h4 fun x5 h6 =>
 LDN (nat_lit 3) x3 h6 fun x7 =>
 cl (nat_lit 199) [x7] h6 (fun x8 h9 =>
 IFB x8 (B130x34 x3 h9 x0 cl x5 kr kp)
 (B130x57 x3 h9 cl x0 x5 kr kp)) kp

theorem eqF130 : F130 = fun fu oR => compF Pr fu oR 130 2 := by kernel_rfl

noncomputable def B131x34 (x16 : AV) (x23 : AV) (x11 : AV) (h24 : Heap) (x2 : AV) (x4 : AV) (kr : KR) : Ans := SEL x16 x23 (.bool false) fun x25 =>
 IFB x25 (FA (nat_lit 1) x11 fun x26 =>
 LD x26 h24 fun x27 =>
 OV (buildA Pr 171 [((nat_lit 0), x27), ((nat_lit 1), x2)]) fun x28 =>
 ST (nat_lit 3) x4 x28 h24 fun h29 =>
 LDN (nat_lit 3) x4 h29 fun x30 =>
 kr x30 h29)
 (OV (buildA Pr 171 [((nat_lit 1), x2)]) fun x31 =>
 ST (nat_lit 3) x4 x31 h24 fun h32 =>
 LDN (nat_lit 3) x4 h32 fun x33 =>
 kr x33 h32)
noncomputable def B131x43 (x16 : AV) (x11 : AV) (x2 : AV) (x4 : AV) (kr : KR) (cl : CL) (kp : KP) (x17 : AV) (h18 : Heap) : Ans := JO (fun x19 h20 =>
 JO (fun x21 h22 =>
 JO (fun x23 h24 =>
 B131x34 x16 x23 x11 h24 x2 x4 kr) fun j35 =>
 GW true x16 (cl (nat_lit 203) [x19, x21] h22 (fun x36 h37 =>
 j35 x36 h37) kp)
 (j35 undefA h22)) fun j40 =>
 GW true x16 (j40 x2 h20)
 (j40 undefA h20)) fun j41 =>
 GW true x16 (LD x17 h18 fun x42 =>
 j41 x42 h18)
 (j41 undefA h18)
noncomputable def F131 (fu : Nat) (oR : FuncId → List AV → Option AV) (cl : CL) (args : List AV) (h3 : Heap) (kr : KR) (kp : KP) : Ans := AR3 args fun x0 x1 x2 =>
 NEWC (.n (some (.str (nat_lit 0) (nat_lit 0))) (.n (some (.str (nat_lit 0) (nat_lit 0))) .e .e) (.n (some (.int .i64 (nat_lit 0))) .e .e)) (nat_lit 3) 171 h3 fun x4 h5 =>
 NC x0 fun x6 =>
 FA (nat_lit 2) x6 fun x7 =>
 LD x7 h5 fun x8 =>
 SA (nat_lit 5) x8 x1 fun x9 =>
 LDN (nat_lit 5) x9 h5 fun x10 =>
 NEWC (.n (some (.int .i64 (nat_lit 0))) (.n (some (.str (nat_lit 0) (nat_lit 0))) (.n (some (.int .i64 (nat_lit 0))) .e .e) .e) (.n (some (.nilslice)) (.n (some (.int .i64 (nat_lit 0))) .e .e) .e)) (nat_lit 5) 58 h5 fun x11 h12 =>
 ST (nat_lit 5) x11 x10 h12 fun h13 =>
 FA (nat_lit 0) x11 fun x14 =>
 LD x14 h13 fun x15 =>
 EQL Pr 3 true x15 (.int .i64 (nat_lit 4)) fun x16 =>
 JO (fun x17 h18 =>
 B131x43 x16 x11 x2 x4 kr cl kp x17 h18) fun j44 =>
 GW true x16 (FA (nat_lit 2) x11 fun x45 =>
 j44 x45 h13)
 (j44 undefA h13)

theorem eqF131 : F131 = fun fu oR => compF Pr fu oR 131 3 := by kernel_rfl

noncomputable def B132x35 (x0 : AV) (h20 : Heap) (x1 : AV) (cl : CL) (x3 : AV) (kr : KR) (kp : KP) : Ans := NC x0 fun x23 =>
 FA (nat_lit 7) x23 fun x24 =>
 LD x24 h20 fun x25 =>
 SUB Pr 3 true x1 (.int .i64 (nat_lit 1)) fun x26 =>
 SA (nat_lit 1) x25 x26 fun x27 =>
 LD x27 h20 fun x28 =>
 cl (nat_lit 204) [x28] h20 (fun x29 h30 =>
 ST (nat_lit 3) x3 x29 h30 fun h33 =>
 LDN (nat_lit 3) x3 h33 fun x34 =>
 kr x34 h33) kp
noncomputable def B132x48 (cl : CL) (x1 : AV) (h20 : Heap) (x3 : AV) (kr : KR) (kp : KP) : Ans := cl (nat_lit 23) [x1, (.int .i64 (nat_lit 1)), (.int .i64 (nat_lit 50))] h20 (fun x36 h37 =>
 IFB x36 (OV (buildA Pr 54 []) fun x40 =>
 ST (nat_lit 3) x3 x40 h37 fun h41 =>
 LDN (nat_lit 3) x3 h41 fun x42 =>
 kr x42 h41)
 (GEN (panA (.iface (nat_lit 71) (.int .i64 (nat_lit 5))) h37) cl (fun x43 h44 =>
 LDN (nat_lit 3) x3 h44 fun x47 =>
 kr x47 h44) kp)) kp
noncomputable def F132 (fu : Nat) (oR : FuncId → List AV → Option AV) (cl : CL) (args : List AV) (h2 : Heap) (kr : KR) (kp : KP) : Ans := AR2 args fun x0 x1 =>
 NEWC (.n (some (.int .i64 (nat_lit 0))) (.n (some (.int .i64 (nat_lit 0))) .e .e) (.n (some (.str (nat_lit 0) (nat_lit 0))) .e .e)) (nat_lit 3) 54 h2 fun x3 h4 =>
 EQL Pr 3 true x1 (.int .i64 (nat_lit 0)) fun x5 =>
 IFB x5 (NC x0 fun x6 =>
 FA (nat_lit 6) x6 fun x7 =>
 LD x7 h4 fun x8 =>
 cl (nat_lit 204) [x8] h4 (fun x9 h10 =>
 ST (nat_lit 3) x3 x9 h10 fun h13 =>
 LDN (nat_lit 3) x3 h13 fun x14 =>
 kr x14 h13) kp)
 (NC x0 fun x15 =>
 FA (nat_lit 7) x15 fun x16 =>
 LD x16 h4 fun x17 =>
 LENS x17 fun x18 =>
 cl (nat_lit 23) [x1, (.int .i64 (nat_lit 1)), x18] h4 (fun x19 h20 =>
 IFB x19 (B132x35 x0 h20 x1 cl x3 kr kp)
 (B132x48 cl x1 h20 x3 kr kp)) kp)

theorem eqF132 : F132 = fun fu oR => compF Pr fu oR 132 2 := by kernel_rfl

noncomputable def F133 (fu : Nat) (oR : FuncId → List AV → Option AV) (cl : CL) (args : List AV) (h1 : Heap) (kr : KR) (kp : KP) : Ans := AR1 args fun x0 =>
 BOX 54 x0 h1 fun x2 h3 =>
 LDN (nat_lit 3) x2 h3 fun x4 =>
 cl (nat_lit 206) [x4] h3 (fun x5 h6 =>
 cl (nat_lit 205) [x5] h6 (fun x9 h10 =>
 BOP Pr .quo 3 true x9 (.int .i64 (nat_lit 1000000)) fun x13 =>
 kr x13 h10) kp) kp

theorem eqF133 : F133 = fun fu oR => compF Pr fu oR 133 1 := by kernel_rfl

noncomputable def F134 (fu : Nat) (oR : FuncId → List AV → Option AV) (cl : CL) (args : List AV) (h1 : Heap) (kr : KR) (kp : KP) : Ans := AR1 args fun x0 =>
 BOX 54 x0 h1 fun x2 h3 =>
 FA (nat_lit 0) x2 fun x4 =>
 LD x4 h3 fun x5 =>
 EQL Pr 3 true x5 (.int .i64 (nat_lit 1)) fun x6 =>
 IFB x6 (FA (nat_lit 1) x2 fun x7 =>
 LD x7 h3 fun x8 =>
 cl (nat_lit 115) [x8] h3 (fun x9 h10 =>
 kr x9 h10) kp)
 (FA (nat_lit 2) x2 fun x13 =>
 LD x13 h3 fun x14 =>
 kr x14 h3)

theorem eqF134 : F134 = fun fu oR => compF Pr fu oR 134 1 := by kernel_rfl

noncomputable def B137x53 (x11 : AV) (h30 : Heap) (cl : CL) (x0 : AV) (x18 : AV) (j37 : Heap → Ans) (kp : KP) : Ans := FA (nat_lit 4) x11 fun x39 =>
 LD x39 h30 fun x40 =>
 SA (nat_lit 1) x40 (.int .i64 (nat_lit 0)) fun x41 =>
 LD x41 h30 fun x42 =>
 cl (nat_lit 77) [x0, x42] h30 (fun x43 h44 =>
 cl (nat_lit 133) [x43] h44 (fun x47 h48 =>
 FA (nat_lit 5) x18 fun x51 =>
 ST (nat_lit 1) x51 x47 h48 fun h52 =>
 j37  h52) kp) kp
noncomputable def B137x69 (x11 : AV) (h30 : Heap) (cl : CL) (x0 : AV) (x18 : AV) (j37 : Heap → Ans) (kp : KP) : Ans := FA (nat_lit 4) x11 fun x55 =>
 LD x55 h30 fun x56 =>
 SA (nat_lit 1) x56 (.int .i64 (nat_lit 0)) fun x57 =>
 LD x57 h30 fun x58 =>
 cl (nat_lit 77) [x0, x58] h30 (fun x59 h60 =>
 cl (nat_lit 134) [x59] h60 (fun x63 h64 =>
 FA (nat_lit 4) x18 fun x67 =>
 ST (nat_lit 1) x67 x63 h64 fun h68 =>
 j37  h68) kp) kp
noncomputable def F137 (fu : Nat) (oR : FuncId → List AV → Option AV) (cl : CL) (args : List AV) (h2 : Heap) (kr : KR) (kp : KP) : Ans := AR2 args fun x0 x1 =>
 NEWC (.n (some (.int .i64 (nat_lit 0))) (.n (some (.str (nat_lit 0) (nat_lit 0))) (.n (some (.int .i64 (nat_lit 0))) .e .e) (.n (some (.int .i64 (nat_lit 0))) .e .e)) (.n (some (.str (nat_lit 0) (nat_lit 0))) (.n (some (.str (nat_lit 0) (nat_lit 0))) .e .e) .e)) (nat_lit 6) 180 h2 fun x3 h4 =>
 NC x0 fun x5 =>
 FA (nat_lit 0) x5 fun x6 =>
 FA (nat_lit 0) x6 fun x7 =>
 LD x7 h4 fun x8 =>
 SA (nat_lit 5) x8 x1 fun x9 =>
 LDN (nat_lit 5) x9 h4 fun x10 =>
 NEWC (.n (some (.int .i64 (nat_lit 0))) (.n (some (.str (nat_lit 0) (nat_lit 0))) (.n (some (.int .i64 (nat_lit 0))) .e .e) .e) (.n (some (.str (nat_lit 0) (nat_lit 0))) (.n (some (.nilslice)) .e .e) .e)) (nat_lit 5) 92 h4 fun x11 h12 =>
 ST (nat_lit 5) x11 x10 h12 fun h13 =>
 FA (nat_lit 0) x11 fun x14 =>
 LD x14 h13 fun x15 =>
 FA (nat_lit 1) x11 fun x16 =>
 LD x16 h13 fun x17 =>
 NEWC (.n (some (.int .i64 (nat_lit 0))) (.n (some (.str (nat_lit 0) (nat_lit 0))) (.n (some (.int .i64 (nat_lit 0))) .e .e) (.n (some (.int .i64 (nat_lit 0))) .e .e)) (.n (some (.str (nat_lit 0) (nat_lit 0))) (.n (some (.str (nat_lit 0) (nat_lit 0))) .e .e) .e)) (nat_lit 6) 180 h13 fun x18 h19 =>
 NEWB h13 h19 fun b20 i21 h22 =>
 cl (nat_lit 131) [x0, x1, x17] h22 (fun x23 h24 =>
 LD x14 h24 fun x27 =>
 EQV x15 x27 <|
 OV (buildA Pr 180 [((nat_lit 0), x15), ((nat_lit 1), x23)]) fun x28 =>
 SETB h24 i21 b20 fun h29 =>
 ST (nat_lit 6) x18 x28 h29 fun h30 =>
 FA (nat_lit 0) x11 fun x31 =>
 LD x31 h30 fun x32 =>
 JO (fun h33 =>
 LDN (nat_lit 6) x18 h33 fun x34 =>
 ST (nat_lit 6) x3 x34 h33 fun h35 =>
 LDN (nat_lit 6) x3 h35 fun x36 =>
 kr x36 h35) fun j37 =>
 EQL Pr 3 true x32 (.int .i64 (nat_lit 4)) fun x38 =>
 IFB x38 (B137x53 x11 h30 cl x0 x18 j37 kp)
 (EQL Pr 3 true x32 (.int .i64 (nat_lit 5)) fun x54 =>
 IFB x54 (B137x69 x11 h30 cl x0 x18 j37 kp)
 (j37  h30))) kp

theorem eqF137 : F137 = fun fu oR => compF Pr fu oR 137 2 := by kernel_rfl

noncomputable def B138x44 (x4 : AV) (h9 : Heap) (x6 : AV) (cl : CL) (x0 : AV) (j16 : Heap → Ans) (kp : KP) : Ans := FA (nat_lit 1) x4 fun x26 =>
 LDN (nat_lit 3) x26 h9 fun x27 =>
 FA (nat_lit 1) x4 fun x28 =>
 LDN (nat_lit 3) x28 h9 fun x29 =>
 FA (nat_lit 4) x4 fun x30 =>
 LD x30 h9 fun x31 =>
 LDN (nat_lit 3) x6 h9 fun x32 =>
 cl (nat_lit 136) [x0, x29] h9 (fun x33 h34 =>
 LDN (nat_lit 3) x6 h34 fun x37 =>
 EQV x32 x37 <|
 LD x30 h34 fun x38 =>
 EQV x31 x38 <|
 LDN (nat_lit 3) x26 h34 fun x39 =>
 EQV x27 x39 <|
 cl (nat_lit 207) [x0, x27, x33, x31, x32] h34 (fun x40 h41 =>
 j16  h41) kp) kp
noncomputable def F138 (fu : Nat) (oR : FuncId → List AV → Option AV) (cl : CL) (args : List AV) (h3 : Heap) (kr : KR) (kp : KP) : Ans := AR3 args fun x0 x1 x2 =>
 BOX 180 x1 h3 fun x4 h5 =>
 BOX 54 x2 h5 fun x6 h7 =>
 NEWC (.n (some (.int .i64 (nat_lit 0))) (.n (some (.int .i64 (nat_lit 0))) .e .e) (.n (some (.str (nat_lit 0) (nat_lit 0))) .e .e)) (nat_lit 3) 54 h7 fun x8 h9 =>
 FA (nat_lit 0) x4 fun x10 =>
 LD x10 h9 fun x11 =>
 JO (fun h12 =>
 LDN (nat_lit 3) x6 h12 fun x13 =>
 ST (nat_lit 3) x8 x13 h12 fun h14 =>
 LDN (nat_lit 3) x8 h14 fun x15 =>
 kr x15 h14) fun j16 =>
 EQL Pr 3 true x11 (.int .i64 (nat_lit 4)) fun x17 =>
 IFB x17 (FA (nat_lit 5) x4 fun x18 =>
 LD x18 h9 fun x19 =>
 LDN (nat_lit 3) x6 h9 fun x20 =>
 cl (nat_lit 209) [x0, x19, x20] h9 (fun x21 h22 =>
 j16  h22) kp)
 (EQL Pr 3 true x11 (.int .i64 (nat_lit 5)) fun x25 =>
 IFB x25 (B138x44 x4 h9 x6 cl x0 j16 kp)
 (FA (nat_lit 1) x4 fun x45 =>
 LDN (nat_lit 3) x45 h9 fun x46 =>
 LDN (nat_lit 3) x6 h9 fun x47 =>
 cl (nat_lit 145) [x0, x46, x47] h9 (fun x48 h49 =>
 j16  h49) kp))

theorem eqF138 : F138 = fun fu oR => compF Pr fu oR 138 3 := by kernel_rfl

noncomputable def B139x37 (x8 : AV) (x3 : AV) (h6 : Heap) (cl : CL) (x0 : AV) (x5 : AV) (kr : KR) (kp : KP) : Ans := EQL Pr 3 true x8 (.int .i64 (nat_lit 5)) fun x18 =>
 IFB x18 (FA (nat_lit 1) x3 fun x19 =>
 LDN (nat_lit 3) x19 h6 fun x20 =>
 FA (nat_lit 4) x3 fun x21 =>
 LD x21 h6 fun x22 =>
 cl (nat_lit 135) [x0, x20, x22] h6 (fun x23 h24 =>
 ST (nat_lit 3) x5 x23 h24 fun h27 =>
 LDN (nat_lit 3) x5 h27 fun x28 =>
 kr x28 h27) kp)
 (FA (nat_lit 1) x3 fun x29 =>
 LDN (nat_lit 3) x29 h6 fun x30 =>
 cl (nat_lit 130) [x0, x30] h6 (fun x31 h32 =>
 ST (nat_lit 3) x5 x31 h32 fun h35 =>
 LDN (nat_lit 3) x5 h35 fun x36 =>
 kr x36 h35) kp)
noncomputable def F139 (fu : Nat) (oR : FuncId → List AV → Option AV) (cl : CL) (args : List AV) (h2 : Heap) (kr : KR) (kp : KP) : Ans := AR2 args fun x0 x1 =>
 BOX 180 x1 h2 fun x3 h4 =>
 NEWC (.n (some (.int .i64 (nat_lit 0))) (.n (some (.int .i64 (nat_lit 0))) .e .e) (.n (some (.str (nat_lit 0) (nat_lit 0))) .e .e)) (nat_lit 3) 54 h4 fun x5 h6 =>
 FA (nat_lit 0) x3 fun x7 =>
 LD x7 h6 fun x8 =>
 EQL Pr 3 true x8 (.int .i64 (nat_lit 4)) fun x9 =>
 IFB x9 (FA (nat_lit 5) x3 fun x10 =>
 LD x10 h6 fun x11 =>
 cl (nat_lit 132) [x0, x11] h6 (fun x12 h13 =>
 ST (nat_lit 3) x5 x12 h13 fun h16 =>
 LDN (nat_lit 3) x5 h16 fun x17 =>
 kr x17 h16) kp)
 (B139x37 x8 x3 h6 cl x0 x5 kr kp)

theorem eqF139 : F139 = fun fu oR => compF Pr fu oR 139 2 := by kernel_rfl

noncomputable def F140 (fu : Nat) (oR : FuncId → List AV → Option AV) (cl : CL) (args : List AV) (h3 : Heap) (kr : KR) (kp : KP) : Ans := AR3 args fun x0 x1 x2 =>
 BOX 54 x1 h3 fun x4 h5 =>
 BOX 54 x2 h5 fun x6 h7 =>
 NEWC (.n (some (.int .i64 (nat_lit 0))) (.n (some (.int .i64 (nat_lit 0))) .e .e) (.n (some (.str (nat_lit 0) (nat_lit 0))) .e .e)) (nat_lit 3) 54 h7 fun x8 h9 =>
 LDN (nat_lit 3) x4 h9 fun x10 =>
 LDN (nat_lit 3) x6 h9 fun x11 =>
 cl (nat_lit 210) [x0, x10, x11] h9 (fun x12 h13 =>
 EX (nat_lit 0) x12 fun x16 =>
 EX (nat_lit 1) x12 fun x17 =>
 NEWC (.n (some (.int .i64 (nat_lit 0))) (.n (some (.int .i64 (nat_lit 0))) .e .e) (.n (some (.str (nat_lit 0) (nat_lit 0))) .e .e)) (nat_lit 3) 54 h13 fun x18 h19 =>
 ST (nat_lit 3) x18 x16 h19 fun h20 =>
 JO (fun h21 =>
 LDN (nat_lit 3) x18 h21 fun x22 =>
 ST (nat_lit 3) x8 x22 h21 fun h23 =>
 LDN (nat_lit 3) x8 h23 fun x24 =>
 kr x24 h23) fun j25 =>
 EQL Pr 3 true x17 (.int .i64 (nat_lit 2)) fun x26 =>
 IFB x26 (GEN (panA (.iface (nat_lit 71) (.int .i64 (nat_lit 3))) h20) cl (fun x27 h28 =>
 j25  h28) kp)
 (EQL Pr 3 true x17 (.int .i64 (nat_lit 1)) fun x31 =>
 IFB x31 (GEN (panA (.iface (nat_lit 71) (.int .i64 (nat_lit 2))) h20) cl (fun x32 h33 =>
 j25  h33) kp)
 (j25  h20))) kp

theorem eqF140 : F140 = fun fu oR => compF Pr fu oR 140 3 := by kernel_rfl

noncomputable def B142x31 (x11 : AV) (x13 : AV) (h15 : Heap) (cl : CL) (x0 : AV) (x14 : AV) (j16 : AV → AV → Heap → Ans) (kp : KP) : Ans := SA (nat_lit 1) x11 x13 fun x18 =>
 LD x18 h15 fun x19 =>
 cl (nat_lit 77) [x0, x19] h15 (fun x20 h21 =>
 BSL (nat_lit 54) (nat_lit 3) [(.int .i64 (nat_lit 0)), (.int .i64 (nat_lit 0)), (.str (nat_lit 0) (nat_lit 0))] (nat_lit 1) [((nat_lit 0), x20)] h21 fun x24 h25 =>
 GEN (builtinF .append Pr [189, 189] [x14, x24] h25) cl (fun x26 h27 =>
 ADD Pr 3 true x13 (.int .i64 (nat_lit 1)) fun x30 =>
 j16 x30 x26 h27) kp) kp
noncomputable def B142x52 (x4 : AV) (h35 : Heap) (x14 : AV) (cl : CL) (x6 : AV) (kr : KR) (kp : KP) : Ans := FA (nat_lit 0) x4 fun x36 =>
 LD x36 h35 fun x37 =>
 SA (nat_lit 3) x14 (.int .i64 (nat_lit 0)) fun x38 =>
 LDN (nat_lit 3) x38 h35 fun x39 =>
 SA (nat_lit 3) x14 (.int .i64 (nat_lit 1)) fun x40 =>
 LDN (nat_lit 3) x40 h35 fun x41 =>
 cl (nat_lit 213) [x37, x39, x41] h35 (fun x42 h43 =>
 cl (nat_lit 128) [x42] h43 (fun x46 h47 =>
 ST (nat_lit 3) x6 x46 h47 fun h50 =>
 LDN (nat_lit 3) x6 h50 fun x51 =>
 kr x51 h50) kp) kp
noncomputable def B142x74 (x14 : AV) (h35 : Heap) (cl : CL) (x6 : AV) (kr : KR) (kp : KP) : Ans := SA (nat_lit 3) x14 (.int .i64 (nat_lit 0)) fun x54 =>
 LDN (nat_lit 3) x54 h35 fun x55 =>
 SA (nat_lit 3) x14 (.int .i64 (nat_lit 1)) fun x56 =>
 LDN (nat_lit 3) x56 h35 fun x57 =>
 cl (nat_lit 134) [x55] h35 (fun x58 h59 =>
 LDN (nat_lit 3) x56 h59 fun x62 =>
 EQV x57 x62 <|
 cl (nat_lit 134) [x57] h59 (fun x63 h64 =>
 ADD Pr 9 false x58 x63 fun x67 =>
 cl (nat_lit 127) [x67] h64 (fun x68 h69 =>
 ST (nat_lit 3) x6 x68 h69 fun h72 =>
 LDN (nat_lit 3) x6 h72 fun x73 =>
 kr x73 h72) kp) kp) kp
noncomputable def B142x115 (x14 : AV) (h35 : Heap) (cl : CL) (x6 : AV) (kr : KR) (kp : KP) : Ans := SA (nat_lit 3) x14 (.int .i64 (nat_lit 0)) fun x102 =>
 LDN (nat_lit 3) x102 h35 fun x103 =>
 cl (nat_lit 134) [x103] h35 (fun x104 h105 =>
 LENT x104 fun x108 =>
 cl (nat_lit 196) [x108] h105 (fun x109 h110 =>
 ST (nat_lit 3) x6 x109 h110 fun h113 =>
 LDN (nat_lit 3) x6 h113 fun x114 =>
 kr x114 h113) kp) kp
noncomputable def B142x116 (x14 : AV) (x0 : AV) (h35 : Heap) (cl : CL) (x6 : AV) (kr : KR) (kp : KP) : Ans := LENS x14 fun x90 =>
 EQL Pr 3 true x90 (.int .i64 (nat_lit 0)) fun x91 =>
 IFB x91 (NC x0 fun x92 =>
 FA (nat_lit 6) x92 fun x93 =>
 LD x93 h35 fun x94 =>
 LENT x94 fun x95 =>
 cl (nat_lit 196) [x95] h35 (fun x96 h97 =>
 ST (nat_lit 3) x6 x96 h97 fun h100 =>
 LDN (nat_lit 3) x6 h100 fun x101 =>
 kr x101 h100) kp)
 (B142x115 x14 h35 cl x6 kr kp)
noncomputable def B142x143 (x14 : AV) (h119 : Heap) (cl : CL) (x118 : AV) (x6 : AV) (kr : KR) (kp : KP) : Ans := SA (nat_lit 3) x14 (.int .i64 (nat_lit 0)) fun x120 =>
 LDN (nat_lit 3) x120 h119 fun x121 =>
 SA (nat_lit 3) x14 (.int .i64 (nat_lit 1)) fun x122 =>
 LDN (nat_lit 3) x122 h119 fun x123 =>
 cl (nat_lit 134) [x121] h119 (fun x124 h125 =>
 LDN (nat_lit 3) x122 h125 fun x128 =>
 EQV x123 x128 <|
 cl (nat_lit 133) [x123] h125 (fun x129 h130 =>
 cl (nat_lit 214) [x124, x129, x118] h130 (fun x133 h134 =>
 cl (nat_lit 127) [x133] h134 (fun x137 h138 =>
 ST (nat_lit 3) x6 x137 h138 fun h141 =>
 LDN (nat_lit 3) x6 h141 fun x142 =>
 kr x142 h141) kp) kp) kp) kp
noncomputable def B142x153 (x14 : AV) (cl : CL) (x6 : AV) (kr : KR) (kp : KP) (h35 : Heap) : Ans := JO (fun x118 h119 =>
 B142x143 x14 h119 cl x118 x6 kr kp) fun j144 =>
 LENS x14 fun x145 =>
 EQL Pr 3 true x145 (.int .i64 (nat_lit 3)) fun x146 =>
 IFB x146 (SA (nat_lit 3) x14 (.int .i64 (nat_lit 2)) fun x147 =>
 LDN (nat_lit 3) x147 h35 fun x148 =>
 cl (nat_lit 133) [x148] h35 (fun x149 h150 =>
 j144 x149 h150) kp)
 (j144 (.int .i64 (nat_lit 9000000000000)) h35)
noncomputable def B142x178 (x14 : AV) (h35 : Heap) (cl : CL) (x6 : AV) (kr : KR) (kp : KP) : Ans := SA (nat_lit 3) x14 (.int .i64 (nat_lit 0)) fun x155 =>
 LDN (nat_lit 3) x155 h35 fun x156 =>
 SA (nat_lit 3) x14 (.int .i64 (nat_lit 1)) fun x157 =>
 LDN (nat_lit 3) x157 h35 fun x158 =>
 cl (nat_lit 134) [x156] h35 (fun x159 h160 =>
 LDN (nat_lit 3) x157 h160 fun x163 =>
 EQV x158 x163 <|
 cl (nat_lit 134) [x158] h160 (fun x164 h165 =>
 cl (nat_lit 215) [x159, x164] h165 (fun x168 h169 =>
 cl (nat_lit 196) [x168] h169 (fun x172 h173 =>
 ST (nat_lit 3) x6 x172 h173 fun h176 =>
 LDN (nat_lit 3) x6 h176 fun x177 =>
 kr x177 h176) kp) kp) kp) kp
noncomputable def B142x196 (x14 : AV) (h35 : Heap) (cl : CL) (x6 : AV) (kr : KR) (kp : KP) : Ans := SA (nat_lit 3) x14 (.int .i64 (nat_lit 0)) fun x180 =>
 LDN (nat_lit 3) x180 h35 fun x181 =>
 cl (nat_lit 134) [x181] h35 (fun x182 h183 =>
 cl (nat_lit 216) [x182] h183 (fun x186 h187 =>
 cl (nat_lit 127) [x186] h187 (fun x190 h191 =>
 ST (nat_lit 3) x6 x190 h191 fun h194 =>
 LDN (nat_lit 3) x6 h194 fun x195 =>
 kr x195 h194) kp) kp) kp
noncomputable def B142x214 (x14 : AV) (h35 : Heap) (cl : CL) (x6 : AV) (kr : KR) (kp : KP) : Ans := SA (nat_lit 3) x14 (.int .i64 (nat_lit 0)) fun x198 =>
 LDN (nat_lit 3) x198 h35 fun x199 =>
 cl (nat_lit 206) [x199] h35 (fun x200 h201 =>
 cl (nat_lit 205) [x200] h201 (fun x204 h205 =>
 cl (nat_lit 126) [x204] h205 (fun x208 h209 =>
 ST (nat_lit 3) x6 x208 h209 fun h212 =>
 LDN (nat_lit 3) x6 h212 fun x213 =>
 kr x213 h212) kp) kp) kp
noncomputable def B142x241 (x4 : AV) (h217 : Heap) (x14 : AV) (cl : CL) (x0 : AV) (x1 : AV) (x216 : AV) (x6 : AV) (kr : KR) (kp : KP) : Ans := FA (nat_lit 2) x4 fun x218 =>
 LD x218 h217 fun x219 =>
 SA (nat_lit 3) x14 (.int .i64 (nat_lit 0)) fun x220 =>
 LDN (nat_lit 3) x220 h217 fun x221 =>
 cl (nat_lit 131) [x0, x1, x219] h217 (fun x222 h223 =>
 LDN (nat_lit 3) x220 h223 fun x226 =>
 EQV x221 x226 <|
 cl (nat_lit 134) [x221] h223 (fun x227 h228 =>
 cl (nat_lit 218) [x227, x216] h228 (fun x231 h232 =>
 cl (nat_lit 217) [x0, x222, x231] h232 (fun x235 h236 =>
 ST (nat_lit 3) x6 x235 h236 fun h239 =>
 LDN (nat_lit 3) x6 h239 fun x240 =>
 kr x240 h239) kp) kp) kp) kp
noncomputable def B142x251 (x4 : AV) (x14 : AV) (cl : CL) (x0 : AV) (x1 : AV) (x6 : AV) (kr : KR) (kp : KP) (h35 : Heap) : Ans := JO (fun x216 h217 =>
 B142x241 x4 h217 x14 cl x0 x1 x216 x6 kr kp) fun j242 =>
 LENS x14 fun x243 =>
 EQL Pr 3 true x243 (.int .i64 (nat_lit 2)) fun x244 =>
 IFB x244 (SA (nat_lit 3) x14 (.int .i64 (nat_lit 1)) fun x245 =>
 LDN (nat_lit 3) x245 h35 fun x246 =>
 cl (nat_lit 134) [x246] h35 (fun x247 h248 =>
 j242 x247 h248) kp)
 (j242 (.str (nat_lit 1) (nat_lit 32)) h35)
noncomputable def B142x264 (x4 : AV) (h35 : Heap) (x14 : AV) (cl : CL) (x6 : AV) (kr : KR) (kp : KP) : Ans := FA (nat_lit 0) x4 fun x252 =>
 LD x252 h35 fun x253 =>
 SA (nat_lit 3) x14 (.int .i64 (nat_lit 0)) fun x254 =>
 LDN (nat_lit 3) x254 h35 fun x255 =>
 SA (nat_lit 3) x14 (.int .i64 (nat_lit 1)) fun x256 =>
 LDN (nat_lit 3) x256 h35 fun x257 =>
 cl (nat_lit 140) [x253, x255, x257] h35 (fun x258 h259 =>
 ST (nat_lit 3) x6 x258 h259 fun h262 =>
 LDN (nat_lit 3) x6 h262 fun x263 =>
 kr x263 h262) kp
noncomputable def B142x265 (x33 : AV) (x14 : AV) (h35 : Heap) (cl : CL) (x6 : AV) (kr : KR) (kp : KP) (x4 : AV) (x0 : AV) (x1 : AV) : Ans := EQL Pr 3 true x33 (.int .i64 (nat_lit 31)) fun x179 =>
 IFB x179 (B142x196 x14 h35 cl x6 kr kp)
 (EQL Pr 3 true x33 (.int .i64 (nat_lit 32)) fun x197 =>
 IFB x197 (B142x214 x14 h35 cl x6 kr kp)
 (EQL Pr 3 true x33 (.int .i64 (nat_lit 30)) fun x215 =>
 IFB x215 (B142x251 x4 x14 cl x0 x1 x6 kr kp h35)
 (B142x264 x4 h35 x14 cl x6 kr kp)))
noncomputable def B142x266 (x33 : AV) (x14 : AV) (x0 : AV) (h35 : Heap) (cl : CL) (x6 : AV) (kr : KR) (kp : KP) (x4 : AV) (x1 : AV) : Ans := EQL Pr 3 true x33 (.int .i64 (nat_lit 27)) fun x89 =>
 IFB x89 (B142x116 x14 x0 h35 cl x6 kr kp)
 (EQL Pr 3 true x33 (.int .i64 (nat_lit 28)) fun x117 =>
 IFB x117 (B142x153 x14 cl x6 kr kp h35)
 (EQL Pr 3 true x33 (.int .i64 (nat_lit 29)) fun x154 =>
 IFB x154 (B142x178 x14 h35 cl x6 kr kp)
 (B142x265 x33 x14 h35 cl x6 kr kp x4 x0 x1)))
noncomputable def B142x267 (x33 : AV) (x14 : AV) (h35 : Heap) (cl : CL) (x6 : AV) (kr : KR) (kp : KP) (x0 : AV) (x4 : AV) (x1 : AV) : Ans := EQL Pr 3 true x33 (.int .i64 (nat_lit 25)) fun x75 =>
 IFB x75 (SA (nat_lit 3) x14 (.int .i64 (nat_lit 0)) fun x76 =>
 LDN (nat_lit 3) x76 h35 fun x77 =>
 cl (nat_lit 206) [x77] h35 (fun x78 h79 =>
 OV (unOpA .neg x78) fun x82 =>
 cl (nat_lit 126) [x82] h79 (fun x83 h84 =>
 ST (nat_lit 3) x6 x83 h84 fun h87 =>
 LDN (nat_lit 3) x6 h87 fun x88 =>
 kr x88 h87) kp) kp)
 (B142x266 x33 x14 x0 h35 cl x6 kr kp x4 x1)
noncomputable def B142x273 (x4 : AV) (h15 : Heap) (x14 : AV) (cl : CL) (x6 : AV) (kr : KR) (kp : KP) (x0 : AV) (x1 : AV) : Ans := FA (nat_lit 0) x4 fun x32 =>
 LD x32 h15 fun x33 =>
 JO (fun x34 h35 =>
 IFB x34 (B142x52 x4 h35 x14 cl x6 kr kp)
 (EQL Pr 3 true x33 (.int .i64 (nat_lit 19)) fun x53 =>
 IFB x53 (B142x74 x14 h35 cl x6 kr kp)
 (B142x267 x33 x14 h35 cl x6 kr kp x0 x4 x1))) fun j268 =>
 EQL Pr 3 true x33 (.int .i64 (nat_lit 15)) fun x269 =>
 IFB x269 (j268 x269 h15)
 (EQL Pr 3 true x33 (.int .i64 (nat_lit 16)) fun x270 =>
 IFB x270 (j268 x270 h15)
 (EQL Pr 3 true x33 (.int .i64 (nat_lit 17)) fun x271 =>
 IFB x271 (j268 x271 h15)
 (EQL Pr 3 true x33 (.int .i64 (nat_lit 18)) fun x272 =>
 j268 x272 h15)))
noncomputable def F142 (fu : Nat) (oR : FuncId → List AV → Option AV) (cl : CL) (args : List AV) (h3 : Heap) (kr : KR) (kp : KP) : Ans := AR3 args fun x0 x1 x2 =>
 BOX 92 x2 h3 fun x4 h5 =>
 NEWC (.n (some (.int .i64 (nat_lit 0))) (.n (some (.int .i64 (nat_lit 0))) .e .e) (.n (some (.str (nat_lit 0) (nat_lit 0))) .e .e)) (nat_lit 3) 54 h5 fun x6 h7 =>
 BSL (nat_lit 54) (nat_lit 3) [] (nat_lit 0) [] h7 fun x8 h9 =>
 FA (nat_lit 4) x4 fun x10 =>
 LD x10 h9 fun x11 =>
 LENS x11 fun x12 =>
 LP fu (fun _ _ _ => Ans.no) (fun j16 x13 x14 h15 =>
 LSS Pr 3 false x13 x12 fun x17 =>
 IFB x17 (B142x31 x11 x13 h15 cl x0 x14 j16 kp)
 (B142x273 x4 h15 x14 cl x6 kr kp x0 x1)) (.int .i64 (nat_lit 0)) x8 h9

theorem eqF142 : F142 = fun fu oR => compF Pr fu oR 142 3 := by kernel_rfl

noncomputable def B145x27 (x4 : AV) (h8 : Heap) (x6 : AV) (cl : CL) (x0 : AV) (kr : KR) (kp : KP) : Ans := LDN (nat_lit 3) x4 h8 fun x9 =>
 LDN (nat_lit 3) x6 h8 fun x10 =>
 cl (nat_lit 200) [x0, x9] h8 (fun x11 h12 =>
 LDN (nat_lit 3) x6 h12 fun x15 =>
 EQV x10 x15 <|
 cl (nat_lit 220) [x11, x10] h12 (fun x16 h17 =>
 LDN (nat_lit 3) x4 h17 fun x20 =>
 FA (nat_lit 0) x6 fun x21 =>
 LD x21 h17 fun x22 =>
 cl (nat_lit 202) [x0, x20, (.int .i64 (nat_lit 0)), x22] h17 (fun x23 h24 =>
 kr (.tuple []) h24) kp) kp) kp
noncomputable def F145 (fu : Nat) (oR : FuncId → List AV → Option AV) (cl : CL) (args : List AV) (h3 : Heap) (kr : KR) (kp : KP) : Ans := AR3 args fun x0 x1 x2 =>
 BOX 171 x1 h3 fun x4 h5 =>
 BOX 54 x2 h5 fun x6 h7 =>
 JO (fun h8 =>
 B145x27 x4 h8 x6 cl x0 kr kp) fun j28 =>
 LDN (nat_lit 3) x4 h7 fun x29 =>
 cl (nat_lit 199) [x29] h7 (fun x30 h31 =>
 IFB x30 (GEN (panA (.iface (nat_lit 71) (.int .i64 (nat_lit 12))) h31) cl (fun x34 h35 =>
 j28  h35) kp)
 (j28  h31)) kp

theorem eqF145 : F145 = fun fu oR => compF Pr fu oR 145 3 := by kernel_rfl

noncomputable def F146 (fu : Nat) (oR : FuncId → List AV → Option AV) (cl : CL) (args : List AV) (h2 : Heap) (kr : KR) (kp : KP) : Ans := AR2 args fun x0 x1 =>
 JO (fun h3 =>
 NC x0 fun x4 =>
 FA (nat_lit 12) x4 fun x5 =>
 FA (nat_lit 2) x5 fun x6 =>
 LD x6 h3 fun x7 =>
 ADD Pr 9 false x7 x1 fun x8 =>
 NC x0 fun x9 =>
 FA (nat_lit 12) x9 fun x10 =>
 FA (nat_lit 2) x10 fun x11 =>
 ST (nat_lit 1) x11 x8 h3 fun h12 =>
 kr (.tuple []) h12) fun j13 =>
 NC x0 fun x14 =>
 FA (nat_lit 12) x14 fun x15 =>
 FA (nat_lit 2) x15 fun x16 =>
 LD x16 h2 fun x17 =>
 LENT x17 fun x18 =>
 LENT x1 fun x19 =>
 ADD Pr 3 false x18 x19 fun x20 =>
 GTR Pr 3 true x20 (.int .i64 (nat_lit 4000)) fun x21 =>
 IFB x21 (GEN (panA (.iface (nat_lit 71) (.int .i64 (nat_lit 5))) h2) cl (fun x22 h23 =>
 j13  h23) kp)
 (j13  h2)

theorem eqF146 : F146 = fun fu oR => compF Pr fu oR 146 2 := by kernel_rfl

noncomputable def B153x18 (x2 : AV) (kr : KR) (x0 : AV) (x3 : AV) (h4 : Heap) : Ans := JO (fun x5 h6 =>
 SEL x2 (.bool true) x5 fun x7 =>
 JO (fun x8 h9 =>
 JO (fun x10 h11 =>
 SEL x7 (.bool true) x10 fun x12 =>
 kr x12 h11) fun j13 =>
 GW false x7 (EQL Pr 5 true x8 (.int .u8 (nat_lit 10)) fun x14 =>
 j13 x14 h9)
 (j13 undefA h9)) fun j15 =>
 GW false x7 (j15 x0 h6)
 (j15 undefA h6)) fun j16 =>
 GW false x2 (EQL Pr 5 true x3 (.int .u8 (nat_lit 9)) fun x17 =>
 j16 x17 h4)
 (j16 undefA h4)
noncomputable def F153 (fu : Nat) (oR : FuncId → List AV → Option AV) (cl : CL) (args : List AV) (h1 : Heap) (kr : KR) (kp : KP) : Ans := AR1 args fun x0 =>
 EQL Pr 5 true x0 (.int .u8 (nat_lit 32)) fun x2 =>
 JO (fun x3 h4 =>
 B153x18 x2 kr x0 x3 h4) fun j19 =>
 GW false x2 (j19 x0 h1)
 (j19 undefA h1)

theorem eqF153 : F153 = fun fu oR => compF Pr fu oR 153 1 := by kernel_rfl

noncomputable def B154x37 (x10 : AV) (x0 : AV) (x11 : AV) (h23 : Heap) (x9 : AV) (j13 : AV → AV → AV → Heap → Ans) : Ans := BOP Pr .mul 3 true x10 (.int .i64 (nat_lit 10)) fun x25 =>
 SAT x0 x11 fun x26 =>
 SUB Pr 5 true x26 (.int .u8 (nat_lit 48)) fun x27 =>
 OV (convV Pr h23 5 3 x27) fun x28 =>
 BOP Pr .mul 3 true x28 (.int .i64 (nat_lit 1000000)) fun x29 =>
 ADD Pr 3 false x25 x29 fun x30 =>
 JO (fun x31 h32 =>
 ADD Pr 3 true x9 (.int .i64 (nat_lit 1)) fun x33 =>
 ADD Pr 3 true x11 (.int .i64 (nat_lit 1)) fun x34 =>
 j13 x33 x31 x34 h32) fun j35 =>
 GTR Pr 3 true x30 (.int .i64 (nat_lit 9000000000000)) fun x36 =>
 IFB x36 (j35 (.int .i64 (nat_lit 9000000000001)) h23)
 (j35 x30 h23)
noncomputable def B154x51 (x38 : AV) (kr : KR) (h41 : Heap) (x40 : AV) (x6 : AV) (x39 : AV) : Ans := EQL Pr 3 true x38 (.int .i64 (nat_lit 0)) fun x42 =>
 IFB x42 (kr (.tuple [(.int .i64 (nat_lit 0)), (.int .i64 (nat_lit 0))]) h41)
 (JO (fun x43 h44 =>
 JO (fun x45 h46 =>
 kr (.tuple [x45, x40]) h46) fun j47 =>
 IFB x6 (OV (unOpA .neg x43) fun x48 =>
 j47 x48 h44)
 (j47 x43 h44)) fun j49 =>
 GTR Pr 3 true x39 (.int .i64 (nat_lit 9000000000000)) fun x50 =>
 IFB x50 (j49 (.int .i64 (nat_lit 9000000000000)) h41)
 (j49 x39 h41))
noncomputable def B154x123 (x0 : AV) (x101 : AV) (h113 : Heap) (x98 : AV) (x100 : AV) (x99 : AV) (j103 : AV → AV → AV → AV → Heap → Ans) : Ans := SAT x0 x101 fun x115 =>
 SUB Pr 5 true x115 (.int .u8 (nat_lit 48)) fun x116 =>
 OV (convV Pr h113 5 3 x116) fun x117 =>
 BOP Pr .mul 3 false x117 x98 fun x118 =>
 ADD Pr 3 false x100 x118 fun x119 =>
 BOP Pr .quo 3 true x98 (.int .i64 (nat_lit 10)) fun x120 =>
 ADD Pr 3 true x99 (.int .i64 (nat_lit 1)) fun x121 =>
 ADD Pr 3 true x101 (.int .i64 (nat_lit 1)) fun x122 =>
 j103 x120 x121 x119 x122 h113
noncomputable def B154x131 (x105 : AV) (x0 : AV) (x101 : AV) (x98 : AV) (x100 : AV) (x99 : AV) (j103 : AV → AV → AV → AV → Heap → Ans) (j52 : AV → AV → AV → Heap → Ans) (cl : CL) (kp : KP) (x106 : AV) (x108 : AV) (h109 : Heap) : Ans := JO (fun x110 h111 =>
 JO (fun x112 h113 =>
 SEL x105 x112 (.bool false) fun x114 =>
 IFB x114 (B154x123 x0 x101 h113 x98 x100 x99 j103)
 (j52 x99 x100 x101 h113)) fun j124 =>
 GW true x105 (cl (nat_lit 92) [x110] h111 (fun x125 h126 =>
 j124 x125 h126) kp)
 (j124 undefA h111)) fun j129 =>
 GW true x105 (SAT x106 x108 fun x130 =>
 j129 x130 h109)
 (j129 undefA h109)
noncomputable def B154x134 (x11 : AV) (fu : Nat) (x0 : AV) (j52 : AV → AV → AV → Heap → Ans) (cl : CL) (kp : KP) (x9 : AV) (x10 : AV) (h95 : Heap) : Ans := ADD Pr 3 true x11 (.int .i64 (nat_lit 1)) fun x97 =>
 LP fu (fun _ _ _ _ _ => Ans.no) (fun j103 x98 x99 x100 x101 h102 =>
 LENT x0 fun x104 =>
 LSS Pr 3 false x101 x104 fun x105 =>
 JO (fun x106 h107 =>
 JO (fun x108 h109 =>
 B154x131 x105 x0 x101 x98 x100 x99 j103 j52 cl kp x106 x108 h109) fun j132 =>
 GW true x105 (j132 x101 h107)
 (j132 undefA h107)) fun j133 =>
 GW true x105 (j133 x0 h102)
 (j133 undefA h102)) (.int .i64 (nat_lit 100000)) x9 x10 x97 h95
noncomputable def B154x139 (x63 : AV) (x11 : AV) (fu : Nat) (x0 : AV) (j52 : AV → AV → AV → Heap → Ans) (cl : CL) (kp : KP) (x9 : AV) (x10 : AV) (x68 : AV) (x80 : AV) (x90 : AV) (h91 : Heap) : Ans := JO (fun x92 h93 =>
 JO (fun x94 h95 =>
 SEL x63 x94 (.bool false) fun x96 =>
 IFB x96 (B154x134 x11 fu x0 j52 cl kp x9 x10 h95)
 (j52 x9 x10 x11 h95)) fun j135 =>
 GW true x63 (SEL x68 (.bool true) x92 fun x136 =>
 j135 x136 h93)
 (j135 undefA h93)) fun j137 =>
 GW false x68 (SEL x80 x90 (.bool false) fun x138 =>
 j137 x138 h91)
 (j137 undefA h91)
noncomputable def B154x149 (x63 : AV) (x11 : AV) (fu : Nat) (x0 : AV) (j52 : AV → AV → AV → Heap → Ans) (cl : CL) (kp : KP) (x9 : AV) (x10 : AV) (x68 : AV) (x80 : AV) (x82 : AV) (x84 : AV) (h85 : Heap) : Ans := JO (fun x86 h87 =>
 JO (fun x88 h89 =>
 JO (fun x90 h91 =>
 B154x139 x63 x11 fu x0 j52 cl kp x9 x10 x68 x80 x90 h91) fun j140 =>
 GW true x80 (cl (nat_lit 92) [x88] h89 (fun x141 h142 =>
 j140 x141 h142) kp)
 (j140 undefA h89)) fun j145 =>
 GW true x80 (SAT x82 x86 fun x146 =>
 j145 x146 h87)
 (j145 undefA h87)) fun j147 =>
 GW true x80 (ADD Pr 3 true x84 (.int .i64 (nat_lit 1)) fun x148 =>
 j147 x148 h85)
 (j147 undefA h85)
noncomputable def B154x155 (x63 : AV) (x11 : AV) (fu : Nat) (x0 : AV) (j52 : AV → AV → AV → Heap → Ans) (cl : CL) (kp : KP) (x9 : AV) (x10 : AV) (x68 : AV) (x72 : AV) (x76 : AV) (h77 : Heap) : Ans := JO (fun x78 h79 =>
 JO (fun x80 h81 =>
 JO (fun x82 h83 =>
 JO (fun x84 h85 =>
 B154x149 x63 x11 fu x0 j52 cl kp x9 x10 x68 x80 x82 x84 h85) fun j150 =>
 GW true x80 (j150 x11 h83)
 (j150 undefA h83)) fun j151 =>
 GW true x80 (j151 x0 h81)
 (j151 undefA h81)) fun j152 =>
 GW false x68 (j152 x78 h79)
 (j152 undefA h79)) fun j153 =>
 GW false x68 (LSS Pr 3 false x72 x76 fun x154 =>
 j153 x154 h77)
 (j153 undefA h77)
noncomputable def B154x161 (x63 : AV) (x11 : AV) (fu : Nat) (x0 : AV) (j52 : AV → AV → AV → Heap → Ans) (cl : CL) (kp : KP) (x9 : AV) (x10 : AV) (x68 : AV) (x70 : AV) (h71 : Heap) : Ans := JO (fun x72 h73 =>
 JO (fun x74 h75 =>
 JO (fun x76 h77 =>
 B154x155 x63 x11 fu x0 j52 cl kp x9 x10 x68 x72 x76 h77) fun j156 =>
 GW false x68 (LENT x74 fun x157 =>
 j156 x157 h75)
 (j156 undefA h75)) fun j158 =>
 GW false x68 (j158 x0 h73)
 (j158 undefA h73)) fun j159 =>
 GW false x68 (ADD Pr 3 true x70 (.int .i64 (nat_lit 1)) fun x160 =>
 j159 x160 h71)
 (j159 undefA h71)
noncomputable def B154x166 (x63 : AV) (x11 : AV) (fu : Nat) (x0 : AV) (j52 : AV → AV → AV → Heap → Ans) (cl : CL) (kp : KP) (x9 : AV) (x10 : AV) (x64 : AV) (h65 : Heap) : Ans := JO (fun x66 h67 =>
 JO (fun x68 h69 =>
 JO (fun x70 h71 =>
 B154x161 x63 x11 fu x0 j52 cl kp x9 x10 x68 x70 h71) fun j162 =>
 GW false x68 (j162 x11 h69)
 (j162 undefA h69)) fun j163 =>
 GW true x63 (j163 x66 h67)
 (j163 undefA h67)) fun j164 =>
 GW true x63 (GTR Pr 3 true x64 (.int .i64 (nat_lit 0)) fun x165 =>
 j164 x165 h65)
 (j164 undefA h65)
noncomputable def B154x172 (x54 : AV) (x11 : AV) (fu : Nat) (x0 : AV) (j52 : AV → AV → AV → Heap → Ans) (cl : CL) (kp : KP) (x9 : AV) (x10 : AV) (x55 : AV) (x57 : AV) (h58 : Heap) : Ans := JO (fun x59 h60 =>
 JO (fun x61 h62 =>
 SEL x54 x61 (.bool false) fun x63 =>
 JO (fun x64 h65 =>
 B154x166 x63 x11 fu x0 j52 cl kp x9 x10 x64 h65) fun j167 =>
 GW true x63 (j167 x9 h62)
 (j167 undefA h62)) fun j168 =>
 GW true x54 (EQL Pr 5 true x59 (.int .u8 (nat_lit 46)) fun x169 =>
 j168 x169 h60)
 (j168 undefA h60)) fun j170 =>
 GW true x54 (SAT x55 x57 fun x171 =>
 j170 x171 h58)
 (j170 undefA h58)
noncomputable def B154x175 (kr : KR) (x6 : AV) (x0 : AV) (x11 : AV) (fu : Nat) (cl : CL) (kp : KP) (x9 : AV) (x10 : AV) (h23 : Heap) : Ans := JO (fun x38 x39 x40 h41 =>
 B154x51 x38 kr h41 x40 x6 x39) fun j52 =>
 LENT x0 fun x53 =>
 LSS Pr 3 false x11 x53 fun x54 =>
 JO (fun x55 h56 =>
 JO (fun x57 h58 =>
 B154x172 x54 x11 fu x0 j52 cl kp x9 x10 x55 x57 h58) fun j173 =>
 GW true x54 (j173 x11 h56)
 (j173 undefA h56)) fun j174 =>
 GW true x54 (j174 x0 h23)
 (j174 undefA h23)
noncomputable def B154x183 (x15 : AV) (x10 : AV) (x0 : AV) (x11 : AV) (x9 : AV) (j13 : AV → AV → AV → Heap → Ans) (kr : KR) (x6 : AV) (fu : Nat) (cl : CL) (kp : KP) (x16 : AV) (x18 : AV) (h19 : Heap) : Ans := JO (fun x20 h21 =>
 JO (fun x22 h23 =>
 SEL x15 x22 (.bool false) fun x24 =>
 IFB x24 (B154x37 x10 x0 x11 h23 x9 j13)
 (B154x175 kr x6 x0 x11 fu cl kp x9 x10 h23)) fun j176 =>
 GW true x15 (cl (nat_lit 92) [x20] h21 (fun x177 h178 =>
 j176 x177 h178) kp)
 (j176 undefA h21)) fun j181 =>
 GW true x15 (SAT x16 x18 fun x182 =>
 j181 x182 h19)
 (j181 undefA h19)
noncomputable def B154x186 (fu : Nat) (x0 : AV) (kr : KR) (x6 : AV) (cl : CL) (kp : KP) (x7 : AV) (h8 : Heap) : Ans := LP fu (fun _ _ _ _ => Ans.no) (fun j13 x9 x10 x11 h12 =>
 LENT x0 fun x14 =>
 LSS Pr 3 false x11 x14 fun x15 =>
 JO (fun x16 h17 =>
 JO (fun x18 h19 =>
 B154x183 x15 x10 x0 x11 x9 j13 kr x6 fu cl kp x16 x18 h19) fun j184 =>
 GW true x15 (j184 x11 h17)
 (j184 undefA h17)) fun j185 =>
 GW true x15 (j185 x0 h12)
 (j185 undefA h12)) (.int .i64 (nat_lit 0)) (.int .i64 (nat_lit 0)) x7 h8
noncomputable def B154x216 (x189 : AV) (x0 : AV) (x2 : AV) (j187 : AV → AV → Heap → Ans) (x198 : AV) (x206 : AV) (h207 : Heap) : Ans := JO (fun x208 h209 =>
 SEL x189 x208 (.bool false) fun x210 =>
 IFB x210 (SAT x0 x2 fun x211 =>
 EQL Pr 5 true x211 (.int .u8 (nat_lit 45)) fun x212 =>
 ADD Pr 3 true x2 (.int .i64 (nat_lit 1)) fun x213 =>
 j187 x212 x213 h209)
 (j187 (.bool false) x2 h209)) fun j214 =>
 GW true x189 (SEL x198 (.bool true) x206 fun x215 =>
 j214 x215 h207)
 (j214 undefA h207)
noncomputable def B154x222 (x189 : AV) (x0 : AV) (x2 : AV) (j187 : AV → AV → Heap → Ans) (x198 : AV) (x200 : AV) (h201 : Heap) : Ans := JO (fun x202 h203 =>
 JO (fun x204 h205 =>
 JO (fun x206 h207 =>
 B154x216 x189 x0 x2 j187 x198 x206 h207) fun j217 =>
 GW false x198 (EQL Pr 5 true x204 (.int .u8 (nat_lit 45)) fun x218 =>
 j217 x218 h205)
 (j217 undefA h205)) fun j219 =>
 GW false x198 (SAT x200 x202 fun x220 =>
 j219 x220 h203)
 (j219 undefA h203)) fun j221 =>
 GW false x198 (j221 x2 h201)
 (j221 undefA h201)
noncomputable def B154x227 (x189 : AV) (x0 : AV) (x2 : AV) (j187 : AV → AV → Heap → Ans) (x194 : AV) (h195 : Heap) : Ans := JO (fun x196 h197 =>
 JO (fun x198 h199 =>
 JO (fun x200 h201 =>
 B154x222 x189 x0 x2 j187 x198 x200 h201) fun j223 =>
 GW false x198 (j223 x0 h199)
 (j223 undefA h199)) fun j224 =>
 GW true x189 (j224 x196 h197)
 (j224 undefA h197)) fun j225 =>
 GW true x189 (EQL Pr 5 true x194 (.int .u8 (nat_lit 43)) fun x226 =>
 j225 x226 h195)
 (j225 undefA h195)
noncomputable def F154 (fu : Nat) (oR : FuncId → List AV → Option AV) (cl : CL) (args : List AV) (h1 : Heap) (kr : KR) (kp : KP) : Ans := AR1 args fun x0 =>
 cl (nat_lit 225) [x0, (.int .i64 (nat_lit 0))] h1 (fun x2 h3 =>
 JO (fun x6 x7 h8 =>
 B154x186 fu x0 kr x6 cl kp x7 h8) fun j187 =>
 LENT x0 fun x188 =>
 LSS Pr 3 false x2 x188 fun x189 =>
 JO (fun x190 h191 =>
 JO (fun x192 h193 =>
 JO (fun x194 h195 =>
 B154x227 x189 x0 x2 j187 x194 h195) fun j228 =>
 GW true x189 (SAT x190 x192 fun x229 =>
 j228 x229 h193)
 (j228 undefA h193)) fun j230 =>
 GW true x189 (j230 x2 h191)
 (j230 undefA h191)) fun j231 =>
 GW true x189 (j231 x0 h3)
 (j231 undefA h3)) kp

theorem eqF154 : F154 = fun fu oR => compF Pr fu oR 154 1 := by kernel_rfl

noncomputable def F155 (fu : Nat) (oR : FuncId → List AV → Option AV) (cl : CL) (args : List AV) (h1 : Heap) (kr : KR) (kp : KP) : Ans := AR1 args fun x0 =>
 cl (nat_lit 95) [x0] h1 (fun x2 h3 =>
 JO (fun x6 h7 =>
 JO (fun x8 h9 =>
 SEL x2 (.bool true) x8 fun x10 =>
 kr x10 h9) fun j11 =>
 GW false x2 (cl (nat_lit 92) [x6] h7 (fun x12 h13 =>
 j11 x12 h13) kp)
 (j11 undefA h7)) fun j16 =>
 GW false x2 (j16 x0 h3)
 (j16 undefA h3)) kp

theorem eqF155 : F155 = fun fu oR => compF Pr fu oR 155 1 := by kernel_rfl

noncomputable def F156 (fu : Nat) (oR : FuncId → List AV → Option AV) (cl : CL) (args : List AV) (h1 : Heap) (kr : KR) (kp : KP) : Ans := AR1 args fun x0 =>
 cl (nat_lit 226) [] h1 (fun x2 h3 =>
 LP fu (fun _ _ => Ans.no) (fun j8 x6 h7 =>
 LENS x2 fun x9 =>
 LSS Pr 3 false x6 x9 fun x10 =>
 IFB x10 (SA (nat_lit 1) x2 x6 fun x11 =>
 LD x11 h7 fun x12 =>
 EQL Pr 9 false x12 x0 fun x13 =>
 IFB x13 (kr (.bool true) h7)
 (ADD Pr 3 true x6 (.int .i64 (nat_lit 1)) fun x14 =>
 j8 x14 h7))
 (kr (.bool false) h7)) (.int .i64 (nat_lit 0)) h3) kp

theorem eqF156 : F156 = fun fu oR => compF Pr fu oR 156 1 := by kernel_rfl

noncomputable def F157 (fu : Nat) (oR : FuncId → List AV → Option AV) (cl : CL) (args : List AV) (h0 : Heap) (kr : KR) (kp : KP) : Ans := AR0 args <|
 BSL (nat_lit 9) (nat_lit 1) [(.str (nat_lit 0) (nat_lit 0)), (.str (nat_lit 0) (nat_lit 0)), (.str (nat_lit 0) (nat_lit 0)), (.str (nat_lit 0) (nat_lit 0)), (.str (nat_lit 0) (nat_lit 0)), (.str (nat_lit 0) (nat_lit 0)), (.str (nat_lit 0) (nat_lit 0)), (.str (nat_lit 0) (nat_lit 0)), (.str (nat_lit 0) (nat_lit 0)), (.str (nat_lit 0) (nat_lit 0)), (.str (nat_lit 0) (nat_lit 0)), (.str (nat_lit 0) (nat_lit 0)), (.str (nat_lit 0) (nat_lit 0)), (.str (nat_lit 0) (nat_lit 0)), (.str (nat_lit 0) (nat_lit 0)), (.str (nat_lit 0) (nat_lit 0)), (.str (nat_lit 0) (nat_lit 0)), (.str (nat_lit 0) (nat_lit 0)), (.str (nat_lit 0) (nat_lit 0)), (.str (nat_lit 0) (nat_lit 0)), (.str (nat_lit 0) (nat_lit 0)), (.str (nat_lit 0) (nat_lit 0)), (.str (nat_lit 0) (nat_lit 0)), (.str (nat_lit 0) (nat_lit 0)), (.str (nat_lit 0) (nat_lit 0)), (.str (nat_lit 0) (nat_lit 0)), (.str (nat_lit 0) (nat_lit 0))] (nat_lit 27) [((nat_lit 0), (.str (nat_lit 2) (nat_lit 9766))), ((nat_lit 1), (.str (nat_lit 2) (nat_lit 31868))), ((nat_lit 2), (.str (nat_lit 2) (nat_lit 15677))), ((nat_lit 3), (.str (nat_lit 2) (nat_lit 15649))), ((nat_lit 4), (.str (nat_lit 2) (nat_lit 32289))), ((nat_lit 5), (.str (nat_lit 2) (nat_lit 15676))), ((nat_lit 6), (.str (nat_lit 2) (nat_lit 15659))), ((nat_lit 7), (.str (nat_lit 1) (nat_lit 123))), ((nat_lit 8), (.str (nat_lit 1) (nat_lit 125))), ((nat_lit 9), (.str (nat_lit 1) (nat_lit 40))), ((nat_lit 10), (.str (nat_lit 1) (nat_lit 41))), ((nat_lit 11), (.str (nat_lit 1) (nat_lit 91))), ((nat_lit 12), (.str (nat_lit 1) (nat_lit 93))), ((nat_lit 13), (.str (nat_lit 1) (nat_lit 59))), ((nat_lit 14), (.str (nat_lit 1) (nat_lit 44))), ((nat_lit 15), (.str (nat_lit 1) (nat_lit 61))), ((nat_lit 16), (.str (nat_lit 1) (nat_lit 33))), ((nat_lit 17), (.str (nat_lit 1) (nat_lit 60))), ((nat_lit 18), (.str (nat_lit 1) (nat_lit 43))), ((nat_lit 19), (.str (nat_lit 1) (nat_lit 45))), ((nat_lit 20), (.str (nat_lit 1) (nat_lit 42))), ((nat_lit 21), (.str (nat_lit 1) (nat_lit 47))), ((nat_lit 22), (.str (nat_lit 1) (nat_lit 37))), ((nat_lit 23), (.str (nat_lit 1) (nat_lit 126))), ((nat_lit 24), (.str (nat_lit 1) (nat_lit 63))), ((nat_lit 25), (.str (nat_lit 1) (nat_lit 58))), ((nat_lit 26), (.str (nat_lit 1) (nat_lit 36)))] h0 fun x1 h2 =>
 kr x1 h2

theorem eqF157 : F157 = fun fu oR => compF Pr fu oR 157 0 := by kernel_rfl

noncomputable def F158 (fu : Nat) (oR : FuncId → List AV → Option AV) (cl : CL) (args : List AV) (h1 : Heap) (kr : KR) (kp : KP) : Ans := AR1 args fun x0 =>
 NEWC (.n (some (.int .i64 (nat_lit 0))) (.n (some (.str (nat_lit 0) (nat_lit 0))) (.n (some (.int .i64 (nat_lit 0))) .e .e) .e) (.n (some (.int .i64 (nat_lit 0))) .e .e)) (nat_lit 4) 114 h1 fun x2 h3 =>
 NC x0 fun x4 =>
 FA (nat_lit 1) x4 fun x5 =>
 LD x5 h3 fun x6 =>
 NC x0 fun x7 =>
 FA (nat_lit 0) x7 fun x8 =>
 LD x8 h3 fun x9 =>
 LENS x9 fun x10 =>
 LSS Pr 3 false x6 x10 fun x11 =>
 IFB x11 (NC x0 fun x12 =>
 FA (nat_lit 0) x12 fun x13 =>
 LD x13 h3 fun x14 =>
 NC x0 fun x15 =>
 FA (nat_lit 1) x15 fun x16 =>
 LD x16 h3 fun x17 =>
 SA (nat_lit 4) x14 x17 fun x18 =>
 LDN (nat_lit 4) x18 h3 fun x19 =>
 ST (nat_lit 4) x2 x19 h3 fun h20 =>
 LDN (nat_lit 4) x2 h20 fun x21 =>
 kr x21 h20)
 (OV (buildA Pr 114 []) fun x22 =>
 ST (nat_lit 4) x2 x22 h3 fun h23 =>
 LDN (nat_lit 4) x2 h23 fun x24 =>
 kr x24 h23)

theorem eqF158 : F158 = fun fu oR => compF Pr fu oR 158 1 := by kernel_rfl

noncomputable def B159x26 (x6 : AV) (x0 : AV) (kr : KR) (cl : CL) (x7 : AV) (x9 : AV) (h10 : Heap) (kp : KP) : Ans := JO (fun x11 h12 =>
 JO (fun x13 h14 =>
 SEL x6 x13 (.bool false) fun x15 =>
 IFB x15 (NC x0 fun x16 =>
 FA (nat_lit 5) x16 fun x17 =>
 ST (nat_lit 1) x17 (.bool true) h14 fun h18 =>
 kr (.tuple []) h18)
 (kr (.tuple []) h14)) fun j19 =>
 GW true x6 (OV (unOpA .not x11) fun x20 =>
 j19 x20 h12)
 (j19 undefA h12)) fun j21 =>
 GW true x6 (cl (nat_lit 100) [x7, x9] h10 (fun x22 h23 =>
 j21 x22 h23) kp)
 (j21 undefA h10)
noncomputable def F159 (fu : Nat) (oR : FuncId → List AV → Option AV) (cl : CL) (args : List AV) (h2 : Heap) (kr : KR) (kp : KP) : Ans := AR2 args fun x0 x1 =>
 NC x0 fun x3 =>
 FA (nat_lit 5) x3 fun x4 =>
 LD x4 h2 fun x5 =>
 OV (unOpA .not x5) fun x6 =>
 JO (fun x7 h8 =>
 JO (fun x9 h10 =>
 B159x26 x6 x0 kr cl x7 x9 h10 kp) fun j27 =>
 GW true x6 (j27 x1 h8)
 (j27 undefA h8)) fun j28 =>
 GW true x6 (j28 x0 h2)
 (j28 undefA h2)

theorem eqF159 : F159 = fun fu oR => compF Pr fu oR 159 2 := by kernel_rfl

noncomputable def B161x26 (x4 : AV) (x13 : AV) (x0 : AV) (h14 : Heap) (kr : KR) : Ans := SEL x4 (.bool true) x13 fun x15 =>
 IFB x15 (NC x0 fun x16 =>
 FA (nat_lit 5) x16 fun x17 =>
 ST (nat_lit 1) x17 (.bool true) h14 fun h18 =>
 kr (.bool false) h18)
 (NC x0 fun x19 =>
 FA (nat_lit 2) x19 fun x20 =>
 LD x20 h14 fun x21 =>
 ADD Pr 3 true x21 (.int .i64 (nat_lit 1)) fun x22 =>
 NC x0 fun x23 =>
 FA (nat_lit 2) x23 fun x24 =>
 ST (nat_lit 1) x24 x22 h14 fun h25 =>
 kr (.bool true) h25)
noncomputable def B161x33 (x4 : AV) (x0 : AV) (kr : KR) (x7 : AV) (h8 : Heap) : Ans := JO (fun x9 h10 =>
 JO (fun x11 h12 =>
 JO (fun x13 h14 =>
 B161x26 x4 x13 x0 h14 kr) fun j27 =>
 GW false x4 (EQL Pr 3 true x11 (.int .i64 (nat_lit 40)) fun x28 =>
 j27 x28 h12)
 (j27 undefA h12)) fun j29 =>
 GW false x4 (LD x9 h10 fun x30 =>
 j29 x30 h10)
 (j29 undefA h10)) fun j31 =>
 GW false x4 (FA (nat_lit 2) x7 fun x32 =>
 j31 x32 h8)
 (j31 undefA h8)
noncomputable def F161 (fu : Nat) (oR : FuncId → List AV → Option AV) (cl : CL) (args : List AV) (h1 : Heap) (kr : KR) (kp : KP) : Ans := AR1 args fun x0 =>
 NC x0 fun x2 =>
 FA (nat_lit 5) x2 fun x3 =>
 LD x3 h1 fun x4 =>
 JO (fun x5 h6 =>
 JO (fun x7 h8 =>
 B161x33 x4 x0 kr x7 h8) fun j34 =>
 GW false x4 (NC x5 fun x35 =>
 j34 x35 h6)
 (j34 undefA h6)) fun j36 =>
 GW false x4 (j36 x0 h1)
 (j36 undefA h1)

theorem eqF161 : F161 = fun fu oR => compF Pr fu oR 161 1 := by kernel_rfl

noncomputable def B162x30 (cl : CL) (x0 : AV) (h7 : Heap) (x2 : AV) (kr : KR) (kp : KP) : Ans := cl (nat_lit 103) [x0] h7 (fun x11 h12 =>
 cl (nat_lit 159) [x0, (.str (nat_lit 1) (nat_lit 58))] h12 (fun x15 h16 =>
 cl (nat_lit 103) [x0] h16 (fun x19 h20 =>
 BSL (nat_lit 3) (nat_lit 1) [(.int .i64 (nat_lit 0)), (.int .i64 (nat_lit 0)), (.int .i64 (nat_lit 0))] (nat_lit 3) [((nat_lit 0), x2), ((nat_lit 1), x11), ((nat_lit 2), x19)] h20 fun x23 h24 =>
 OV (buildA Pr 92 [((nat_lit 0), (.int .i64 (nat_lit 9))), ((nat_lit 4), x23)]) fun x25 =>
 cl (nat_lit 163) [x0, x25] h24 (fun x26 h27 =>
 kr x26 h27) kp) kp) kp) kp
noncomputable def F162 (fu : Nat) (oR : FuncId → List AV → Option AV) (cl : CL) (args : List AV) (h1 : Heap) (kr : KR) (kp : KP) : Ans := AR1 args fun x0 =>
 cl (nat_lit 227) [x0] h1 (fun x2 h3 =>
 cl (nat_lit 100) [x0, (.str (nat_lit 1) (nat_lit 63))] h3 (fun x6 h7 =>
 OV (unOpA .not x6) fun x10 =>
 IFB x10 (kr x2 h7)
 (B162x30 cl x0 h7 x2 kr kp)) kp) kp

theorem eqF162 : F162 = fun fu oR => compF Pr fu oR 162 1 := by kernel_rfl

noncomputable def B163x30 (x0 : AV) (h4 : Heap) (x3 : AV) (cl : CL) (kr : KR) (kp : KP) : Ans := NC x0 fun x8 =>
 FA (nat_lit 3) x8 fun x9 =>
 FA (nat_lit 0) x9 fun x10 =>
 LD x10 h4 fun x11 =>
 LDN (nat_lit 5) x3 h4 fun x12 =>
 BSL (nat_lit 92) (nat_lit 5) [(.int .i64 (nat_lit 0)), (.str (nat_lit 0) (nat_lit 0)), (.str (nat_lit 0) (nat_lit 0)), (.int .i64 (nat_lit 0)), (.nilslice)] (nat_lit 1) [((nat_lit 0), x12)] h4 fun x13 h14 =>
 LD x10 h14 fun x15 =>
 EQV x11 x15 <|
 GEN (builtinF .append Pr [34, 34] [x11, x13] h14) cl (fun x16 h17 =>
 NC x0 fun x20 =>
 FA (nat_lit 3) x20 fun x21 =>
 FA (nat_lit 0) x21 fun x22 =>
 ST (nat_lit 1) x22 x16 h17 fun h23 =>
 NC x0 fun x24 =>
 FA (nat_lit 3) x24 fun x25 =>
 FA (nat_lit 0) x25 fun x26 =>
 LD x26 h23 fun x27 =>
 LENS x27 fun x28 =>
 SUB Pr 3 true x28 (.int .i64 (nat_lit 1)) fun x29 =>
 kr x29 h23) kp
noncomputable def F163 (fu : Nat) (oR : FuncId → List AV → Option AV) (cl : CL) (args : List AV) (h2 : Heap) (kr : KR) (kp : KP) : Ans := AR2 args fun x0 x1 =>
 BOX 92 x1 h2 fun x3 h4 =>
 NC x0 fun x5 =>
 FA (nat_lit 5) x5 fun x6 =>
 LD x6 h4 fun x7 =>
 IFB x7 (kr (.int .i64 (nat_lit 0)) h4)
 (B163x30 x0 h4 x3 cl kr kp)

theorem eqF163 : F163 = fun fu oR => compF Pr fu oR 163 2 := by kernel_rfl

noncomputable def B164x60 (cl : CL) (x0 : AV) (h34 : Heap) (j16 : AV → Heap → Ans) (kp : KP) : Ans := cl (nat_lit 159) [x0, (.str (nat_lit 1) (nat_lit 40))] h34 (fun x37 h38 =>
 cl (nat_lit 103) [x0] h38 (fun x41 h42 =>
 cl (nat_lit 159) [x0, (.str (nat_lit 1) (nat_lit 41))] h42 (fun x45 h46 =>
 cl (nat_lit 164) [x0] h46 (fun x49 h50 =>
 BSL (nat_lit 3) (nat_lit 1) [(.int .i64 (nat_lit 0)), (.int .i64 (nat_lit 0))] (nat_lit 2) [((nat_lit 0), x41), ((nat_lit 1), x49)] h50 fun x53 h54 =>
 OV (buildA Pr 92 [((nat_lit 0), (.int .i64 (nat_lit 44))), ((nat_lit 4), x53)]) fun x55 =>
 cl (nat_lit 163) [x0, x55] h54 (fun x56 h57 =>
 j16 x56 h57) kp) kp) kp) kp) kp
noncomputable def B164x73 (cl : CL) (x0 : AV) (h26 : Heap) (j16 : AV → Heap → Ans) (kp : KP) : Ans := cl (nat_lit 100) [x0, (.str (nat_lit 5) (nat_lit 435610544247))] h26 (fun x33 h34 =>
 IFB x33 (B164x60 cl x0 h34 j16 kp)
 (cl (nat_lit 100) [x0, (.str (nat_lit 3) (nat_lit 7499622))] h34 (fun x61 h62 =>
 IFB x61 (cl (nat_lit 229) [x0] h62 (fun x65 h66 =>
 j16 x65 h66) kp)
 (cl (nat_lit 230) [x0] h62 (fun x69 h70 =>
 j16 x69 h70) kp)) kp)) kp
noncomputable def B164x74 (x0 : AV) (kr : KR) (cl : CL) (h3 : Heap) (kp : KP) : Ans := JO (fun x7 h8 =>
 NC x0 fun x9 =>
 FA (nat_lit 2) x9 fun x10 =>
 LD x10 h8 fun x11 =>
 SUB Pr 3 true x11 (.int .i64 (nat_lit 1)) fun x12 =>
 NC x0 fun x13 =>
 FA (nat_lit 2) x13 fun x14 =>
 ST (nat_lit 1) x14 x12 h8 fun h15 =>
 kr x7 h15) fun j16 =>
 cl (nat_lit 102) [x0, (.str (nat_lit 1) (nat_lit 123))] h3 (fun x17 h18 =>
 IFB x17 (cl (nat_lit 104) [x0] h18 (fun x21 h22 =>
 j16 x21 h22) kp)
 (cl (nat_lit 100) [x0, (.str (nat_lit 2) (nat_lit 26217))] h18 (fun x25 h26 =>
 IFB x25 (cl (nat_lit 228) [x0] h26 (fun x29 h30 =>
 j16 x29 h30) kp)
 (B164x73 cl x0 h26 j16 kp)) kp)) kp
noncomputable def F164 (fu : Nat) (oR : FuncId → List AV → Option AV) (cl : CL) (args : List AV) (h1 : Heap) (kr : KR) (kp : KP) : Ans := AR1 args fun x0 =>
 cl (nat_lit 161) [x0] h1 (fun x2 h3 =>
 OV (unOpA .not x2) fun x6 =>
 IFB x6 (kr (.int .i64 (nat_lit 0)) h3)
 (B164x74 x0 kr cl h3 kp)) kp

theorem eqF164 : F164 = fun fu oR => compF Pr fu oR 164 1 := by kernel_rfl

noncomputable def B165x45 (x29 : AV) (x0 : AV) (x4 : AV) (h30 : Heap) (x5 : AV) (cl : CL) (j14 : AV → Heap → Ans) (kp : KP) : Ans := IFB x29 (SAT x0 x4 fun x31 =>
 BSL (nat_lit 5) (nat_lit 1) [(.int .u8 (nat_lit 0)), (.int .u8 (nat_lit 0))] (nat_lit 2) [((nat_lit 0), (.int .u8 (nat_lit 92))), ((nat_lit 1), x31)] h30 fun x32 h33 =>
 GEN (builtinF .append Pr [22, 22] [x5, x32] h33) cl (fun x34 h35 =>
 j14 x34 h35) kp)
 (SAT x0 x4 fun x38 =>
 BSL (nat_lit 5) (nat_lit 1) [(.int .u8 (nat_lit 0))] (nat_lit 1) [((nat_lit 0), x38)] h30 fun x39 h40 =>
 GEN (builtinF .append Pr [22, 22] [x5, x39] h40) cl (fun x41 h42 =>
 j14 x41 h42) kp)
noncomputable def B165x49 (x10 : AV) (h6 : Heap) (x5 : AV) (cl : CL) (j14 : AV → Heap → Ans) (kp : KP) (x0 : AV) (x4 : AV) : Ans := EQL Pr 5 true x10 (.int .u8 (nat_lit 9)) fun x22 =>
 IFB x22 (BSL (nat_lit 5) (nat_lit 1) [(.int .u8 (nat_lit 0)), (.int .u8 (nat_lit 0))] (nat_lit 2) [((nat_lit 0), (.int .u8 (nat_lit 92))), ((nat_lit 1), (.int .u8 (nat_lit 116)))] h6 fun x23 h24 =>
 GEN (builtinF .append Pr [22, 22] [x5, x23] h24) cl (fun x25 h26 =>
 j14 x25 h26) kp)
 (JO (fun x29 h30 =>
 B165x45 x29 x0 x4 h30 x5 cl j14 kp) fun j46 =>
 EQL Pr 5 true x10 (.int .u8 (nat_lit 34)) fun x47 =>
 IFB x47 (j46 x47 h6)
 (EQL Pr 5 true x10 (.int .u8 (nat_lit 92)) fun x48 =>
 j46 x48 h6))
noncomputable def B165x50 (x0 : AV) (x4 : AV) (j7 : AV → AV → Heap → Ans) (h6 : Heap) (x5 : AV) (cl : CL) (kp : KP) : Ans := SAT x0 x4 fun x10 =>
 JO (fun x11 h12 =>
 ADD Pr 3 true x4 (.int .i64 (nat_lit 1)) fun x13 =>
 j7 x13 x11 h12) fun j14 =>
 EQL Pr 5 true x10 (.int .u8 (nat_lit 10)) fun x15 =>
 IFB x15 (BSL (nat_lit 5) (nat_lit 1) [(.int .u8 (nat_lit 0)), (.int .u8 (nat_lit 0))] (nat_lit 2) [((nat_lit 0), (.int .u8 (nat_lit 92))), ((nat_lit 1), (.int .u8 (nat_lit 110)))] h6 fun x16 h17 =>
 GEN (builtinF .append Pr [22, 22] [x5, x16] h17) cl (fun x18 h19 =>
 j14 x18 h19) kp)
 (B165x49 x10 h6 x5 cl j14 kp x0 x4)
noncomputable def B165x58 (x0 : AV) (x4 : AV) (j7 : AV → AV → Heap → Ans) (h6 : Heap) (x5 : AV) (cl : CL) (kp : KP) (kr : KR) : Ans := LENT x0 fun x8 =>
 LSS Pr 3 false x4 x8 fun x9 =>
 IFB x9 (B165x50 x0 x4 j7 h6 x5 cl kp)
 (BSL (nat_lit 5) (nat_lit 1) [(.int .u8 (nat_lit 0))] (nat_lit 1) [((nat_lit 0), (.int .u8 (nat_lit 34)))] h6 fun x51 h52 =>
 GEN (builtinF .append Pr [22, 22] [x5, x51] h52) cl (fun x53 h54 =>
 OV (convV Pr h54 22 9 x53) fun x57 =>
 kr x57 h54) kp)
noncomputable def F165 (fu : Nat) (oR : FuncId → List AV → Option AV) (cl : CL) (args : List AV) (h1 : Heap) (kr : KR) (kp : KP) : Ans := AR1 args fun x0 =>
 BSL (nat_lit 5) (nat_lit 1) [(.int .u8 (nat_lit 0))] (nat_lit 1) [((nat_lit 0), (.int .u8 (nat_lit 34)))] h1 fun x2 h3 =>
 LP fu (fun _ _ _ => Ans.no) (fun j7 x4 x5 h6 =>
 B165x58 x0 x4 j7 h6 x5 cl kp kr) (.int .i64 (nat_lit 0)) x2 h3

theorem eqF165 : F165 = fun fu oR => compF Pr fu oR 165 1 := by kernel_rfl

noncomputable def B166x24 (x3 : AV) (h12 : Heap) (x1 : AV) (x5 : AV) (cl : CL) (x11 : AV) (kr : KR) (j8 : AV → AV → Heap → Ans) (kp : KP) : Ans := LDN (nat_lit 2) x3 h12 fun x13 =>
 SA (nat_lit 1) x1 x5 fun x14 =>
 LD x14 h12 fun x15 =>
 cl (nat_lit 105) [x13, x15] h12 (fun x16 h17 =>
 ADD Pr 9 false x11 x16 fun x20 =>
 LENT x20 fun x21 =>
 GTR Pr 3 true x21 (.int .i64 (nat_lit 16000)) fun x22 =>
 IFB x22 (kr x20 h17)
 (ADD Pr 3 true x5 (.int .i64 (nat_lit 1)) fun x23 =>
 j8 x23 x20 h17)) kp
noncomputable def F166 (fu : Nat) (oR : FuncId → List AV → Option AV) (cl : CL) (args : List AV) (h2 : Heap) (kr : KR) (kp : KP) : Ans := AR2 args fun x0 x1 =>
 BOX 37 x0 h2 fun x3 h4 =>
 LP fu (fun _ _ _ => Ans.no) (fun j8 x5 x6 h7 =>
 LENS x1 fun x9 =>
 LSS Pr 3 false x5 x9 fun x10 =>
 IFB x10 (JO (fun x11 h12 =>
 B166x24 x3 h12 x1 x5 cl x11 kr j8 kp) fun j25 =>
 GTR Pr 3 true x5 (.int .i64 (nat_lit 0)) fun x26 =>
 IFB x26 (ADD Pr 9 true x6 (.str (nat_lit 2) (nat_lit 8236)) fun x27 =>
 j25 x27 h7)
 (j25 x6 h7))
 (kr x6 h7)) (.int .i64 (nat_lit 0)) (.str (nat_lit 0) (nat_lit 0)) h4

theorem eqF166 : F166 = fun fu oR => compF Pr fu oR 166 2 := by kernel_rfl

noncomputable def B168x9 (h1 : Heap) (x0 : AV) (kr : KR) : Ans := BSL (nat_lit 9) (nat_lit 1) [(.str (nat_lit 0) (nat_lit 0)), (.str (nat_lit 0) (nat_lit 0)), (.str (nat_lit 0) (nat_lit 0)), (.str (nat_lit 0) (nat_lit 0)), (.str (nat_lit 0) (nat_lit 0)), (.str (nat_lit 0) (nat_lit 0)), (.str (nat_lit 0) (nat_lit 0)), (.str (nat_lit 0) (nat_lit 0)), (.str (nat_lit 0) (nat_lit 0)), (.str (nat_lit 0) (nat_lit 0)), (.str (nat_lit 0) (nat_lit 0)), (.str (nat_lit 0) (nat_lit 0)), (.str (nat_lit 0) (nat_lit 0)), (.str (nat_lit 0) (nat_lit 0)), (.str (nat_lit 0) (nat_lit 0))] (nat_lit 15) [((nat_lit 0), (.str (nat_lit 2) (nat_lit 31868))), ((nat_lit 1), (.str (nat_lit 2) (nat_lit 9766))), ((nat_lit 2), (.str (nat_lit 1) (nat_lit 33))), ((nat_lit 3), (.str (nat_lit 1) (nat_lit 126))), ((nat_lit 4), (.str (nat_lit 2) (nat_lit 32289))), ((nat_lit 5), (.str (nat_lit 1) (nat_lit 60))), ((nat_lit 6), (.str (nat_lit 2) (nat_lit 15676))), ((nat_lit 7), (.str (nat_lit 2) (nat_lit 15677))), ((nat_lit 8), (.str (nat_lit 2) (nat_lit 15649))), ((nat_lit 9), (.str (nat_lit 0) (nat_lit 0))), ((nat_lit 10), (.str (nat_lit 1) (nat_lit 43))), ((nat_lit 11), (.str (nat_lit 1) (nat_lit 45))), ((nat_lit 12), (.str (nat_lit 1) (nat_lit 42))), ((nat_lit 13), (.str (nat_lit 1) (nat_lit 47))), ((nat_lit 14), (.str (nat_lit 1) (nat_lit 37)))] h1 fun x4 h5 =>
 SUB Pr 3 true x0 (.int .i64 (nat_lit 10)) fun x6 =>
 SA (nat_lit 1) x4 x6 fun x7 =>
 LD x7 h5 fun x8 =>
 kr x8 h5
noncomputable def F168 (fu : Nat) (oR : FuncId → List AV → Option AV) (cl : CL) (args : List AV) (h1 : Heap) (kr : KR) (kp : KP) : Ans := AR1 args fun x0 =>
 EQL Pr 3 true x0 (.int .i64 (nat_lit 7)) fun x2 =>
 IFB x2 (kr (.str (nat_lit 1) (nat_lit 61)) h1)
 (EQL Pr 3 true x0 (.int .i64 (nat_lit 8)) fun x3 =>
 IFB x3 (kr (.str (nat_lit 2) (nat_lit 15659)) h1)
 (B168x9 h1 x0 kr))

theorem eqF168 : F168 = fun fu oR => compF Pr fu oR 168 1 := by kernel_rfl

noncomputable def F169 (fu : Nat) (oR : FuncId → List AV → Option AV) (cl : CL) (args : List AV) (h3 : Heap) (kr : KR) (kp : KP) : Ans := AR3 args fun x0 x1 x2 =>
 BOX 37 x0 h3 fun x4 h5 =>
 LENS x2 fun x6 =>
 EQL Pr 3 true x6 (.int .i64 (nat_lit 0)) fun x7 =>
 IFB x7 (ADD Pr 9 true x1 (.str (nat_lit 1) (nat_lit 59)) fun x8 =>
 kr x8 h5)
 (ADD Pr 9 true x1 (.str (nat_lit 1) (nat_lit 32)) fun x9 =>
 LDN (nat_lit 2) x4 h5 fun x10 =>
 cl (nat_lit 166) [x10, x2] h5 (fun x11 h12 =>
 ADD Pr 9 false x9 x11 fun x15 =>
 ADD Pr 9 true x15 (.str (nat_lit 1) (nat_lit 59)) fun x16 =>
 kr x16 h12) kp)

theorem eqF169 : F169 = fun fu oR => compF Pr fu oR 169 3 := by kernel_rfl

noncomputable def B173x112 (x97 : AV) (x102 : AV) (x0 : AV) (x65 : AV) (cl : CL) (x1 : AV) (h103 : Heap) (kr : KR) (kp : KP) (j41 : AV → AV → Heap → Ans) (x66 : AV) : Ans := SEL x97 x102 (.bool false) fun x104 =>
 IFB x104 (OV (sliceA Pr 9 x0 (some x65) none none) fun x105 =>
 cl (nat_lit 235) [x105, x1] h103 (fun x106 h107 =>
 LSS Pr 3 true x106 (.int .i64 (nat_lit 0)) fun x110 =>
 IFB x110 (kr (.int .i64 (nat_lit 18446744073709551615)) h107)
 (ADD Pr 3 false x65 x106 fun x111 =>
 kr x111 h107)) kp)
 (j41 x66 x65 h103)
noncomputable def B173x117 (x86 : AV) (x95 : AV) (x0 : AV) (x65 : AV) (cl : CL) (x1 : AV) (kr : KR) (kp : KP) (j41 : AV → AV → Heap → Ans) (x66 : AV) (x37 : AV) (h96 : Heap) : Ans := SEL x86 x95 (.bool false) fun x97 =>
 JO (fun x98 h99 =>
 JO (fun x100 h101 =>
 JO (fun x102 h103 =>
 B173x112 x97 x102 x0 x65 cl x1 h103 kr kp j41 x66) fun j113 =>
 GW true x97 (LSS Pr 3 false x98 x100 fun x114 =>
 j113 x114 h101)
 (j113 undefA h101)) fun j115 =>
 GW true x97 (j115 x37 h99)
 (j115 undefA h99)) fun j116 =>
 GW true x97 (j116 x65 h96)
 (j116 undefA h96)
noncomputable def B173x124 (x86 : AV) (x0 : AV) (x65 : AV) (cl : CL) (x1 : AV) (kr : KR) (kp : KP) (j41 : AV → AV → Heap → Ans) (x66 : AV) (x37 : AV) (x87 : AV) (x89 : AV) (h90 : Heap) : Ans := JO (fun x91 h92 =>
 JO (fun x93 h94 =>
 JO (fun x95 h96 =>
 B173x117 x86 x95 x0 x65 cl x1 kr kp j41 x66 x37 h96) fun j118 =>
 GW true x86 (GEQ Pr 3 false x87 x93 fun x119 =>
 j118 x119 h94)
 (j118 undefA h94)) fun j120 =>
 GW true x86 (ADD Pr 3 true (.int .i64 (nat_lit 4)) x91 fun x121 =>
 j120 x121 h92)
 (j120 undefA h92)) fun j122 =>
 GW true x86 (BOP Pr .shr 3 true x89 (.int .u64 (nat_lit 4)) fun x123 =>
 j122 x123 h90)
 (j122 undefA h90)
noncomputable def B173x127 (x68 : AV) (x75 : AV) (x0 : AV) (x65 : AV) (h76 : Heap) (x1 : AV) (cl : CL) (kr : KR) (kp : KP) (x3 : AV) (j41 : AV → AV → Heap → Ans) (x66 : AV) (x37 : AV) : Ans := SEL x68 x75 (.bool false) fun x77 =>
 IFB x77 (OV (sliceA Pr 9 x0 (some x65) none none) fun x78 =>
 GEN (callF Pr h76 233 [x78, x1]) cl (fun x79 h80 =>
 GEQ Pr 3 true x79 (.int .i64 (nat_lit 0)) fun x83 =>
 IFB x83 (ADD Pr 3 false x79 x65 fun x84 =>
 kr x84 h80)
 (kr (.int .i64 (nat_lit 18446744073709551615)) h80)) kp)
 (LD (.ptr (nat_lit 0) (nat_lit 0)) h76 fun x85 =>
 GTR Pr 3 false x3 x85 fun x86 =>
 JO (fun x87 h88 =>
 JO (fun x89 h90 =>
 B173x124 x86 x0 x65 cl x1 kr kp j41 x66 x37 x87 x89 h90) fun j125 =>
 GW true x86 (j125 x65 h88)
 (j125 undefA h88)) fun j126 =>
 GW true x86 (j126 x66 h76)
 (j126 undefA h76))
noncomputable def B173x136 (x68 : AV) (x0 : AV) (x65 : AV) (x1 : AV) (cl : CL) (kr : KR) (kp : KP) (x3 : AV) (j41 : AV → AV → Heap → Ans) (x66 : AV) (x37 : AV) (x69 : AV) (h70 : Heap) : Ans := JO (fun x71 h72 =>
 JO (fun x73 h74 =>
 JO (fun x75 h76 =>
 B173x127 x68 x75 x0 x65 h76 x1 cl kr kp x3 j41 x66 x37) fun j128 =>
 GW true x68 (GTR Pr 3 false x69 x73 fun x129 =>
 j128 x129 h74)
 (j128 undefA h74)) fun j130 =>
 GW true x68 (cl (nat_lit 234) [x71] h72 (fun x131 h132 =>
 j130 x131 h132) kp)
 (j130 undefA h72)) fun j135 =>
 GW true x68 (j135 x65 h70)
 (j135 undefA h70)
noncomputable def B173x138 (x43 : AV) (x38 : AV) (h63 : Heap) (x3 : AV) (x0 : AV) (x1 : AV) (cl : CL) (kr : KR) (kp : KP) (j41 : AV → AV → Heap → Ans) (x37 : AV) : Ans := ADD Pr 3 true x43 (.int .i64 (nat_lit 1)) fun x65 =>
 ADD Pr 3 true x38 (.int .i64 (nat_lit 1)) fun x66 =>
 LD (.ptr (nat_lit 0) (nat_lit 0)) h63 fun x67 =>
 LEQ Pr 3 false x3 x67 fun x68 =>
 JO (fun x69 h70 =>
 B173x136 x68 x0 x65 x1 cl kr kp x3 j41 x66 x37 x69 h70) fun j137 =>
 GW true x68 (j137 x66 h63)
 (j137 undefA h63)
noncomputable def B173x144 (x47 : AV) (kr : KR) (x43 : AV) (x38 : AV) (x3 : AV) (x0 : AV) (x1 : AV) (cl : CL) (kp : KP) (j41 : AV → AV → Heap → Ans) (x37 : AV) (x48 : AV) (x50 : AV) (x56 : AV) (h57 : Heap) : Ans := JO (fun x58 h59 =>
 JO (fun x60 h61 =>
 JO (fun x62 h63 =>
 SEL x47 x62 (.bool false) fun x64 =>
 IFB x64 (kr x43 h63)
 (B173x138 x43 x38 h63 x3 x0 x1 cl kr kp j41 x37)) fun j139 =>
 GW true x47 (EQL Pr 9 false x58 x60 fun x140 =>
 j139 x140 h61)
 (j139 undefA h61)) fun j141 =>
 GW true x47 (j141 x1 h59)
 (j141 undefA h59)) fun j142 =>
 GW true x47 (OV (sliceA Pr 9 x48 (some x50) (some x56) none) fun x143 =>
 j142 x143 h57)
 (j142 undefA h57)
noncomputable def B173x149 (x47 : AV) (kr : KR) (x43 : AV) (x38 : AV) (x3 : AV) (x0 : AV) (x1 : AV) (cl : CL) (kp : KP) (j41 : AV → AV → Heap → Ans) (x37 : AV) (x48 : AV) (x50 : AV) (h51 : Heap) : Ans := JO (fun x52 h53 =>
 JO (fun x54 h55 =>
 JO (fun x56 h57 =>
 B173x144 x47 kr x43 x38 x3 x0 x1 cl kp j41 x37 x48 x50 x56 h57) fun j145 =>
 GW true x47 (ADD Pr 3 false x52 x54 fun x146 =>
 j145 x146 h55)
 (j145 undefA h55)) fun j147 =>
 GW true x47 (j147 x3 h53)
 (j147 undefA h53)) fun j148 =>
 GW true x47 (j148 x43 h51)
 (j148 undefA h51)
noncomputable def B173x152 (x43 : AV) (x0 : AV) (x34 : AV) (kr : KR) (x38 : AV) (x3 : AV) (x1 : AV) (cl : CL) (kp : KP) (j41 : AV → AV → Heap → Ans) (x37 : AV) (h44 : Heap) : Ans := ADD Pr 3 true x43 (.int .i64 (nat_lit 1)) fun x45 =>
 SAT x0 x45 fun x46 =>
 EQL Pr 5 false x46 x34 fun x47 =>
 JO (fun x48 h49 =>
 JO (fun x50 h51 =>
 B173x149 x47 kr x43 x38 x3 x0 x1 cl kp j41 x37 x48 x50 h51) fun j150 =>
 GW true x47 (j150 x43 h49)
 (j150 undefA h49)) fun j151 =>
 GW true x47 (j151 x0 h44)
 (j151 undefA h44)
noncomputable def B173x165 (x39 : AV) (x0 : AV) (x37 : AV) (cl : CL) (x33 : AV) (h40 : Heap) (kr : KR) (j153 : AV → Heap → Ans) (kp : KP) : Ans := ADD Pr 3 true x39 (.int .i64 (nat_lit 1)) fun x156 =>
 OV (sliceA Pr 9 x0 (some x156) (some x37) none) fun x157 =>
 cl (nat_lit 232) [x157, x33] h40 (fun x158 h159 =>
 LSS Pr 3 true x158 (.int .i64 (nat_lit 0)) fun x162 =>
 IFB x162 (kr (.int .i64 (nat_lit 18446744073709551615)) h159)
 (ADD Pr 3 true x158 (.int .i64 (nat_lit 1)) fun x163 =>
 ADD Pr 3 false x39 x163 fun x164 =>
 j153 x164 h159)) kp
noncomputable def B173x166 (x39 : AV) (x37 : AV) (x0 : AV) (x34 : AV) (kr : KR) (x38 : AV) (x3 : AV) (x1 : AV) (cl : CL) (kp : KP) (j41 : AV → AV → Heap → Ans) (x33 : AV) (h40 : Heap) : Ans := LSS Pr 3 false x39 x37 fun x42 =>
 IFB x42 (JO (fun x43 h44 =>
 B173x152 x43 x0 x34 kr x38 x3 x1 cl kp j41 x37 h44) fun j153 =>
 SAT x0 x39 fun x154 =>
 NEQ Pr 5 false x154 x33 fun x155 =>
 IFB x155 (B173x165 x39 x0 x37 cl x33 h40 kr j153 kp)
 (j153 x39 h40))
 (kr (.int .i64 (nat_lit 18446744073709551615)) h40)
noncomputable def B173x167 (x1 : AV) (x0 : AV) (x3 : AV) (fu : Nat) (kr : KR) (cl : CL) (kp : KP) (h27 : Heap) : Ans := SAT x1 (.int .i64 (nat_lit 0)) fun x33 =>
 SAT x1 (.int .i64 (nat_lit 1)) fun x34 =>
 LENT x0 fun x35 =>
 SUB Pr 3 false x35 x3 fun x36 =>
 ADD Pr 3 true x36 (.int .i64 (nat_lit 1)) fun x37 =>
 LP fu (fun _ _ _ => Ans.no) (fun j41 x38 x39 h40 =>
 B173x166 x39 x37 x0 x34 kr x38 x3 x1 cl kp j41 x33 h40) (.int .i64 (nat_lit 0)) (.int .i64 (nat_lit 0)) h27
noncomputable def B173x172 (x21 : AV) (x0 : AV) (x1 : AV) (cl : CL) (kr : KR) (kp : KP) (x3 : AV) (fu : Nat) (x22 : AV) (h23 : Heap) : Ans := JO (fun x24 h25 =>
 JO (fun x26 h27 =>
 SEL x21 x26 (.bool false) fun x28 =>
 IFB x28 (GEN (callF Pr h27 233 [x0, x1]) cl (fun x29 h30 =>
 kr x29 h30) kp)
 (B173x167 x1 x0 x3 fu kr cl kp h27)) fun j168 =>
 GW true x21 (LEQ Pr 3 true x24 (.int .i64 (nat_lit 64)) fun x169 =>
 j168 x169 h25)
 (j168 undefA h25)) fun j170 =>
 GW true x21 (LENT x22 fun x171 =>
 j170 x171 h23)
 (j170 undefA h23)
noncomputable def B173x174 (x0 : AV) (x3 : AV) (kr : KR) (h10 : Heap) (x1 : AV) (cl : CL) (kp : KP) (fu : Nat) : Ans := LENT x0 fun x18 =>
 GEQ Pr 3 false x3 x18 fun x19 =>
 IFB x19 (kr (.int .i64 (nat_lit 18446744073709551615)) h10)
 (LD (.ptr (nat_lit 0) (nat_lit 0)) h10 fun x20 =>
 LEQ Pr 3 false x3 x20 fun x21 =>
 JO (fun x22 h23 =>
 B173x172 x21 x0 x1 cl kr kp x3 fu x22 h23) fun j173 =>
 GW true x21 (j173 x0 h10)
 (j173 undefA h10))
noncomputable def B173x177 (x4 : AV) (kr : KR) (x3 : AV) (x1 : AV) (cl : CL) (x0 : AV) (kp : KP) (fu : Nat) (x5 : AV) (x7 : AV) (h8 : Heap) : Ans := JO (fun x9 h10 =>
 SEL x4 (.bool true) x9 fun x11 =>
 IFB x11 (kr (.int .i64 (nat_lit 0)) h10)
 (EQL Pr 3 true x3 (.int .i64 (nat_lit 1)) fun x12 =>
 IFB x12 (SAT x1 (.int .i64 (nat_lit 0)) fun x13 =>
 cl (nat_lit 232) [x0, x13] h10 (fun x14 h15 =>
 kr x14 h15) kp)
 (B173x174 x0 x3 kr h10 x1 cl kp fu))) fun j175 =>
 GW false x4 (EQL Pr 9 false x5 x7 fun x176 =>
 j175 x176 h8)
 (j175 undefA h8)
noncomputable def F173 (fu : Nat) (oR : FuncId → List AV → Option AV) (cl : CL) (args : List AV) (h2 : Heap) (kr : KR) (kp : KP) : Ans := AR2 args fun x0 x1 =>
 LENT x1 fun x3 =>
 EQL Pr 3 true x3 (.int .i64 (nat_lit 0)) fun x4 =>
 JO (fun x5 h6 =>
 JO (fun x7 h8 =>
 B173x177 x4 kr x3 x1 cl x0 kp fu x5 x7 h8) fun j178 =>
 GW false x4 (j178 x0 h6)
 (j178 undefA h6)) fun j179 =>
 GW false x4 (j179 x1 h2)
 (j179 undefA h2)

theorem eqF173 : F173 = fun fu oR => compF Pr fu oR 173 2 := by kernel_rfl

noncomputable def F174 (fu : Nat) (oR : FuncId → List AV → Option AV) (cl : CL) (args : List AV) (h1 : Heap) (kr : KR) (kp : KP) : Ans := AR1 args fun x0 =>
 NC x0 fun x2 =>
 FA (nat_lit 0) x2 fun x3 =>
 LD x3 h1 fun x4 =>
 EQL Pr 82 true x4 (.nilp) fun x5 =>
 IFB x5 (OV (convV Pr h1 82 248 x0) fun x6 =>
 GEN (callF Pr h1 236 [x6]) cl (fun x7 h8 =>
 OV (convV Pr h8 248 82 x7) fun x11 =>
 NC x0 fun x12 =>
 FA (nat_lit 0) x12 fun x13 =>
 ST (nat_lit 1) x13 x11 h8 fun h14 =>
 kr (.tuple []) h14) kp)
 (NC x0 fun x15 =>
 FA (nat_lit 0) x15 fun x16 =>
 LD x16 h1 fun x17 =>
 NEQ Pr 82 false x17 x0 fun x18 =>
 IFB x18 (Ans.no)
 (kr (.tuple []) h1))

theorem eqF174 : F174 = fun fu oR => compF Pr fu oR 174 1 := by kernel_rfl

noncomputable def F175 (fu : Nat) (oR : FuncId → List AV → Option AV) (cl : CL) (args : List AV) (h1 : Heap) (kr : KR) (kp : KP) : Ans := AR1 args fun x0 =>
 cl (nat_lit 23) [x0, (.int .i64 (nat_lit 18446735073709551616)), (.int .i64 (nat_lit 9000000000000))] h1 (fun x2 h3 =>
 kr x2 h3) kp

theorem eqF175 : F175 = fun fu oR => compF Pr fu oR 175 1 := by kernel_rfl

noncomputable def F176 (fu : Nat) (oR : FuncId → List AV → Option AV) (cl : CL) (args : List AV) (h1 : Heap) (kr : KR) (kp : KP) : Ans := AR1 args fun x0 =>
 cl (nat_lit 237) [x0] h1 (fun x2 h3 =>
 kr x2 h3) kp

theorem eqF176 : F176 = fun fu oR => compF Pr fu oR 176 1 := by kernel_rfl

noncomputable def B177x40 (cl : CL) (x1 : AV) (h16 : Heap) (x0 : AV) (kr : KR) (kp : KP) : Ans := cl (nat_lit 239) [x1] h16 (fun x23 h24 =>
 EX (nat_lit 0) x23 fun x27 =>
 EX (nat_lit 1) x23 fun x28 =>
 NEWC (.n (some (.bool false)) (.n (some (.bool false)) (.n (some (.bool false)) (.n (some (.bool false)) (.n (some (.bool false)) (.n (some (.bool false)) (.n (some (.bool false)) (.n (some (.bool false)) (.n (some (.bool false)) .e .e) .e) (.n (some (.bool false)) .e .e)) (.n (some (.bool false)) (.n (some (.bool false)) .e .e) (.n (some (.bool false)) .e .e))) (.n (some (.bool false)) (.n (some (.bool false)) (.n (some (.bool false)) .e .e) (.n (some (.bool false)) .e .e)) (.n (some (.bool false)) (.n (some (.bool false)) .e .e) (.n (some (.bool false)) .e .e)))) (.n (some (.bool false)) (.n (some (.bool false)) (.n (some (.bool false)) (.n (some (.bool false)) .e .e) (.n (some (.bool false)) .e .e)) (.n (some (.bool false)) (.n (some (.bool false)) .e .e) (.n (some (.bool false)) .e .e))) (.n (some (.bool false)) (.n (some (.bool false)) (.n (some (.bool false)) .e .e) (.n (some (.bool false)) .e .e)) (.n (some (.bool false)) (.n (some (.bool false)) .e .e) (.n (some (.bool false)) .e .e))))) (.n (some (.bool false)) (.n (some (.bool false)) (.n (some (.bool false)) (.n (some (.bool false)) (.n (some (.bool false)) .e .e) (.n (some (.bool false)) .e .e)) (.n (some (.bool false)) (.n (some (.bool false)) .e .e) (.n (some (.bool false)) .e .e))) (.n (some (.bool false)) (.n (some (.bool false)) (.n (some (.bool false)) .e .e) (.n (some (.bool false)) .e .e)) (.n (some (.bool false)) (.n (some (.bool false)) .e .e) (.n (some (.bool false)) .e .e)))) (.n (some (.bool false)) (.n (some (.bool false)) (.n (some (.bool false)) (.n (some (.bool false)) .e .e) (.n (some (.bool false)) .e .e)) (.n (some (.bool false)) (.n (some (.bool false)) .e .e) (.n (some (.bool false)) .e .e))) (.n (some (.bool false)) (.n (some (.bool false)) (.n (some (.bool false)) .e .e) (.n (some (.bool false)) .e .e)) (.n (some (.bool false)) (.n (some (.bool false)) .e .e) (.n (some (.bool false)) .e .e)))))) (.n (some (.bool false)) (.n (some (.bool false)) (.n (some (.bool false)) (.n (some (.bool false)) (.n (some (.bool false)) (.n (some (.bool false)) .e .e) (.n (some (.bool false)) .e .e)) (.n (some (.bool false)) (.n (some (.bool false)) .e .e) (.n (some (.bool false)) .e .e))) (.n (some (.bool false)) (.n (some (.bool false)) (.n (some (.bool false)) .e .e) (.n (some (.bool false)) .e .e)) (.n (some (.bool false)) (.n (some (.bool false)) .e .e) (.n (some (.bool false)) .e .e)))) (.n (some (.bool false)) (.n (some (.bool false)) (.n (some (.bool false)) (.n (some (.bool false)) .e .e) (.n (some (.bool false)) .e .e)) (.n (some (.bool false)) (.n (some (.bool false)) .e .e) (.n (some (.bool false)) .e .e))) (.n (some (.bool false)) (.n (some (.bool false)) (.n (some (.bool false)) .e .e) (.n (some (.bool false)) .e .e)) (.n (some (.bool false)) (.n (some (.bool false)) .e .e) (.n (some (.bool false)) .e .e))))) (.n (some (.bool false)) (.n (some (.bool false)) (.n (some (.bool false)) (.n (some (.bool false)) (.n (some (.bool false)) .e .e) (.n (some (.bool false)) .e .e)) (.n (some (.bool false)) (.n (some (.bool false)) .e .e) (.n (some (.bool false)) .e .e))) (.n (some (.bool false)) (.n (some (.bool false)) (.n (some (.bool false)) .e .e) (.n (some (.bool false)) .e .e)) (.n (some (.bool false)) (.n (some (.bool false)) .e .e) (.n (some (.bool false)) .e .e)))) (.n (some (.bool false)) (.n (some (.bool false)) (.n (some (.bool false)) (.n (some (.bool false)) .e .e) (.n (some (.bool false)) .e .e)) (.n (some (.bool false)) (.n (some (.bool false)) .e .e) (.n (some (.bool false)) .e .e))) (.n (some (.bool false)) (.n (some (.bool false)) (.n (some (.bool false)) .e .e) (.n (some (.bool false)) .e .e)) (.n (some (.bool false)) (.n (some (.bool false)) .e .e) (.n (some (.bool false)) .e .e))))))) (.n (some (.bool false)) (.n (some (.bool false)) (.n (some (.bool false)) (.n (some (.bool false)) (.n (some (.bool false)) (.n (some (.bool false)) (.n (some (.bool false)) .e .e) (.n (some (.bool false)) .e .e)) (.n (some (.bool false)) (.n (some (.bool false)) .e .e) (.n (some (.bool false)) .e .e))) (.n (some (.bool false)) (.n (some (.bool false)) (.n (some (.bool false)) .e .e) (.n (some (.bool false)) .e .e)) (.n (some (.bool false)) (.n (some (.bool false)) .e .e) (.n (some (.bool false)) .e .e)))) (.n (some (.bool false)) (.n (some (.bool false)) (.n (some (.bool false)) (.n (some (.bool false)) .e .e) (.n (some (.bool false)) .e .e)) (.n (some (.bool false)) (.n (some (.bool false)) .e .e) (.n (some (.bool false)) .e .e))) (.n (some (.bool false)) (.n (some (.bool false)) (.n (some (.bool false)) .e .e) (.n (some (.bool false)) .e .e)) (.n (some (.bool false)) (.n (some (.bool false)) .e .e) (.n (some (.bool false)) .e .e))))) (.n (some (.bool false)) (.n (some (.bool false)) (.n (some (.bool false)) (.n (some (.bool false)) (.n (some (.bool false)) .e .e) (.n (some (.bool false)) .e .e)) (.n (some (.bool false)) (.n (some (.bool false)) .e .e) (.n (some (.bool false)) .e .e))) (.n (some (.bool false)) (.n (some (.bool false)) (.n (some (.bool false)) .e .e) (.n (some (.bool false)) .e .e)) (.n (some (.bool false)) (.n (some (.bool false)) .e .e) (.n (some (.bool false)) .e .e)))) (.n (some (.bool false)) (.n (some (.bool false)) (.n (some (.bool false)) (.n (some (.bool false)) .e .e) (.n (some (.bool false)) .e .e)) (.n (some (.bool false)) (.n (some (.bool false)) .e .e) (.n (some (.bool false)) .e .e))) (.n (some (.bool false)) (.n (some (.bool false)) (.n (some (.bool false)) .e .e) (.n (some (.bool false)) .e .e)) (.n (some (.bool false)) (.n (some (.bool false)) .e .e) (.n (some (.bool false)) .e .e)))))) (.n (some (.bool false)) (.n (some (.bool false)) (.n (some (.bool false)) (.n (some (.bool false)) (.n (some (.bool false)) (.n (some (.bool false)) .e .e) (.n (some (.bool false)) .e .e)) (.n (some (.bool false)) (.n (some (.bool false)) .e .e) (.n (some (.bool false)) .e .e))) (.n (some (.bool false)) (.n (some (.bool false)) (.n (some (.bool false)) .e .e) (.n (some (.bool false)) .e .e)) (.n (some (.bool false)) (.n (some (.bool false)) .e .e) (.n (some (.bool false)) .e .e)))) (.n (some (.bool false)) (.n (some (.bool false)) (.n (some (.bool false)) (.n (some (.bool false)) .e .e) (.n (some (.bool false)) .e .e)) (.n (some (.bool false)) (.n (some (.bool false)) .e .e) (.n (some (.bool false)) .e .e))) (.n (some (.bool false)) (.n (some (.bool false)) (.n (some (.bool false)) .e .e) (.n (some (.bool false)) .e .e)) (.n (some (.bool false)) (.n (some (.bool false)) .e .e) (.n (some (.bool false)) .e .e))))) (.n (some (.bool false)) (.n (some (.bool false)) (.n (some (.bool false)) (.n (some (.bool false)) (.n (some (.bool false)) .e .e) (.n (some (.bool false)) .e .e)) (.n (some (.bool false)) (.n (some (.bool false)) .e .e) (.n (some (.bool false)) .e .e))) (.n (some (.bool false)) (.n (some (.bool false)) (.n (some (.bool false)) .e .e) (.n (some (.bool false)) .e .e)) (.n (some (.bool false)) (.n (some (.bool false)) .e .e) (.n (some (.bool false)) .e .e)))) (.n (some (.bool false)) (.n (some (.bool false)) (.n (some (.bool false)) (.n (some (.bool false)) .e .e) (.n (some (.bool false)) .e .e)) (.n (some (.bool false)) (.n (some (.bool false)) .e .e) (.n (some (.bool false)) .e .e))) (.n (some (.bool false)) (.n (some (.bool false)) (.n (some (.bool false)) .e .e) (.n (some (.bool false)) .e .e)) (.n (some (.bool false)) (.n (some (.bool false)) .e .e) (.n (some (.bool false)) .e .e)))))))) (nat_lit 256) 252 h24 fun x29 h30 =>
 ST (nat_lit 256) x29 x27 h30 fun h31 =>
 IFB x28 (cl (nat_lit 240) [x0, x29] h31 (fun x32 h33 =>
 kr x32 h33) kp)
 (cl (nat_lit 241) [x0, x1] h31 (fun x36 h37 =>
 kr x36 h37) kp)) kp
noncomputable def B177x43 (x10 : AV) (x1 : AV) (cl : CL) (x0 : AV) (kr : KR) (kp : KP) (x13 : AV) (h14 : Heap) : Ans := JO (fun x15 h16 =>
 SEL x10 x15 (.bool false) fun x17 =>
 IFB x17 (SAT x1 (.int .i64 (nat_lit 0)) fun x18 =>
 cl (nat_lit 238) [x0, x18] h16 (fun x19 h20 =>
 kr x19 h20) kp)
 (B177x40 cl x1 h16 x0 kr kp)) fun j41 =>
 GW true x10 (LSS Pr 5 true x13 (.int .u8 (nat_lit 128)) fun x42 =>
 j41 x42 h14)
 (j41 undefA h14)
noncomputable def B177x47 (x3 : AV) (x6 : AV) (kr : KR) (x0 : AV) (h7 : Heap) (x1 : AV) (cl : CL) (kp : KP) : Ans := SEL x3 (.bool true) x6 fun x8 =>
 IFB x8 (kr x0 h7)
 (LENT x1 fun x9 =>
 EQL Pr 3 true x9 (.int .i64 (nat_lit 1)) fun x10 =>
 JO (fun x11 h12 =>
 JO (fun x13 h14 =>
 B177x43 x10 x1 cl x0 kr kp x13 h14) fun j44 =>
 GW true x10 (SAT x11 (.int .i64 (nat_lit 0)) fun x45 =>
 j44 x45 h12)
 (j44 undefA h12)) fun j46 =>
 GW true x10 (j46 x1 h7)
 (j46 undefA h7))
noncomputable def F177 (fu : Nat) (oR : FuncId → List AV → Option AV) (cl : CL) (args : List AV) (h2 : Heap) (kr : KR) (kp : KP) : Ans := AR2 args fun x0 x1 =>
 EQL Pr 9 true x0 (.str (nat_lit 0) (nat_lit 0)) fun x3 =>
 JO (fun x4 h5 =>
 JO (fun x6 h7 =>
 B177x47 x3 x6 kr x0 h7 x1 cl kp) fun j48 =>
 GW false x3 (EQL Pr 9 true x4 (.str (nat_lit 0) (nat_lit 0)) fun x49 =>
 j48 x49 h5)
 (j48 undefA h5)) fun j50 =>
 GW false x3 (j50 x1 h2)
 (j50 undefA h2)

theorem eqF177 : F177 = fun fu oR => compF Pr fu oR 177 2 := by kernel_rfl

noncomputable def F178 (fu : Nat) (oR : FuncId → List AV → Option AV) (cl : CL) (args : List AV) (h2 : Heap) (kr : KR) (kp : KP) : Ans := AR2 args fun x0 x1 =>
 cl (nat_lit 232) [x0, x1] h2 (fun x3 h4 =>
 kr x3 h4) kp

theorem eqF178 : F178 = fun fu oR => compF Pr fu oR 178 2 := by kernel_rfl

noncomputable def F179 (fu : Nat) (oR : FuncId → List AV → Option AV) (cl : CL) (args : List AV) (h2 : Heap) (kr : KR) (kp : KP) : Ans := AR2 args fun x0 x1 =>
 NC x0 fun x3 =>
 FA (nat_lit 1) x3 fun x4 =>
 LD x4 h2 fun x5 =>
 OPV (builtinF .cap Pr [22] [x5] h2) fun x6 =>
 BOP Pr .mul 3 true (.int .i64 (nat_lit 2)) x6 fun x7 =>
 ADD Pr 3 false x7 x1 fun x8 =>
 NC x0 fun x9 =>
 FA (nat_lit 1) x9 fun x10 =>
 LD x10 h2 fun x11 =>
 LENS x11 fun x12 =>
 GEN (callF Pr h2 242 [x8]) cl (fun x13 h14 =>
 LD x10 h14 fun x17 =>
 EQV x11 x17 <|
 OV (sliceA Pr 22 x13 none (some x12) none) fun x18 =>
 NC x0 fun x19 =>
 FA (nat_lit 1) x19 fun x20 =>
 LD x20 h14 fun x21 =>
 GEN (builtinF .copy Pr [22, 22] [x18, x21] h14) cl (fun x22 h23 =>
 NC x0 fun x26 =>
 FA (nat_lit 1) x26 fun x27 =>
 ST (nat_lit 1) x27 x18 h23 fun h28 =>
 kr (.tuple []) h28) kp) kp

theorem eqF179 : F179 = fun fu oR => compF Pr fu oR 179 2 := by kernel_rfl

noncomputable def F180 (fu : Nat) (oR : FuncId → List AV → Option AV) (cl : CL) (args : List AV) (h1 : Heap) (kr : KR) (kp : KP) : Ans := AR1 args fun x0 =>
 GEQ Pr 5 true x0 (.int .u8 (nat_lit 48)) fun x2 =>
 JO (fun x3 h4 =>
 JO (fun x5 h6 =>
 SEL x2 x5 (.bool false) fun x7 =>
 kr x7 h6) fun j8 =>
 GW true x2 (LEQ Pr 5 true x3 (.int .u8 (nat_lit 57)) fun x9 =>
 j8 x9 h4)
 (j8 undefA h4)) fun j10 =>
 GW true x2 (j10 x0 h1)
 (j10 undefA h1)

theorem eqF180 : F180 = fun fu oR => compF Pr fu oR 180 1 := by kernel_rfl

noncomputable def B181x44 (x28 : AV) (x31 : AV) (h33 : Heap) (x32 : AV) (j34 : AV → AV → Heap → Ans) : Ans := SA (nat_lit 1) x28 x31 fun x36 =>
 LD x36 h33 fun x37 =>
 BOP Pr .mul 3 true x32 (.int .i64 (nat_lit 10)) fun x38 =>
 SUB Pr 5 true x37 (.int .u8 (nat_lit 48)) fun x39 =>
 OV (convV Pr h33 5 3 x39) fun x40 =>
 ADD Pr 3 false x38 x40 fun x41 =>
 OPV (builtinF .min Pr [3, 3] [x41, (.int .i64 (nat_lit 9000000000001))] h33) fun x42 =>
 ADD Pr 3 true x31 (.int .i64 (nat_lit 1)) fun x43 =>
 j34 x43 x42 h33
noncomputable def B181x50 (x16 : AV) (x14 : AV) (h23 : Heap) (fu : Nat) (kr : KR) (x17 : AV) (x6 : AV) : Ans := ADD Pr 9 true x16 (.str (nat_lit 6) (nat_lit 52983525027888)) fun x25 =>
 OV (sliceA Pr 9 x25 none (some (.int .i64 (nat_lit 6))) none) fun x26 =>
 ADD Pr 9 false x14 x26 fun x27 =>
 OVH (convB Pr h23 22 x27) fun x28 h29 =>
 LENS x28 fun x30 =>
 LP fu (fun _ _ _ => Ans.no) (fun j34 x31 x32 h33 =>
 LSS Pr 3 false x31 x30 fun x35 =>
 IFB x35 (B181x44 x28 x31 h33 x32 j34)
 (OPV (builtinF .min Pr [3, 3] [x32, (.int .i64 (nat_lit 9000000000000))] h33) fun x45 =>
 JO (fun x46 h47 =>
 kr (.tuple [x46, x17]) h47) fun j48 =>
 IFB x6 (OV (unOpA .neg x45) fun x49 =>
 j48 x49 h33)
 (j48 x45 h33))) (.int .i64 (nat_lit 0)) (.int .i64 (nat_lit 0)) h29
noncomputable def B181x54 (x14 : AV) (kr : KR) (x16 : AV) (fu : Nat) (x17 : AV) (x6 : AV) (h18 : Heap) : Ans := EQL Pr 9 true x14 (.str (nat_lit 0) (nat_lit 0)) fun x19 =>
 JO (fun x20 h21 =>
 JO (fun x22 h23 =>
 SEL x19 x22 (.bool false) fun x24 =>
 IFB x24 (kr (.tuple [(.int .i64 (nat_lit 0)), (.int .i64 (nat_lit 0))]) h23)
 (B181x50 x16 x14 h23 fu kr x17 x6)) fun j51 =>
 GW true x19 (EQL Pr 9 true x20 (.str (nat_lit 0) (nat_lit 0)) fun x52 =>
 j51 x52 h21)
 (j51 undefA h21)) fun j53 =>
 GW true x19 (j53 x16 h18)
 (j53 undefA h18)
noncomputable def B181x80 (x15 : AV) (x68 : AV) (x0 : AV) (j55 : AV → AV → Heap → Ans) (h69 : Heap) : Ans := ADD Pr 3 true x15 (.int .i64 (nat_lit 1)) fun x74 =>
 ADD Pr 3 true x15 (.int .i64 (nat_lit 1)) fun x75 =>
 ADD Pr 3 false x75 x68 fun x76 =>
 OV (sliceA Pr 9 x0 (some x74) (some x76) none) fun x77 =>
 ADD Pr 3 true (.int .i64 (nat_lit 1)) x68 fun x78 =>
 ADD Pr 3 false x15 x78 fun x79 =>
 j55 x77 x79 h69
noncomputable def B181x81 (x57 : AV) (x64 : AV) (x15 : AV) (cl : CL) (x0 : AV) (h65 : Heap) (x9 : AV) (j55 : AV → AV → Heap → Ans) (kp : KP) : Ans := SEL x57 x64 (.bool false) fun x66 =>
 IFB x66 (ADD Pr 3 true x15 (.int .i64 (nat_lit 1)) fun x67 =>
 cl (nat_lit 121) [x0, x67, (.func (.func 180) [] [])] h65 (fun x68 h69 =>
 ADD Pr 3 false x9 x68 fun x72 =>
 GTR Pr 3 true x72 (.int .i64 (nat_lit 0)) fun x73 =>
 IFB x73 (B181x80 x15 x68 x0 j55 h69)
 (j55 (.str (nat_lit 0) (nat_lit 0)) x15 h69)) kp)
 (j55 (.str (nat_lit 0) (nat_lit 0)) x15 h65)
noncomputable def B181x87 (x57 : AV) (x15 : AV) (cl : CL) (x0 : AV) (x9 : AV) (j55 : AV → AV → Heap → Ans) (kp : KP) (x58 : AV) (h59 : Heap) : Ans := JO (fun x60 h61 =>
 JO (fun x62 h63 =>
 JO (fun x64 h65 =>
 B181x81 x57 x64 x15 cl x0 h65 x9 j55 kp) fun j82 =>
 GW true x57 (EQL Pr 5 true x62 (.int .u8 (nat_lit 46)) fun x83 =>
 j82 x83 h63)
 (j82 undefA h63)) fun j84 =>
 GW true x57 (SAT x58 x60 fun x85 =>
 j84 x85 h61)
 (j84 undefA h61)) fun j86 =>
 GW true x57 (j86 x15 h59)
 (j86 undefA h59)
noncomputable def B181x89 (cl : CL) (x0 : AV) (x7 : AV) (h8 : Heap) (kr : KR) (fu : Nat) (x6 : AV) (kp : KP) : Ans := cl (nat_lit 121) [x0, x7, (.func (.func 180) [] [])] h8 (fun x9 h10 =>
 ADD Pr 3 false x7 x9 fun x13 =>
 OV (sliceA Pr 9 x0 (some x7) (some x13) none) fun x14 =>
 ADD Pr 3 false x7 x9 fun x15 =>
 JO (fun x16 x17 h18 =>
 B181x54 x14 kr x16 fu x17 x6 h18) fun j55 =>
 LENT x0 fun x56 =>
 LSS Pr 3 false x15 x56 fun x57 =>
 JO (fun x58 h59 =>
 B181x87 x57 x15 cl x0 x9 j55 kp x58 h59) fun j88 =>
 GW true x57 (j88 x0 h10)
 (j88 undefA h10)) kp
noncomputable def B181x119 (x92 : AV) (x0 : AV) (x2 : AV) (j90 : AV → AV → Heap → Ans) (x101 : AV) (x109 : AV) (h110 : Heap) : Ans := JO (fun x111 h112 =>
 SEL x92 x111 (.bool false) fun x113 =>
 IFB x113 (SAT x0 x2 fun x114 =>
 EQL Pr 5 true x114 (.int .u8 (nat_lit 45)) fun x115 =>
 ADD Pr 3 true x2 (.int .i64 (nat_lit 1)) fun x116 =>
 j90 x115 x116 h112)
 (j90 (.bool false) x2 h112)) fun j117 =>
 GW true x92 (SEL x101 (.bool true) x109 fun x118 =>
 j117 x118 h110)
 (j117 undefA h110)
noncomputable def B181x125 (x92 : AV) (x0 : AV) (x2 : AV) (j90 : AV → AV → Heap → Ans) (x101 : AV) (x103 : AV) (h104 : Heap) : Ans := JO (fun x105 h106 =>
 JO (fun x107 h108 =>
 JO (fun x109 h110 =>
 B181x119 x92 x0 x2 j90 x101 x109 h110) fun j120 =>
 GW false x101 (EQL Pr 5 true x107 (.int .u8 (nat_lit 45)) fun x121 =>
 j120 x121 h108)
 (j120 undefA h108)) fun j122 =>
 GW false x101 (SAT x103 x105 fun x123 =>
 j122 x123 h106)
 (j122 undefA h106)) fun j124 =>
 GW false x101 (j124 x2 h104)
 (j124 undefA h104)
noncomputable def B181x130 (x92 : AV) (x0 : AV) (x2 : AV) (j90 : AV → AV → Heap → Ans) (x97 : AV) (h98 : Heap) : Ans := JO (fun x99 h100 =>
 JO (fun x101 h102 =>
 JO (fun x103 h104 =>
 B181x125 x92 x0 x2 j90 x101 x103 h104) fun j126 =>
 GW false x101 (j126 x0 h102)
 (j126 undefA h102)) fun j127 =>
 GW true x92 (j127 x99 h100)
 (j127 undefA h100)) fun j128 =>
 GW true x92 (EQL Pr 5 true x97 (.int .u8 (nat_lit 43)) fun x129 =>
 j128 x129 h98)
 (j128 undefA h98)
noncomputable def F181 (fu : Nat) (oR : FuncId → List AV → Option AV) (cl : CL) (args : List AV) (h1 : Heap) (kr : KR) (kp : KP) : Ans := AR1 args fun x0 =>
 cl (nat_lit 121) [x0, (.int .i64 (nat_lit 0)), (.func (.func 120) [] [])] h1 (fun x2 h3 =>
 JO (fun x6 x7 h8 =>
 B181x89 cl x0 x7 h8 kr fu x6 kp) fun j90 =>
 LENT x0 fun x91 =>
 LSS Pr 3 false x2 x91 fun x92 =>
 JO (fun x93 h94 =>
 JO (fun x95 h96 =>
 JO (fun x97 h98 =>
 B181x130 x92 x0 x2 j90 x97 h98) fun j131 =>
 GW true x92 (SAT x93 x95 fun x132 =>
 j131 x132 h96)
 (j131 undefA h96)) fun j133 =>
 GW true x92 (j133 x2 h94)
 (j133 undefA h94)) fun j134 =>
 GW true x92 (j134 x0 h3)
 (j134 undefA h3)) kp

theorem eqF181 : F181 = fun fu oR => compF Pr fu oR 181 1 := by kernel_rfl

noncomputable def B182x37 (x0 : AV) (x27 : AV) (cl : CL) (h6 : Heap) (kr : KR) (j21 : AV → AV → Heap → Ans) (kp : KP) : Ans := SAT x0 x27 fun x30 =>
 cl (nat_lit 178) [(.str (nat_lit 4) (nat_lit 1545761902)), x30] h6 (fun x31 h32 =>
 LSS Pr 3 true x31 (.int .i64 (nat_lit 0)) fun x35 =>
 IFB x35 (kr (.tuple [(.str (nat_lit 0) (nat_lit 0)), (.int .i64 (nat_lit 0))]) h32)
 (SAT (.str (nat_lit 4) (nat_lit 1545734410)) x31 fun x36 =>
 j21 x36 x27 h32)) kp
noncomputable def B182x38 (x10 : AV) (x4 : AV) (x0 : AV) (kr : KR) (h6 : Heap) (cl : CL) (j21 : AV → AV → Heap → Ans) (kp : KP) : Ans := EQL Pr 5 true x10 (.int .u8 (nat_lit 92)) fun x26 =>
 IFB x26 (ADD Pr 3 true x4 (.int .i64 (nat_lit 1)) fun x27 =>
 LENT x0 fun x28 =>
 GEQ Pr 3 false x27 x28 fun x29 =>
 IFB x29 (kr (.tuple [(.str (nat_lit 0) (nat_lit 0)), (.int .i64 (nat_lit 0))]) h6)
 (B182x37 x0 x27 cl h6 kr j21 kp))
 (j21 x10 x4 h6)
noncomputable def B182x39 (x0 : AV) (x4 : AV) (x5 : AV) (cl : CL) (j7 : AV → AV → Heap → Ans) (kp : KP) (h6 : Heap) (kr : KR) : Ans := SAT x0 x4 fun x10 =>
 JO (fun x11 x12 h13 =>
 BSL (nat_lit 5) (nat_lit 1) [(.int .u8 (nat_lit 0))] (nat_lit 1) [((nat_lit 0), x11)] h13 fun x14 h15 =>
 GEN (builtinF .append Pr [22, 22] [x5, x14] h15) cl (fun x16 h17 =>
 ADD Pr 3 true x12 (.int .i64 (nat_lit 1)) fun x20 =>
 j7 x20 x16 h17) kp) fun j21 =>
 EQL Pr 5 true x10 (.int .u8 (nat_lit 34)) fun x22 =>
 IFB x22 (OV (convV Pr h6 22 9 x5) fun x23 =>
 ADD Pr 3 true x4 (.int .i64 (nat_lit 1)) fun x24 =>
 kr (.tuple [x23, x24]) h6)
 (EQL Pr 5 true x10 (.int .u8 (nat_lit 10)) fun x25 =>
 IFB x25 (kr (.tuple [(.str (nat_lit 0) (nat_lit 0)), (.int .i64 (nat_lit 0))]) h6)
 (B182x38 x10 x4 x0 kr h6 cl j21 kp))
noncomputable def F182 (fu : Nat) (oR : FuncId → List AV → Option AV) (cl : CL) (args : List AV) (h1 : Heap) (kr : KR) (kp : KP) : Ans := AR1 args fun x0 =>
 BSL (nat_lit 5) (nat_lit 1) [] (nat_lit 0) [] h1 fun x2 h3 =>
 LP fu (fun _ _ _ => Ans.no) (fun j7 x4 x5 h6 =>
 LENT x0 fun x8 =>
 LSS Pr 3 false x4 x8 fun x9 =>
 IFB x9 (B182x39 x0 x4 x5 cl j7 kp h6 kr)
 (kr (.tuple [(.str (nat_lit 0) (nat_lit 0)), (.int .i64 (nat_lit 0))]) h6)) (.int .i64 (nat_lit 1)) x2 h3

theorem eqF182 : F182 = fun fu oR => compF Pr fu oR 182 1 := by kernel_rfl

noncomputable def B185x31 (x7 : AV) (kr : KR) (x0 : AV) (x12 : AV) (x16 : AV) (h17 : Heap) : Ans := JO (fun x18 h19 =>
 SEL x7 (.bool true) x18 fun x20 =>
 JO (fun x21 h22 =>
 JO (fun x23 h24 =>
 SEL x20 (.bool true) x23 fun x25 =>
 kr x25 h24) fun j26 =>
 GW false x20 (EQL Pr 5 true x21 (.int .u8 (nat_lit 95)) fun x27 =>
 j26 x27 h22)
 (j26 undefA h22)) fun j28 =>
 GW false x20 (j28 x0 h19)
 (j28 undefA h19)) fun j29 =>
 GW false x7 (SEL x12 x16 (.bool false) fun x30 =>
 j29 x30 h17)
 (j29 undefA h17)
noncomputable def B185x36 (x7 : AV) (kr : KR) (x0 : AV) (x10 : AV) (h11 : Heap) : Ans := JO (fun x12 h13 =>
 JO (fun x14 h15 =>
 JO (fun x16 h17 =>
 B185x31 x7 kr x0 x12 x16 h17) fun j32 =>
 GW true x12 (LEQ Pr 5 true x14 (.int .u8 (nat_lit 122)) fun x33 =>
 j32 x33 h15)
 (j32 undefA h15)) fun j34 =>
 GW true x12 (j34 x0 h13)
 (j34 undefA h13)) fun j35 =>
 GW false x7 (j35 x10 h11)
 (j35 undefA h11)
noncomputable def B185x42 (x2 : AV) (kr : KR) (x0 : AV) (x3 : AV) (h4 : Heap) : Ans := JO (fun x5 h6 =>
 SEL x2 x5 (.bool false) fun x7 =>
 JO (fun x8 h9 =>
 JO (fun x10 h11 =>
 B185x36 x7 kr x0 x10 h11) fun j37 =>
 GW false x7 (GEQ Pr 5 true x8 (.int .u8 (nat_lit 97)) fun x38 =>
 j37 x38 h9)
 (j37 undefA h9)) fun j39 =>
 GW false x7 (j39 x0 h6)
 (j39 undefA h6)) fun j40 =>
 GW true x2 (LEQ Pr 5 true x3 (.int .u8 (nat_lit 90)) fun x41 =>
 j40 x41 h4)
 (j40 undefA h4)
noncomputable def F185 (fu : Nat) (oR : FuncId → List AV → Option AV) (cl : CL) (args : List AV) (h1 : Heap) (kr : KR) (kp : KP) : Ans := AR1 args fun x0 =>
 GEQ Pr 5 true x0 (.int .u8 (nat_lit 65)) fun x2 =>
 JO (fun x3 h4 =>
 B185x42 x2 kr x0 x3 h4) fun j43 =>
 GW true x2 (j43 x0 h1)
 (j43 undefA h1)

theorem eqF185 : F185 = fun fu oR => compF Pr fu oR 185 1 := by kernel_rfl

noncomputable def F186 (fu : Nat) (oR : FuncId → List AV → Option AV) (cl : CL) (args : List AV) (h1 : Heap) (kr : KR) (kp : KP) : Ans := AR1 args fun x0 =>
 cl (nat_lit 185) [x0] h1 (fun x2 h3 =>
 JO (fun x6 h7 =>
 JO (fun x8 h9 =>
 SEL x2 (.bool true) x8 fun x10 =>
 kr x10 h9) fun j11 =>
 GW false x2 (cl (nat_lit 180) [x6] h7 (fun x12 h13 =>
 j11 x12 h13) kp)
 (j11 undefA h7)) fun j16 =>
 GW false x2 (j16 x0 h3)
 (j16 undefA h3)) kp

theorem eqF186 : F186 = fun fu oR => compF Pr fu oR 186 1 := by kernel_rfl

noncomputable def F187 (fu : Nat) (oR : FuncId → List AV → Option AV) (cl : CL) (args : List AV) (h1 : Heap) (kr : KR) (kp : KP) : Ans := AR1 args fun x0 =>
 cl (nat_lit 243) [] h1 (fun x2 h3 =>
 cl (nat_lit 203) [x2, x0] h3 (fun x6 h7 =>
 kr x6 h7) kp) kp

theorem eqF187 : F187 = fun fu oR => compF Pr fu oR 187 1 := by kernel_rfl

noncomputable def F188 (fu : Nat) (oR : FuncId → List AV → Option AV) (cl : CL) (args : List AV) (h2 : Heap) (kr : KR) (kp : KP) : Ans := AR2 args fun x0 x1 =>
 cl (nat_lit 244) [x0, x1] h2 (fun x3 h4 =>
 kr x3 h4) kp

theorem eqF188 : F188 = fun fu oR => compF Pr fu oR 188 2 := by kernel_rfl

noncomputable def F189 (fu : Nat) (oR : FuncId → List AV → Option AV) (cl : CL) (args : List AV) (h2 : Heap) (kr : KR) (kp : KP) : Ans := AR2 args fun x0 x1 =>
 cl (nat_lit 245) [x0, (.int .i64 (nat_lit 0))] h2 (fun x3 h4 =>
 cl (nat_lit 246) [x3, (.int .i64 (nat_lit 6)), x1] h4 (fun x7 h8 =>
 kr x7 h8) kp) kp

theorem eqF189 : F189 = fun fu oR => compF Pr fu oR 189 2 := by kernel_rfl

noncomputable def F190 (fu : Nat) (oR : FuncId → List AV → Option AV) (cl : CL) (args : List AV) (h1 : Heap) (kr : KR) (kp : KP) : Ans := AR1 args fun x0 =>
 NEWC (.n (some (.int .i64 (nat_lit 0))) (.n (some (.str (nat_lit 0) (nat_lit 0))) (.n (some (.int .i64 (nat_lit 0))) .e .e) .e) (.n (some (.int .i64 (nat_lit 0))) .e .e)) (nat_lit 4) 114 h1 fun x2 h3 =>
 cl (nat_lit 245) [x0, (.int .i64 (nat_lit 0))] h3 (fun x4 h5 =>
 NEWC (.n (some (.int .i64 (nat_lit 0))) (.n (some (.str (nat_lit 0) (nat_lit 0))) (.n (some (.int .i64 (nat_lit 0))) .e .e) .e) (.n (some (.int .i64 (nat_lit 0))) .e .e)) (nat_lit 4) 114 h5 fun x8 h9 =>
 ST (nat_lit 4) x8 x4 h9 fun h10 =>
 NC x0 fun x11 =>
 FA (nat_lit 1) x11 fun x12 =>
 LD x12 h10 fun x13 =>
 ADD Pr 3 true x13 (.int .i64 (nat_lit 1)) fun x14 =>
 NC x0 fun x15 =>
 FA (nat_lit 1) x15 fun x16 =>
 ST (nat_lit 1) x16 x14 h10 fun h17 =>
 LDN (nat_lit 4) x8 h17 fun x18 =>
 ST (nat_lit 4) x2 x18 h17 fun h19 =>
 LDN (nat_lit 4) x2 h19 fun x20 =>
 kr x20 h19) kp

theorem eqF190 : F190 = fun fu oR => compF Pr fu oR 190 1 := by kernel_rfl

noncomputable def F192 (fu : Nat) (oR : FuncId → List AV → Option AV) (cl : CL) (args : List AV) (h2 : Heap) (kr : KR) (kp : KP) : Ans := AR2 args fun x0 x1 =>
 JO (fun h3 =>
 NC x0 fun x4 =>
 FA (nat_lit 1) x4 fun x5 =>
 LD x5 h3 fun x6 =>
 ADD Pr 3 true x6 (.int .i64 (nat_lit 1)) fun x7 =>
 NC x0 fun x8 =>
 FA (nat_lit 1) x8 fun x9 =>
 ST (nat_lit 1) x9 x7 h3 fun h10 =>
 kr (.tuple []) h10) fun j11 =>
 BSL (nat_lit 9) (nat_lit 1) [(.str (nat_lit 0) (nat_lit 0))] (nat_lit 1) [((nat_lit 0), x1)] h2 fun x12 h13 =>
 cl (nat_lit 193) [x0, x12] h13 (fun x14 h15 =>
 OV (unOpA .not x14) fun x18 =>
 IFB x18 (cl (nat_lit 247) [x0] h15 (fun x19 h20 =>
 j11  h20) kp)
 (j11  h15)) kp

theorem eqF192 : F192 = fun fu oR => compF Pr fu oR 192 2 := by kernel_rfl

noncomputable def F193 (fu : Nat) (oR : FuncId → List AV → Option AV) (cl : CL) (args : List AV) (h2 : Heap) (kr : KR) (kp : KP) : Ans := AR2 args fun x0 x1 =>
 cl (nat_lit 245) [x0, (.int .i64 (nat_lit 0))] h2 (fun x3 h4 =>
 cl (nat_lit 246) [x3, (.int .i64 (nat_lit 7)), x1] h4 (fun x7 h8 =>
 kr x7 h8) kp) kp

theorem eqF193 : F193 = fun fu oR => compF Pr fu oR 193 2 := by kernel_rfl

noncomputable def F194 (fu : Nat) (oR : FuncId → List AV → Option AV) (cl : CL) (args : List AV) (h1 : Heap) (kr : KR) (kp : KP) : Ans := AR1 args fun x0 =>
 BOX 121 x0 h1 fun x2 h3 =>
 LD x2 h3 fun x4 =>
 cl (nat_lit 248) [x4, (.func (.func 249) [] [x2])] h3 (fun x5 h6 =>
 kr x5 h6) kp

theorem eqF194 : F194 = fun fu oR => compF Pr fu oR 194 1 := by kernel_rfl

noncomputable def B195x39 (h9 : Heap) (cl : CL) (x0 : AV) (x8 : AV) (j10 : AV → Heap → Ans) (kp : KP) (kr : KR) : Ans := BSL (nat_lit 9) (nat_lit 1) [(.str (nat_lit 0) (nat_lit 0))] (nat_lit 1) [((nat_lit 0), (.str (nat_lit 1) (nat_lit 125)))] h9 fun x11 h12 =>
 cl (nat_lit 193) [x0, x11] h12 (fun x13 h14 =>
 OV (unOpA .not x13) fun x17 =>
 IFB x17 (cl (nat_lit 252) [x0] h14 (fun x18 h19 =>
 BSL (nat_lit 3) (nat_lit 1) [(.int .i64 (nat_lit 0))] (nat_lit 1) [((nat_lit 0), x18)] h19 fun x22 h23 =>
 GEN (builtinF .append Pr [90, 90] [x8, x22] h23) cl (fun x24 h25 =>
 j10 x24 h25) kp) kp)
 (NC x0 fun x28 =>
 FA (nat_lit 1) x28 fun x29 =>
 LD x29 h14 fun x30 =>
 ADD Pr 3 true x30 (.int .i64 (nat_lit 1)) fun x31 =>
 NC x0 fun x32 =>
 FA (nat_lit 1) x32 fun x33 =>
 ST (nat_lit 1) x33 x31 h14 fun h34 =>
 cl (nat_lit 251) [x0, (.int .i64 (nat_lit 53)), x8] h34 (fun x35 h36 =>
 kr x35 h36) kp)) kp
noncomputable def F195 (fu : Nat) (oR : FuncId → List AV → Option AV) (cl : CL) (args : List AV) (h1 : Heap) (kr : KR) (kp : KP) : Ans := AR1 args fun x0 =>
 cl (nat_lit 192) [x0, (.str (nat_lit 1) (nat_lit 123))] h1 (fun x2 h3 =>
 BSL (nat_lit 3) (nat_lit 1) [] (nat_lit 0) [] h3 fun x6 h7 =>
 LP fu (fun _ _ => Ans.no) (fun j10 x8 h9 =>
 B195x39 h9 cl x0 x8 j10 kp kr) x6 h7) kp

theorem eqF195 : F195 = fun fu oR => compF Pr fu oR 195 1 := by kernel_rfl

noncomputable def F196 (fu : Nat) (oR : FuncId → List AV → Option AV) (cl : CL) (args : List AV) (h1 : Heap) (kr : KR) (kp : KP) : Ans := AR1 args fun x0 =>
 NEWC (.n (some (.int .i64 (nat_lit 0))) (.n (some (.int .i64 (nat_lit 0))) .e .e) (.n (some (.str (nat_lit 0) (nat_lit 0))) .e .e)) (nat_lit 3) 54 h1 fun x2 h3 =>
 BOP Pr .mul 3 true x0 (.int .i64 (nat_lit 1000000)) fun x4 =>
 OV (buildA Pr 54 [((nat_lit 0), (.int .i64 (nat_lit 1))), ((nat_lit 1), x4)]) fun x5 =>
 ST (nat_lit 3) x2 x5 h3 fun h6 =>
 LDN (nat_lit 3) x2 h6 fun x7 =>
 kr x7 h6

theorem eqF196 : F196 = fun fu oR => compF Pr fu oR 196 1 := by kernel_rfl

noncomputable def B199x30 (x6 : AV) (kr : KR) (x13 : AV) (x15 : AV) (h16 : Heap) : Ans := JO (fun x17 h18 =>
 JO (fun x19 h20 =>
 JO (fun x21 h22 =>
 SEL x6 x21 (.bool false) fun x23 =>
 kr x23 h22) fun j24 =>
 GW true x6 (SEL x13 (.bool true) x19 fun x25 =>
 j24 x25 h20)
 (j24 undefA h20)) fun j26 =>
 GW false x13 (EQL Pr 9 true x17 (.str (nat_lit 2) (nat_lit 17998)) fun x27 =>
 j26 x27 h18)
 (j26 undefA h18)) fun j28 =>
 GW false x13 (LD x15 h16 fun x29 =>
 j28 x29 h16)
 (j28 undefA h16)
noncomputable def B199x36 (x6 : AV) (kr : KR) (x2 : AV) (x9 : AV) (h10 : Heap) : Ans := JO (fun x11 h12 =>
 JO (fun x13 h14 =>
 JO (fun x15 h16 =>
 B199x30 x6 kr x13 x15 h16) fun j31 =>
 GW false x13 (FA (nat_lit 1) x2 fun x32 =>
 j31 x32 h14)
 (j31 undefA h14)) fun j33 =>
 GW true x6 (j33 x11 h12)
 (j33 undefA h12)) fun j34 =>
 GW true x6 (EQL Pr 9 true x9 (.str (nat_lit 2) (nat_lit 21070)) fun x35 =>
 j34 x35 h10)
 (j34 undefA h10)
noncomputable def F199 (fu : Nat) (oR : FuncId → List AV → Option AV) (cl : CL) (args : List AV) (h1 : Heap) (kr : KR) (kp : KP) : Ans := AR1 args fun x0 =>
 BOX 171 x0 h1 fun x2 h3 =>
 FA (nat_lit 0) x2 fun x4 =>
 LD x4 h3 fun x5 =>
 EQL Pr 9 true x5 (.str (nat_lit 0) (nat_lit 0)) fun x6 =>
 JO (fun x7 h8 =>
 JO (fun x9 h10 =>
 B199x36 x6 kr x2 x9 h10) fun j37 =>
 GW true x6 (LD x7 h8 fun x38 =>
 j37 x38 h8)
 (j37 undefA h8)) fun j39 =>
 GW true x6 (FA (nat_lit 1) x2 fun x40 =>
 j39 x40 h3)
 (j39 undefA h3)

theorem eqF199 : F199 = fun fu oR => compF Pr fu oR 199 1 := by kernel_rfl

noncomputable def B200x25 (x3 : AV) (x8 : AV) (kr : KR) (h9 : Heap) : Ans := JO (fun h10 =>
 FA (nat_lit 1) x3 fun x11 =>
 LD x11 h10 fun x12 =>
 OV (lookupA Pr h10 50 x8 x12 false) fun x13 =>
 kr x13 h10) fun j14 =>
 FA (nat_lit 1) x3 fun x15 =>
 LD x15 h9 fun x16 =>
 OV (lookupA Pr h9 50 x8 x16 false) fun x17 =>
 EQL Pr 223 true x17 (.nilp) fun x18 =>
 IFB x18 (FA (nat_lit 1) x3 fun x19 =>
 LD x19 h9 fun x20 =>
 OV (buildA Pr 268 []) fun x21 =>
 BOX 268 x21 h9 fun x22 h23 =>
 OSK (mapUpdateA Pr h23 50 x8 x20 x22) fun h24 =>
 j14  h24)
 (j14  h9)
noncomputable def F200 (fu : Nat) (oR : FuncId → List AV → Option AV) (cl : CL) (args : List AV) (h2 : Heap) (kr : KR) (kp : KP) : Ans := AR2 args fun x0 x1 =>
 BOX 171 x1 h2 fun x3 h4 =>
 NC x0 fun x5 =>
 FA (nat_lit 3) x5 fun x6 =>
 LD x6 h4 fun x7 =>
 JO (fun x8 h9 =>
 B200x25 x3 x8 kr h9) fun j26 =>
 FA (nat_lit 0) x3 fun x27 =>
 LD x27 h4 fun x28 =>
 NEQ Pr 9 true x28 (.str (nat_lit 0) (nat_lit 0)) fun x29 =>
 IFB x29 (NC x0 fun x30 =>
 FA (nat_lit 4) x30 fun x31 =>
 LD x31 h4 fun x32 =>
 NC x0 fun x33 =>
 FA (nat_lit 4) x33 fun x34 =>
 LD x34 h4 fun x35 =>
 LENS x35 fun x36 =>
 SUB Pr 3 true x36 (.int .i64 (nat_lit 1)) fun x37 =>
 SA (nat_lit 1) x32 x37 fun x38 =>
 LD x38 h4 fun x39 =>
 j26 x39 h4)
 (j26 x7 h4)

theorem eqF200 : F200 = fun fu oR => compF Pr fu oR 200 2 := by kernel_rfl

noncomputable def F201 (fu : Nat) (oR : FuncId → List AV → Option AV) (cl : CL) (args : List AV) (h1 : Heap) (kr : KR) (kp : KP) : Ans := AR1 args fun x0 =>
 NEWC (.n (some (.int .i64 (nat_lit 0))) (.n (some (.int .i64 (nat_lit 0))) .e .e) (.n (some (.str (nat_lit 0) (nat_lit 0))) .e .e)) (nat_lit 3) 54 h1 fun x2 h3 =>
 JO (fun h4 =>
 NC x0 fun x5 =>
 FA (nat_lit 0) x5 fun x6 =>
 LD x6 h4 fun x7 =>
 NC x7 fun x8 =>
 LDN (nat_lit 3) x8 h4 fun x9 =>
 ST (nat_lit 3) x2 x9 h4 fun h10 =>
 LDN (nat_lit 3) x2 h10 fun x11 =>
 kr x11 h10) fun j12 =>
 cl (nat_lit 255) [x0] h3 (fun x13 h14 =>
 IFB x13 (GEN (panA (.iface (nat_lit 71) (.int .i64 (nat_lit 7))) h14) cl (fun x17 h18 =>
 j12  h18) kp)
 (NC x0 fun x21 =>
 FA (nat_lit 0) x21 fun x22 =>
 LD x22 h14 fun x23 =>
 EQL Pr 266 true x23 (.nilp) fun x24 =>
 IFB x24 (OV (buildA Pr 54 []) fun x25 =>
 ST (nat_lit 3) x2 x25 h14 fun h26 =>
 LDN (nat_lit 3) x2 h26 fun x27 =>
 kr x27 h26)
 (j12  h14))) kp

theorem eqF201 : F201 = fun fu oR => compF Pr fu oR 201 1 := by kernel_rfl

noncomputable def F202 (fu : Nat) (oR : FuncId → List AV → Option AV) (cl : CL) (args : List AV) (h4 : Heap) (kr : KR) (kp : KP) : Ans := AR4 args fun x0 x1 x2 x3 =>
 BOX 171 x1 h4 fun x5 h6 =>
 NC x0 fun x7 =>
 FA (nat_lit 5) x7 fun x8 =>
 LD x8 h6 fun x9 =>
 FA (nat_lit 0) x5 fun x10 =>
 LD x10 h6 fun x11 =>
 FA (nat_lit 1) x5 fun x12 =>
 LD x12 h6 fun x13 =>
 OV (buildA Pr 40 [((nat_lit 0), x11), ((nat_lit 1), x13), ((nat_lit 2), x2)]) fun x14 =>
 OV (lookupA Pr h6 51 x9 x14 false) fun x15 =>
 BOP Pr .shl 3 true (.int .i64 (nat_lit 1)) x3 fun x16 =>
 BOP Pr .or 3 false x15 x16 fun x17 =>
 OVH (mapEntryA Pr h6 51 x9 x14) fun x18 h19 =>
 OV (lookupA Pr h19 51 x9 x14 false) fun x20 =>
 EQV x15 x20 <|
 EX (nat_lit 1) x18 fun x21 =>
 OSK (entryStoreA h19 x9 x21 x17) fun h22 =>
 kr (.tuple []) h22

theorem eqF202 : F202 = fun fu oR => compF Pr fu oR 202 4 := by kernel_rfl

noncomputable def F203 (fu : Nat) (oR : FuncId → List AV → Option AV) (cl : CL) (args : List AV) (h2 : Heap) (kr : KR) (kp : KP) : Ans := AR2 args fun x0 x1 =>
 cl (nat_lit 256) [x0, x1] h2 (fun x3 h4 =>
 GEQ Pr 3 true x3 (.int .i64 (nat_lit 0)) fun x7 =>
 kr x7 h4) kp

theorem eqF203 : F203 = fun fu oR => compF Pr fu oR 203 2 := by kernel_rfl

noncomputable def F204 (fu : Nat) (oR : FuncId → List AV → Option AV) (cl : CL) (args : List AV) (h1 : Heap) (kr : KR) (kp : KP) : Ans := AR1 args fun x0 =>
 NEWC (.n (some (.int .i64 (nat_lit 0))) (.n (some (.int .i64 (nat_lit 0))) .e .e) (.n (some (.str (nat_lit 0) (nat_lit 0))) .e .e)) (nat_lit 3) 54 h1 fun x2 h3 =>
 cl (nat_lit 257) [x0] h3 (fun x4 h5 =>
 IFB x4 (cl (nat_lit 181) [x0] h5 (fun x8 h9 =>
 EX (nat_lit 0) x8 fun x12 =>
 EX (nat_lit 1) x8 fun x13 =>
 OV (buildA Pr 54 [((nat_lit 0), (.int .i64 (nat_lit 3))), ((nat_lit 1), x12), ((nat_lit 2), x0)]) fun x14 =>
 ST (nat_lit 3) x2 x14 h9 fun h15 =>
 LDN (nat_lit 3) x2 h15 fun x16 =>
 kr x16 h15) kp)
 (OV (buildA Pr 54 [((nat_lit 0), (.int .i64 (nat_lit 2))), ((nat_lit 2), x0)]) fun x17 =>
 ST (nat_lit 3) x2 x17 h5 fun h18 =>
 LDN (nat_lit 3) x2 h18 fun x19 =>
 kr x19 h18)) kp

theorem eqF204 : F204 = fun fu oR => compF Pr fu oR 204 1 := by kernel_rfl

noncomputable def F205 (fu : Nat) (oR : FuncId → List AV → Option AV) (cl : CL) (args : List AV) (h1 : Heap) (kr : KR) (kp : KP) : Ans := AR1 args fun x0 =>
 cl (nat_lit 175) [x0] h1 (fun x2 h3 =>
 OV (unOpA .not x2) fun x6 =>
 IFB x6 (kr (.int .i64 (nat_lit 0)) h3)
 (BOP Pr .quo 3 true x0 (.int .i64 (nat_lit 1000000)) fun x7 =>
 BOP Pr .mul 3 true x7 (.int .i64 (nat_lit 1000000)) fun x8 =>
 kr x8 h3)) kp

theorem eqF205 : F205 = fun fu oR => compF Pr fu oR 205 1 := by kernel_rfl

noncomputable def F206 (fu : Nat) (oR : FuncId → List AV → Option AV) (cl : CL) (args : List AV) (h1 : Heap) (kr : KR) (kp : KP) : Ans := AR1 args fun x0 =>
 BOX 54 x0 h1 fun x2 h3 =>
 FA (nat_lit 0) x2 fun x4 =>
 LD x4 h3 fun x5 =>
 EQL Pr 3 true x5 (.int .i64 (nat_lit 2)) fun x6 =>
 IFB x6 (FA (nat_lit 2) x2 fun x7 =>
 LD x7 h3 fun x8 =>
 cl (nat_lit 181) [x8] h3 (fun x9 h10 =>
 EX (nat_lit 0) x9 fun x13 =>
 EX (nat_lit 1) x9 fun x14 =>
 kr x13 h10) kp)
 (FA (nat_lit 1) x2 fun x15 =>
 LD x15 h3 fun x16 =>
 kr x16 h3)

theorem eqF206 : F206 = fun fu oR => compF Pr fu oR 206 1 := by kernel_rfl

noncomputable def B210x70 (x60 : AV) (x8 : AV) (h62 : Heap) (kr : KR) (x61 : AV) : Ans := OV (unOpA .not x60) fun x63 =>
 IFB x63 (OV (buildA Pr 54 []) fun x64 =>
 ST (nat_lit 3) x8 x64 h62 fun h65 =>
 LDN (nat_lit 3) x8 h65 fun x66 =>
 kr (.tuple [x66, (.int .i64 (nat_lit 1))]) h65)
 (OV (buildA Pr 54 [((nat_lit 0), (.int .i64 (nat_lit 1))), ((nat_lit 1), x61)]) fun x67 =>
 ST (nat_lit 3) x8 x67 h62 fun h68 =>
 LDN (nat_lit 3) x8 h68 fun x69 =>
 kr (.tuple [x69, (.int .i64 (nat_lit 0))]) h68)
noncomputable def B210x107 (x0 : AV) (cl : CL) (x34 : AV) (x39 : AV) (h55 : Heap) (j71 : AV → AV → Heap → Ans) (kp : KP) : Ans := EQL Pr 3 true x0 (.int .i64 (nat_lit 23)) fun x93 =>
 IFB x93 (cl (nat_lit 263) [x34, x39] h55 (fun x94 h95 =>
 EX (nat_lit 0) x94 fun x98 =>
 EX (nat_lit 1) x94 fun x99 =>
 j71 x99 x98 h95) kp)
 (EQL Pr 3 true x0 (.int .i64 (nat_lit 24)) fun x100 =>
 IFB x100 (cl (nat_lit 264) [x34, x39] h55 (fun x101 h102 =>
 EX (nat_lit 0) x101 fun x105 =>
 EX (nat_lit 1) x101 fun x106 =>
 j71 x106 x105 h102) kp)
 (j71 (.bool false) (.int .i64 (nat_lit 0)) h55))
noncomputable def B210x108 (x0 : AV) (cl : CL) (x34 : AV) (x39 : AV) (h55 : Heap) (j71 : AV → AV → Heap → Ans) (kp : KP) : Ans := EQL Pr 3 true x0 (.int .i64 (nat_lit 21)) fun x79 =>
 IFB x79 (cl (nat_lit 261) [x34, x39] h55 (fun x80 h81 =>
 EX (nat_lit 0) x80 fun x84 =>
 EX (nat_lit 1) x80 fun x85 =>
 j71 x85 x84 h81) kp)
 (EQL Pr 3 true x0 (.int .i64 (nat_lit 22)) fun x86 =>
 IFB x86 (cl (nat_lit 262) [x34, x39] h55 (fun x87 h88 =>
 EX (nat_lit 0) x87 fun x91 =>
 EX (nat_lit 1) x87 fun x92 =>
 j71 x92 x91 h88) kp)
 (B210x107 x0 cl x34 x39 h55 j71 kp))
noncomputable def B210x109 (x43 : AV) (x54 : AV) (x8 : AV) (h55 : Heap) (kr : KR) (x0 : AV) (cl : CL) (x34 : AV) (x39 : AV) (kp : KP) : Ans := SEL x43 x54 (.bool false) fun x56 =>
 IFB x56 (OV (buildA Pr 54 []) fun x57 =>
 ST (nat_lit 3) x8 x57 h55 fun h58 =>
 LDN (nat_lit 3) x8 h58 fun x59 =>
 kr (.tuple [x59, (.int .i64 (nat_lit 2))]) h58)
 (JO (fun x60 x61 h62 =>
 B210x70 x60 x8 h62 kr x61) fun j71 =>
 EQL Pr 3 true x0 (.int .i64 (nat_lit 20)) fun x72 =>
 IFB x72 (cl (nat_lit 260) [x34, x39] h55 (fun x73 h74 =>
 EX (nat_lit 0) x73 fun x77 =>
 EX (nat_lit 1) x73 fun x78 =>
 j71 x78 x77 h74) kp)
 (B210x108 x0 cl x34 x39 h55 j71 kp))
noncomputable def B210x115 (x43 : AV) (x8 : AV) (kr : KR) (x0 : AV) (cl : CL) (x34 : AV) (x39 : AV) (kp : KP) (x48 : AV) (h49 : Heap) : Ans := JO (fun x50 h51 =>
 JO (fun x52 h53 =>
 JO (fun x54 h55 =>
 B210x109 x43 x54 x8 h55 kr x0 cl x34 x39 kp) fun j110 =>
 GW true x43 (SEL x48 (.bool true) x52 fun x111 =>
 j110 x111 h53)
 (j110 undefA h53)) fun j112 =>
 GW false x48 (EQL Pr 3 true x50 (.int .i64 (nat_lit 24)) fun x113 =>
 j112 x113 h51)
 (j112 undefA h51)) fun j114 =>
 GW false x48 (j114 x0 h49)
 (j114 undefA h49)
noncomputable def B210x120 (x4 : AV) (h27 : Heap) (x6 : AV) (cl : CL) (x8 : AV) (kr : KR) (x0 : AV) (kp : KP) : Ans := LDN (nat_lit 3) x4 h27 fun x32 =>
 LDN (nat_lit 3) x6 h27 fun x33 =>
 cl (nat_lit 206) [x32] h27 (fun x34 h35 =>
 LDN (nat_lit 3) x6 h35 fun x38 =>
 EQV x33 x38 <|
 cl (nat_lit 206) [x33] h35 (fun x39 h40 =>
 EQL Pr 3 true x39 (.int .i64 (nat_lit 0)) fun x43 =>
 JO (fun x44 h45 =>
 JO (fun x46 h47 =>
 JO (fun x48 h49 =>
 B210x115 x43 x8 kr x0 cl x34 x39 kp x48 h49) fun j116 =>
 GW true x43 (j116 x46 h47)
 (j116 undefA h47)) fun j117 =>
 GW true x43 (EQL Pr 3 true x44 (.int .i64 (nat_lit 23)) fun x118 =>
 j117 x118 h45)
 (j117 undefA h45)) fun j119 =>
 GW true x43 (j119 x0 h40)
 (j119 undefA h40)) kp) kp
noncomputable def B210x123 (x21 : AV) (x8 : AV) (kr : KR) (x4 : AV) (x6 : AV) (cl : CL) (x0 : AV) (kp : KP) (x24 : AV) (h25 : Heap) : Ans := JO (fun x26 h27 =>
 SEL x21 (.bool true) x26 fun x28 =>
 IFB x28 (OV (buildA Pr 54 []) fun x29 =>
 ST (nat_lit 3) x8 x29 h27 fun h30 =>
 LDN (nat_lit 3) x8 h30 fun x31 =>
 kr (.tuple [x31, (.int .i64 (nat_lit 3))]) h30)
 (B210x120 x4 h27 x6 cl x8 kr x0 kp)) fun j121 =>
 GW false x21 (OV (unOpA .not x24) fun x122 =>
 j121 x122 h25)
 (j121 undefA h25)
noncomputable def B210x131 (x14 : AV) (x19 : AV) (x8 : AV) (kr : KR) (x4 : AV) (x6 : AV) (cl : CL) (x0 : AV) (kp : KP) (h20 : Heap) : Ans := SEL x14 (.bool true) x19 fun x21 =>
 JO (fun x22 h23 =>
 JO (fun x24 h25 =>
 B210x123 x21 x8 kr x4 x6 cl x0 kp x24 h25) fun j124 =>
 GW false x21 (cl (nat_lit 222) [x22] h23 (fun x125 h126 =>
 j124 x125 h126) kp)
 (j124 undefA h23)) fun j129 =>
 GW false x21 (LDN (nat_lit 3) x6 h20 fun x130 =>
 j129 x130 h20)
 (j129 undefA h20)
noncomputable def F210 (fu : Nat) (oR : FuncId → List AV → Option AV) (cl : CL) (args : List AV) (h3 : Heap) (kr : KR) (kp : KP) : Ans := AR3 args fun x0 x1 x2 =>
 BOX 54 x1 h3 fun x4 h5 =>
 BOX 54 x2 h5 fun x6 h7 =>
 NEWC (.n (some (.int .i64 (nat_lit 0))) (.n (some (.int .i64 (nat_lit 0))) .e .e) (.n (some (.str (nat_lit 0) (nat_lit 0))) .e .e)) (nat_lit 3) 54 h7 fun x8 h9 =>
 cl (nat_lit 23) [x0, (.int .i64 (nat_lit 20)), (.int .i64 (nat_lit 24))] h9 (fun x10 h11 =>
 OV (unOpA .not x10) fun x14 =>
 JO (fun x15 h16 =>
 JO (fun x17 h18 =>
 JO (fun x19 h20 =>
 B210x131 x14 x19 x8 kr x4 x6 cl x0 kp h20) fun j132 =>
 GW false x14 (OV (unOpA .not x17) fun x133 =>
 j132 x133 h18)
 (j132 undefA h18)) fun j134 =>
 GW false x14 (cl (nat_lit 222) [x15] h16 (fun x135 h136 =>
 j134 x135 h136) kp)
 (j134 undefA h16)) fun j139 =>
 GW false x14 (LDN (nat_lit 3) x4 h11 fun x140 =>
 j139 x140 h11)
 (j139 undefA h11)) kp

theorem eqF210 : F210 = fun fu oR => compF Pr fu oR 210 3 := by kernel_rfl

noncomputable def B213x22 (x0 : AV) (x10 : AV) (kr : KR) (h11 : Heap) : Ans := EQL Pr 3 true x0 (.int .i64 (nat_lit 16)) fun x16 =>
 IFB x16 (LEQ Pr 3 true x10 (.int .i64 (nat_lit 0)) fun x17 =>
 kr x17 h11)
 (EQL Pr 3 true x0 (.int .i64 (nat_lit 17)) fun x18 =>
 IFB x18 (EQL Pr 3 true x10 (.int .i64 (nat_lit 0)) fun x19 =>
 kr x19 h11)
 (EQL Pr 3 true x0 (.int .i64 (nat_lit 18)) fun x20 =>
 IFB x20 (NEQ Pr 3 true x10 (.int .i64 (nat_lit 0)) fun x21 =>
 kr x21 h11)
 (kr (.bool false) h11)))
noncomputable def F213 (fu : Nat) (oR : FuncId → List AV → Option AV) (cl : CL) (args : List AV) (h3 : Heap) (kr : KR) (kp : KP) : Ans := AR3 args fun x0 x1 x2 =>
 BOX 54 x1 h3 fun x4 h5 =>
 BOX 54 x2 h5 fun x6 h7 =>
 LDN (nat_lit 3) x4 h7 fun x8 =>
 LDN (nat_lit 3) x6 h7 fun x9 =>
 cl (nat_lit 266) [x8, x9] h7 (fun x10 h11 =>
 EQL Pr 3 true x0 (.int .i64 (nat_lit 15)) fun x14 =>
 IFB x14 (LSS Pr 3 true x10 (.int .i64 (nat_lit 0)) fun x15 =>
 kr x15 h11)
 (B213x22 x0 x10 kr h11)) kp

theorem eqF213 : F213 = fun fu oR => compF Pr fu oR 213 3 := by kernel_rfl

noncomputable def F220 (fu : Nat) (oR : FuncId → List AV → Option AV) (cl : CL) (args : List AV) (h2 : Heap) (kr : KR) (kp : KP) : Ans := AR2 args fun x0 x1 =>
 BOX 54 x1 h2 fun x3 h4 =>
 JO (fun h5 =>
 NC x0 fun x6 =>
 FA (nat_lit 0) x6 fun x7 =>
 ST (nat_lit 1) x7 x3 h5 fun h8 =>
 kr (.tuple []) h8) fun j9 =>
 cl (nat_lit 255) [x0] h4 (fun x10 h11 =>
 IFB x10 (GEN (panA (.iface (nat_lit 71) (.int .i64 (nat_lit 7))) h11) cl (fun x14 h15 =>
 j9  h15) kp)
 (j9  h11)) kp

theorem eqF220 : F220 = fun fu oR => compF Pr fu oR 220 2 := by kernel_rfl

noncomputable def B222x23 (x2 : AV) (h3 : Heap) (kr : KR) : Ans := FA (nat_lit 2) x2 fun x7 =>
 LD x7 h3 fun x8 =>
 EQL Pr 9 true x8 (.str (nat_lit 0) (nat_lit 0)) fun x9 =>
 JO (fun x10 h11 =>
 JO (fun x12 h13 =>
 JO (fun x14 h15 =>
 SEL x9 x14 (.bool false) fun x16 =>
 kr x16 h15) fun j17 =>
 GW true x9 (EQL Pr 3 true x12 (.int .i64 (nat_lit 0)) fun x18 =>
 j17 x18 h13)
 (j17 undefA h13)) fun j19 =>
 GW true x9 (LD x10 h11 fun x20 =>
 j19 x20 h11)
 (j19 undefA h11)) fun j21 =>
 GW true x9 (FA (nat_lit 1) x2 fun x22 =>
 j21 x22 h3)
 (j21 undefA h3)
noncomputable def B222x44 (x2 : AV) (h3 : Heap) (kr : KR) (cl : CL) (kp : KP) : Ans := FA (nat_lit 2) x2 fun x25 =>
 LD x25 h3 fun x26 =>
 EQL Pr 9 true x26 (.str (nat_lit 0) (nat_lit 0)) fun x27 =>
 JO (fun x28 h29 =>
 JO (fun x30 h31 =>
 JO (fun x32 h33 =>
 SEL x27 x32 (.bool false) fun x34 =>
 kr x34 h33) fun j35 =>
 GW true x27 (cl (nat_lit 175) [x30] h31 (fun x36 h37 =>
 j35 x36 h37) kp)
 (j35 undefA h31)) fun j40 =>
 GW true x27 (LD x28 h29 fun x41 =>
 j40 x41 h29)
 (j40 undefA h29)) fun j42 =>
 GW true x27 (FA (nat_lit 1) x2 fun x43 =>
 j42 x43 h3)
 (j42 undefA h3)
noncomputable def B222x63 (x2 : AV) (h3 : Heap) (kr : KR) : Ans := FA (nat_lit 2) x2 fun x46 =>
 LD x46 h3 fun x47 =>
 LENT x47 fun x48 =>
 LEQ Pr 3 true x48 (.int .i64 (nat_lit 500)) fun x49 =>
 JO (fun x50 h51 =>
 JO (fun x52 h53 =>
 JO (fun x54 h55 =>
 SEL x49 x54 (.bool false) fun x56 =>
 kr x56 h55) fun j57 =>
 GW true x49 (EQL Pr 3 true x52 (.int .i64 (nat_lit 0)) fun x58 =>
 j57 x58 h53)
 (j57 undefA h53)) fun j59 =>
 GW true x49 (LD x50 h51 fun x60 =>
 j59 x60 h51)
 (j59 undefA h51)) fun j61 =>
 GW true x49 (FA (nat_lit 1) x2 fun x62 =>
 j61 x62 h3)
 (j61 undefA h3)
noncomputable def B222x98 (x83 : AV) (kr : KR) (x71 : AV) (x84 : AV) (h85 : Heap) : Ans := JO (fun x86 h87 =>
 JO (fun x88 h89 =>
 JO (fun x90 h91 =>
 SEL x83 x90 (.bool false) fun x92 =>
 kr x92 h91) fun j93 =>
 GW true x83 (EQL Pr 3 false x86 x88 fun x94 =>
 j93 x94 h89)
 (j93 undefA h89)) fun j95 =>
 GW true x83 (j95 x71 h87)
 (j95 undefA h87)) fun j96 =>
 GW true x83 (LD x84 h85 fun x97 =>
 j96 x97 h85)
 (j96 undefA h85)
noncomputable def B222x108 (x76 : AV) (kr : KR) (x71 : AV) (x2 : AV) (cl : CL) (kp : KP) (x77 : AV) (h78 : Heap) : Ans := JO (fun x79 h80 =>
 JO (fun x81 h82 =>
 SEL x76 x81 (.bool false) fun x83 =>
 JO (fun x84 h85 =>
 B222x98 x83 kr x71 x84 h85) fun j99 =>
 GW true x83 (FA (nat_lit 1) x2 fun x100 =>
 j99 x100 h82)
 (j99 undefA h82)) fun j101 =>
 GW true x76 (cl (nat_lit 257) [x79] h80 (fun x102 h103 =>
 j101 x102 h103) kp)
 (j101 undefA h80)) fun j106 =>
 GW true x76 (LD x77 h78 fun x107 =>
 j106 x107 h78)
 (j106 undefA h78)
noncomputable def B222x111 (x2 : AV) (h3 : Heap) (cl : CL) (kr : KR) (kp : KP) : Ans := FA (nat_lit 2) x2 fun x65 =>
 LD x65 h3 fun x66 =>
 cl (nat_lit 181) [x66] h3 (fun x67 h68 =>
 EX (nat_lit 0) x67 fun x71 =>
 EX (nat_lit 1) x67 fun x72 =>
 FA (nat_lit 2) x2 fun x73 =>
 LD x73 h68 fun x74 =>
 LENT x74 fun x75 =>
 LEQ Pr 3 true x75 (.int .i64 (nat_lit 500)) fun x76 =>
 JO (fun x77 h78 =>
 B222x108 x76 kr x71 x2 cl kp x77 h78) fun j109 =>
 GW true x76 (FA (nat_lit 2) x2 fun x110 =>
 j109 x110 h68)
 (j109 undefA h68)) kp
noncomputable def F222 (fu : Nat) (oR : FuncId → List AV → Option AV) (cl : CL) (args : List AV) (h1 : Heap) (kr : KR) (kp : KP) : Ans := AR1 args fun x0 =>
 BOX 54 x0 h1 fun x2 h3 =>
 FA (nat_lit 0) x2 fun x4 =>
 LD x4 h3 fun x5 =>
 EQL Pr 3 true x5 (.int .i64 (nat_lit 0)) fun x6 =>
 IFB x6 (B222x23 x2 h3 kr)
 (EQL Pr 3 true x5 (.int .i64 (nat_lit 1)) fun x24 =>
 IFB x24 (B222x44 x2 h3 kr cl kp)
 (EQL Pr 3 true x5 (.int .i64 (nat_lit 2)) fun x45 =>
 IFB x45 (B222x63 x2 h3 kr)
 (EQL Pr 3 true x5 (.int .i64 (nat_lit 3)) fun x64 =>
 IFB x64 (B222x111 x2 h3 cl kr kp)
 (kr (.bool false) h3))))

theorem eqF222 : F222 = fun fu oR => compF Pr fu oR 222 1 := by kernel_rfl

noncomputable def B225x25 (x7 : AV) (x3 : AV) (j5 : AV → Heap → Ans) (kr : KR) (cl : CL) (kp : KP) (x8 : AV) (x10 : AV) (h11 : Heap) : Ans := JO (fun x12 h13 =>
 JO (fun x14 h15 =>
 SEL x7 x14 (.bool false) fun x16 =>
 IFB x16 (ADD Pr 3 true x3 (.int .i64 (nat_lit 1)) fun x17 =>
 j5 x17 h15)
 (kr x3 h15)) fun j18 =>
 GW true x7 (cl (nat_lit 153) [x12] h13 (fun x19 h20 =>
 j18 x19 h20) kp)
 (j18 undefA h13)) fun j23 =>
 GW true x7 (SAT x8 x10 fun x24 =>
 j23 x24 h11)
 (j23 undefA h11)
noncomputable def F225 (fu : Nat) (oR : FuncId → List AV → Option AV) (cl : CL) (args : List AV) (h2 : Heap) (kr : KR) (kp : KP) : Ans := AR2 args fun x0 x1 =>
 LP fu (fun _ _ => Ans.no) (fun j5 x3 h4 =>
 LENT x0 fun x6 =>
 LSS Pr 3 false x3 x6 fun x7 =>
 JO (fun x8 h9 =>
 JO (fun x10 h11 =>
 B225x25 x7 x3 j5 kr cl kp x8 x10 h11) fun j26 =>
 GW true x7 (j26 x3 h9)
 (j26 undefA h9)) fun j27 =>
 GW true x7 (j27 x0 h4)
 (j27 undefA h4)) x1 h2

theorem eqF225 : F225 = fun fu oR => compF Pr fu oR 225 2 := by kernel_rfl

noncomputable def F226 (fu : Nat) (oR : FuncId → List AV → Option AV) (cl : CL) (args : List AV) (h0 : Heap) (kr : KR) (kp : KP) : Ans := AR0 args <|
 BSL (nat_lit 9) (nat_lit 1) [(.str (nat_lit 0) (nat_lit 0)), (.str (nat_lit 0) (nat_lit 0)), (.str (nat_lit 0) (nat_lit 0)), (.str (nat_lit 0) (nat_lit 0)), (.str (nat_lit 0) (nat_lit 0)), (.str (nat_lit 0) (nat_lit 0)), (.str (nat_lit 0) (nat_lit 0)), (.str (nat_lit 0) (nat_lit 0)), (.str (nat_lit 0) (nat_lit 0)), (.str (nat_lit 0) (nat_lit 0)), (.str (nat_lit 0) (nat_lit 0)), (.str (nat_lit 0) (nat_lit 0)), (.str (nat_lit 0) (nat_lit 0)), (.str (nat_lit 0) (nat_lit 0)), (.str (nat_lit 0) (nat_lit 0)), (.str (nat_lit 0) (nat_lit 0)), (.str (nat_lit 0) (nat_lit 0)), (.str (nat_lit 0) (nat_lit 0)), (.str (nat_lit 0) (nat_lit 0)), (.str (nat_lit 0) (nat_lit 0)), (.str (nat_lit 0) (nat_lit 0)), (.str (nat_lit 0) (nat_lit 0))] (nat_lit 22) [((nat_lit 0), (.str (nat_lit 5) (nat_lit 336236856642))), ((nat_lit 1), (.str (nat_lit 3) (nat_lit 4476485))), ((nat_lit 2), (.str (nat_lit 8) (nat_lit 7957695015192261990))), ((nat_lit 3), (.str (nat_lit 2) (nat_lit 26217))), ((nat_lit 4), (.str (nat_lit 4) (nat_lit 1702063205))), ((nat_lit 5), (.str (nat_lit 5) (nat_lit 435610544247))), ((nat_lit 6), (.str (nat_lit 3) (nat_lit 7499622))), ((nat_lit 7), (.str (nat_lit 2) (nat_lit 28265))), ((nat_lit 8), (.str (nat_lit 5) (nat_lit 461195539042))), ((nat_lit 9), (.str (nat_lit 8) (nat_lit 7310870969309884259))), ((nat_lit 10), (.str (nat_lit 4) (nat_lit 1954047342))), ((nat_lit 11), (.str (nat_lit 4) (nat_lit 1953069157))), ((nat_lit 12), (.str (nat_lit 6) (nat_lit 121437875889522))), ((nat_lit 13), (.str (nat_lit 6) (nat_lit 111550592214372))), ((nat_lit 14), (.str (nat_lit 5) (nat_lit 500068610672))), ((nat_lit 15), (.str (nat_lit 6) (nat_lit 112650254643824))), ((nat_lit 16), (.str (nat_lit 6) (nat_lit 114849160783212))), ((nat_lit 17), (.str (nat_lit 6) (nat_lit 125844477605235))), ((nat_lit 18), (.str (nat_lit 5) (nat_lit 517097156201))), ((nat_lit 19), (.str (nat_lit 5) (nat_lit 499984920691))), ((nat_lit 20), (.str (nat_lit 7) (nat_lit 32199680942501748))), ((nat_lit 21), (.str (nat_lit 3) (nat_lit 7630441)))] h0 fun x1 h2 =>
 kr x1 h2

theorem eqF226 : F226 = fun fu oR => compF Pr fu oR 226 0 := by kernel_rfl

noncomputable def B227x24 (cl : CL) (x0 : AV) (h10 : Heap) (x6 : AV) (j8 : AV → Heap → Ans) (kp : KP) : Ans := cl (nat_lit 278) [x0] h10 (fun x13 h14 =>
 BSL (nat_lit 3) (nat_lit 1) [(.int .i64 (nat_lit 0)), (.int .i64 (nat_lit 0))] (nat_lit 2) [((nat_lit 0), x6), ((nat_lit 1), x13)] h14 fun x17 h18 =>
 OV (buildA Pr 92 [((nat_lit 0), (.int .i64 (nat_lit 10))), ((nat_lit 4), x17)]) fun x19 =>
 cl (nat_lit 163) [x0, x19] h18 (fun x20 h21 =>
 j8 x20 h21) kp) kp
noncomputable def F227 (fu : Nat) (oR : FuncId → List AV → Option AV) (cl : CL) (args : List AV) (h1 : Heap) (kr : KR) (kp : KP) : Ans := AR1 args fun x0 =>
 cl (nat_lit 278) [x0] h1 (fun x2 h3 =>
 LP fu (fun _ _ => Ans.no) (fun j8 x6 h7 =>
 cl (nat_lit 100) [x0, (.str (nat_lit 2) (nat_lit 31868))] h7 (fun x9 h10 =>
 IFB x9 (B227x24 cl x0 h10 x6 j8 kp)
 (kr x6 h10)) kp) x2 h3) kp

theorem eqF227 : F227 = fun fu oR => compF Pr fu oR 227 1 := by kernel_rfl

noncomputable def B230x34 (x3 : AV) (h18 : Heap) (cl : CL) (x0 : AV) (j16 : Heap → Ans) (kp : KP) : Ans := FA (nat_lit 0) x3 fun x21 =>
 ST (nat_lit 1) x21 (.int .i64 (nat_lit 41)) h18 fun h22 =>
 cl (nat_lit 102) [x0, (.str (nat_lit 1) (nat_lit 59))] h22 (fun x23 h24 =>
 OV (unOpA .not x23) fun x27 =>
 IFB x27 (cl (nat_lit 280) [x0] h24 (fun x28 h29 =>
 FA (nat_lit 4) x3 fun x32 =>
 ST (nat_lit 1) x32 x28 h29 fun h33 =>
 j16  h33) kp)
 (j16  h24)) kp
noncomputable def B230x84 (x3 : AV) (h66 : Heap) (cl : CL) (x0 : AV) (j16 : Heap → Ans) (kp : KP) : Ans := FA (nat_lit 0) x3 fun x69 =>
 ST (nat_lit 1) x69 (.int .i64 (nat_lit 50)) h66 fun h70 =>
 cl (nat_lit 102) [x0, (.str (nat_lit 1) (nat_lit 59))] h70 (fun x71 h72 =>
 OV (unOpA .not x71) fun x75 =>
 IFB x75 (cl (nat_lit 103) [x0] h72 (fun x76 h77 =>
 BSL (nat_lit 3) (nat_lit 1) [(.int .i64 (nat_lit 0))] (nat_lit 1) [((nat_lit 0), x76)] h77 fun x80 h81 =>
 FA (nat_lit 4) x3 fun x82 =>
 ST (nat_lit 1) x82 x80 h81 fun h83 =>
 j16  h83) kp)
 (j16  h72)) kp
noncomputable def B230x104 (x3 : AV) (h86 : Heap) (cl : CL) (x0 : AV) (j16 : Heap → Ans) (kp : KP) : Ans := FA (nat_lit 0) x3 fun x89 =>
 ST (nat_lit 1) x89 (.int .i64 (nat_lit 51)) h86 fun h90 =>
 cl (nat_lit 102) [x0, (.str (nat_lit 1) (nat_lit 59))] h90 (fun x91 h92 =>
 OV (unOpA .not x91) fun x95 =>
 IFB x95 (cl (nat_lit 103) [x0] h92 (fun x96 h97 =>
 BSL (nat_lit 3) (nat_lit 1) [(.int .i64 (nat_lit 0))] (nat_lit 1) [((nat_lit 0), x96)] h97 fun x100 h101 =>
 FA (nat_lit 4) x3 fun x102 =>
 ST (nat_lit 1) x102 x100 h101 fun h103 =>
 j16  h103) kp)
 (j16  h92)) kp
noncomputable def B230x133 (x3 : AV) (h106 : Heap) (cl : CL) (x0 : AV) (j16 : Heap → Ans) (kp : KP) : Ans := FA (nat_lit 0) x3 fun x109 =>
 ST (nat_lit 1) x109 (.int .i64 (nat_lit 52)) h106 fun h110 =>
 cl (nat_lit 160) [x0] h110 (fun x111 h112 =>
 FA (nat_lit 1) x3 fun x115 =>
 ST (nat_lit 1) x115 x111 h112 fun h116 =>
 cl (nat_lit 159) [x0, (.str (nat_lit 1) (nat_lit 91))] h116 (fun x117 h118 =>
 cl (nat_lit 103) [x0] h118 (fun x121 h122 =>
 BSL (nat_lit 3) (nat_lit 1) [(.int .i64 (nat_lit 0))] (nat_lit 1) [((nat_lit 0), x121)] h122 fun x125 h126 =>
 FA (nat_lit 4) x3 fun x127 =>
 ST (nat_lit 1) x127 x125 h126 fun h128 =>
 cl (nat_lit 159) [x0, (.str (nat_lit 1) (nat_lit 93))] h128 (fun x129 h130 =>
 j16  h130) kp) kp) kp) kp
noncomputable def B230x142 (cl : CL) (x0 : AV) (h86 : Heap) (x3 : AV) (j16 : Heap → Ans) (kp : KP) : Ans := cl (nat_lit 100) [x0, (.str (nat_lit 6) (nat_lit 111550592214372))] h86 (fun x105 h106 =>
 IFB x105 (B230x133 x3 h106 cl x0 j16 kp)
 (cl (nat_lit 103) [x0] h106 (fun x134 h135 =>
 BSL (nat_lit 3) (nat_lit 1) [(.int .i64 (nat_lit 0))] (nat_lit 1) [((nat_lit 0), x134)] h135 fun x138 h139 =>
 FA (nat_lit 4) x3 fun x140 =>
 ST (nat_lit 1) x140 x138 h139 fun h141 =>
 j16  h141) kp)) kp
noncomputable def B230x143 (cl : CL) (x0 : AV) (h54 : Heap) (x3 : AV) (j16 : Heap → Ans) (kp : KP) : Ans := cl (nat_lit 100) [x0, (.str (nat_lit 4) (nat_lit 1954047342))] h54 (fun x59 h60 =>
 IFB x59 (FA (nat_lit 0) x3 fun x63 =>
 ST (nat_lit 1) x63 (.int .i64 (nat_lit 49)) h60 fun h64 =>
 j16  h64)
 (cl (nat_lit 100) [x0, (.str (nat_lit 4) (nat_lit 1953069157))] h60 (fun x65 h66 =>
 IFB x65 (B230x84 x3 h66 cl x0 j16 kp)
 (cl (nat_lit 100) [x0, (.str (nat_lit 6) (nat_lit 121437875889522))] h66 (fun x85 h86 =>
 IFB x85 (B230x104 x3 h86 cl x0 j16 kp)
 (B230x142 cl x0 h86 x3 j16 kp)) kp)) kp)) kp
noncomputable def B230x144 (cl : CL) (x0 : AV) (h36 : Heap) (x3 : AV) (j16 : Heap → Ans) (kp : KP) : Ans := cl (nat_lit 100) [x0, (.str (nat_lit 5) (nat_lit 461195539042))] h36 (fun x47 h48 =>
 IFB x47 (FA (nat_lit 0) x3 fun x51 =>
 ST (nat_lit 1) x51 (.int .i64 (nat_lit 47)) h48 fun h52 =>
 j16  h52)
 (cl (nat_lit 100) [x0, (.str (nat_lit 8) (nat_lit 7310870969309884259))] h48 (fun x53 h54 =>
 IFB x53 (FA (nat_lit 0) x3 fun x57 =>
 ST (nat_lit 1) x57 (.int .i64 (nat_lit 48)) h54 fun h58 =>
 j16  h58)
 (B230x143 cl x0 h54 x3 j16 kp)) kp)) kp
noncomputable def B230x145 (cl : CL) (x0 : AV) (h18 : Heap) (x3 : AV) (j16 : Heap → Ans) (kp : KP) : Ans := cl (nat_lit 100) [x0, (.str (nat_lit 6) (nat_lit 112650254643824))] h18 (fun x35 h36 =>
 IFB x35 (FA (nat_lit 0) x3 fun x39 =>
 ST (nat_lit 1) x39 (.int .i64 (nat_lit 42)) h36 fun h40 =>
 cl (nat_lit 280) [x0] h40 (fun x41 h42 =>
 FA (nat_lit 4) x3 fun x45 =>
 ST (nat_lit 1) x45 x41 h42 fun h46 =>
 j16  h46) kp)
 (B230x144 cl x0 h36 x3 j16 kp)) kp
noncomputable def F230 (fu : Nat) (oR : FuncId → List AV → Option AV) (cl : CL) (args : List AV) (h1 : Heap) (kr : KR) (kp : KP) : Ans := AR1 args fun x0 =>
 OV (buildA Pr 92 [((nat_lit 0), (.int .i64 (nat_lit 40)))]) fun x2 =>
 NEWC (.n (some (.int .i64 (nat_lit 0))) (.n (some (.str (nat_lit 0) (nat_lit 0))) (.n (some (.int .i64 (nat_lit 0))) .e .e) .e) (.n (some (.str (nat_lit 0) (nat_lit 0))) (.n (some (.nilslice)) .e .e) .e)) (nat_lit 5) 92 h1 fun x3 h4 =>
 ST (nat_lit 5) x3 x2 h4 fun h5 =>
 JO (fun h6 =>
 cl (nat_lit 159) [x0, (.str (nat_lit 1) (nat_lit 59))] h6 (fun x7 h8 =>
 LDN (nat_lit 5) x3 h8 fun x11 =>
 cl (nat_lit 163) [x0, x11] h8 (fun x12 h13 =>
 kr x12 h13) kp) kp) fun j16 =>
 cl (nat_lit 100) [x0, (.str (nat_lit 5) (nat_lit 500068610672))] h5 (fun x17 h18 =>
 IFB x17 (B230x34 x3 h18 cl x0 j16 kp)
 (B230x145 cl x0 h18 x3 j16 kp)) kp

theorem eqF230 : F230 = fun fu oR => compF Pr fu oR 230 1 := by kernel_rfl

noncomputable def F232 (fu : Nat) (oR : FuncId → List AV → Option AV) (cl : CL) (args : List AV) (h2 : Heap) (kr : KR) (kp : KP) : Ans := AR2 args fun x0 x1 =>
 GEN (callF Pr h2 281 [x0, x1]) cl (fun x3 h4 =>
 kr x3 h4) kp

theorem eqF232 : F232 = fun fu oR => compF Pr fu oR 232 2 := by kernel_rfl

noncomputable def F237 (fu : Nat) (oR : FuncId → List AV → Option AV) (cl : CL) (args : List AV) (h1 : Heap) (kr : KR) (kp : KP) : Ans := AR1 args fun x0 =>
 cl (nat_lit 283) [x0, (.int .i64 (nat_lit 10))] h1 (fun x2 h3 =>
 kr x2 h3) kp

theorem eqF237 : F237 = fun fu oR => compF Pr fu oR 237 1 := by kernel_rfl

noncomputable def B238x28 (x7 : AV) (x3 : AV) (j5 : AV → Heap → Ans) (kr : KR) (x16 : AV) (x18 : AV) (h19 : Heap) : Ans := JO (fun x20 h21 =>
 SEL x7 x20 (.bool false) fun x22 =>
 IFB x22 (LENT x3 fun x23 =>
 SUB Pr 3 true x23 (.int .i64 (nat_lit 1)) fun x24 =>
 OV (sliceA Pr 9 x3 none (some x24) none) fun x25 =>
 j5 x25 h21)
 (kr x3 h21)) fun j26 =>
 GW true x7 (EQL Pr 5 false x16 x18 fun x27 =>
 j26 x27 h19)
 (j26 undefA h19)
noncomputable def B238x34 (x7 : AV) (x3 : AV) (j5 : AV → Heap → Ans) (kr : KR) (x1 : AV) (x8 : AV) (x12 : AV) (h13 : Heap) : Ans := JO (fun x14 h15 =>
 JO (fun x16 h17 =>
 JO (fun x18 h19 =>
 B238x28 x7 x3 j5 kr x16 x18 h19) fun j29 =>
 GW true x7 (j29 x1 h17)
 (j29 undefA h17)) fun j30 =>
 GW true x7 (SAT x8 x14 fun x31 =>
 j30 x31 h15)
 (j30 undefA h15)) fun j32 =>
 GW true x7 (SUB Pr 3 true x12 (.int .i64 (nat_lit 1)) fun x33 =>
 j32 x33 h13)
 (j32 undefA h13)
noncomputable def B238x39 (x3 : AV) (j5 : AV → Heap → Ans) (kr : KR) (x1 : AV) (h4 : Heap) : Ans := LENT x3 fun x6 =>
 GTR Pr 3 true x6 (.int .i64 (nat_lit 0)) fun x7 =>
 JO (fun x8 h9 =>
 JO (fun x10 h11 =>
 JO (fun x12 h13 =>
 B238x34 x7 x3 j5 kr x1 x8 x12 h13) fun j35 =>
 GW true x7 (LENT x10 fun x36 =>
 j35 x36 h11)
 (j35 undefA h11)) fun j37 =>
 GW true x7 (j37 x3 h9)
 (j37 undefA h9)) fun j38 =>
 GW true x7 (j38 x3 h4)
 (j38 undefA h4)
noncomputable def F238 (fu : Nat) (oR : FuncId → List AV → Option AV) (cl : CL) (args : List AV) (h2 : Heap) (kr : KR) (kp : KP) : Ans := AR2 args fun x0 x1 =>
 LP fu (fun _ _ => Ans.no) (fun j5 x3 h4 =>
 B238x39 x3 j5 kr x1 h4) x0 h2

theorem eqF238 : F238 = fun fu oR => compF Pr fu oR 238 2 := by kernel_rfl

noncomputable def F243 (fu : Nat) (oR : FuncId → List AV → Option AV) (cl : CL) (args : List AV) (h0 : Heap) (kr : KR) (kp : KP) : Ans := AR0 args <|
 BSL (nat_lit 9) (nat_lit 1) [(.str (nat_lit 0) (nat_lit 0)), (.str (nat_lit 0) (nat_lit 0)), (.str (nat_lit 0) (nat_lit 0)), (.str (nat_lit 0) (nat_lit 0)), (.str (nat_lit 0) (nat_lit 0)), (.str (nat_lit 0) (nat_lit 0)), (.str (nat_lit 0) (nat_lit 0)), (.str (nat_lit 0) (nat_lit 0)), (.str (nat_lit 0) (nat_lit 0)), (.str (nat_lit 0) (nat_lit 0)), (.str (nat_lit 0) (nat_lit 0)), (.str (nat_lit 0) (nat_lit 0)), (.str (nat_lit 0) (nat_lit 0)), (.str (nat_lit 0) (nat_lit 0)), (.str (nat_lit 0) (nat_lit 0)), (.str (nat_lit 0) (nat_lit 0)), (.str (nat_lit 0) (nat_lit 0)), (.str (nat_lit 0) (nat_lit 0)), (.str (nat_lit 0) (nat_lit 0)), (.str (nat_lit 0) (nat_lit 0)), (.str (nat_lit 0) (nat_lit 0)), (.str (nat_lit 0) (nat_lit 0))] (nat_lit 22) [((nat_lit 0), (.str (nat_lit 5) (nat_lit 336236856642))), ((nat_lit 1), (.str (nat_lit 3) (nat_lit 4476485))), ((nat_lit 2), (.str (nat_lit 8) (nat_lit 7957695015192261990))), ((nat_lit 3), (.str (nat_lit 2) (nat_lit 26217))), ((nat_lit 4), (.str (nat_lit 4) (nat_lit 1702063205))), ((nat_lit 5), (.str (nat_lit 5) (nat_lit 435610544247))), ((nat_lit 6), (.str (nat_lit 3) (nat_lit 7499622))), ((nat_lit 7), (.str (nat_lit 2) (nat_lit 28265))), ((nat_lit 8), (.str (nat_lit 5) (nat_lit 461195539042))), ((nat_lit 9), (.str (nat_lit 8) (nat_lit 7310870969309884259))), ((nat_lit 10), (.str (nat_lit 4) (nat_lit 1954047342))), ((nat_lit 11), (.str (nat_lit 4) (nat_lit 1953069157))), ((nat_lit 12), (.str (nat_lit 6) (nat_lit 121437875889522))), ((nat_lit 13), (.str (nat_lit 6) (nat_lit 111550592214372))), ((nat_lit 14), (.str (nat_lit 5) (nat_lit 500068610672))), ((nat_lit 15), (.str (nat_lit 6) (nat_lit 112650254643824))), ((nat_lit 16), (.str (nat_lit 6) (nat_lit 114849160783212))), ((nat_lit 17), (.str (nat_lit 6) (nat_lit 125844477605235))), ((nat_lit 18), (.str (nat_lit 5) (nat_lit 517097156201))), ((nat_lit 19), (.str (nat_lit 5) (nat_lit 499984920691))), ((nat_lit 20), (.str (nat_lit 7) (nat_lit 32199680942501748))), ((nat_lit 21), (.str (nat_lit 3) (nat_lit 7630441)))] h0 fun x1 h2 =>
 kr x1 h2

theorem eqF243 : F243 = fun fu oR => compF Pr fu oR 243 0 := by kernel_rfl

noncomputable def B244x24 (x5 : AV) (kr : KR) (x1 : AV) (x6 : AV) (x10 : AV) (h11 : Heap) : Ans := JO (fun x12 h13 =>
 JO (fun x14 h15 =>
 JO (fun x16 h17 =>
 SEL x5 x16 (.bool false) fun x18 =>
 kr x18 h17) fun j19 =>
 GW true x5 (EQL Pr 9 false x12 x14 fun x20 =>
 j19 x20 h15)
 (j19 undefA h15)) fun j21 =>
 GW true x5 (j21 x1 h13)
 (j21 undefA h13)) fun j22 =>
 GW true x5 (OV (sliceA Pr 9 x6 none (some x10) none) fun x23 =>
 j22 x23 h11)
 (j22 undefA h11)
noncomputable def F244 (fu : Nat) (oR : FuncId → List AV → Option AV) (cl : CL) (args : List AV) (h2 : Heap) (kr : KR) (kp : KP) : Ans := AR2 args fun x0 x1 =>
 LENT x0 fun x3 =>
 LENT x1 fun x4 =>
 GEQ Pr 3 false x3 x4 fun x5 =>
 JO (fun x6 h7 =>
 JO (fun x8 h9 =>
 JO (fun x10 h11 =>
 B244x24 x5 kr x1 x6 x10 h11) fun j25 =>
 GW true x5 (LENT x8 fun x26 =>
 j25 x26 h9)
 (j25 undefA h9)) fun j27 =>
 GW true x5 (j27 x1 h7)
 (j27 undefA h7)) fun j28 =>
 GW true x5 (j28 x0 h2)
 (j28 undefA h2)

theorem eqF244 : F244 = fun fu oR => compF Pr fu oR 244 2 := by kernel_rfl

noncomputable def B245x31 (x0 : AV) (h4 : Heap) (x1 : AV) (x3 : AV) (kr : KR) : Ans := NC x0 fun x20 =>
 FA (nat_lit 0) x20 fun x21 =>
 LD x21 h4 fun x22 =>
 NC x0 fun x23 =>
 FA (nat_lit 1) x23 fun x24 =>
 LD x24 h4 fun x25 =>
 ADD Pr 3 false x25 x1 fun x26 =>
 SA (nat_lit 4) x22 x26 fun x27 =>
 LDN (nat_lit 4) x27 h4 fun x28 =>
 ST (nat_lit 4) x3 x28 h4 fun h29 =>
 LDN (nat_lit 4) x3 h29 fun x30 =>
 kr x30 h29
noncomputable def F245 (fu : Nat) (oR : FuncId → List AV → Option AV) (cl : CL) (args : List AV) (h2 : Heap) (kr : KR) (kp : KP) : Ans := AR2 args fun x0 x1 =>
 NEWC (.n (some (.int .i64 (nat_lit 0))) (.n (some (.str (nat_lit 0) (nat_lit 0))) (.n (some (.int .i64 (nat_lit 0))) .e .e) .e) (.n (some (.int .i64 (nat_lit 0))) .e .e)) (nat_lit 4) 114 h2 fun x3 h4 =>
 NC x0 fun x5 =>
 FA (nat_lit 1) x5 fun x6 =>
 LD x6 h4 fun x7 =>
 ADD Pr 3 false x7 x1 fun x8 =>
 NC x0 fun x9 =>
 FA (nat_lit 0) x9 fun x10 =>
 LD x10 h4 fun x11 =>
 LENS x11 fun x12 =>
 GEQ Pr 3 false x8 x12 fun x13 =>
 IFB x13 (NC x0 fun x14 =>
 FA (nat_lit 2) x14 fun x15 =>
 LD x15 h4 fun x16 =>
 OV (buildA Pr 114 [((nat_lit 3), x16)]) fun x17 =>
 ST (nat_lit 4) x3 x17 h4 fun h18 =>
 LDN (nat_lit 4) x3 h18 fun x19 =>
 kr x19 h18)
 (B245x31 x0 h4 x1 x3 kr)

theorem eqF245 : F245 = fun fu oR => compF Pr fu oR 245 2 := by kernel_rfl

noncomputable def B246x27 (x8 : AV) (kr : KR) (cl : CL) (x9 : AV) (kp : KP) (x4 : AV) (h10 : Heap) : Ans := JO (fun x11 h12 =>
 JO (fun x13 h14 =>
 JO (fun x15 h16 =>
 SEL x8 x15 (.bool false) fun x17 =>
 kr x17 h16) fun j18 =>
 GW true x8 (cl (nat_lit 203) [x9, x13] h14 (fun x19 h20 =>
 j18 x19 h20) kp)
 (j18 undefA h14)) fun j23 =>
 GW true x8 (LD x11 h12 fun x24 =>
 j23 x24 h12)
 (j23 undefA h12)) fun j25 =>
 GW true x8 (FA (nat_lit 1) x4 fun x26 =>
 j25 x26 h10)
 (j25 undefA h10)
noncomputable def F246 (fu : Nat) (oR : FuncId → List AV → Option AV) (cl : CL) (args : List AV) (h3 : Heap) (kr : KR) (kp : KP) : Ans := AR3 args fun x0 x1 x2 =>
 BOX 114 x0 h3 fun x4 h5 =>
 FA (nat_lit 0) x4 fun x6 =>
 LD x6 h5 fun x7 =>
 EQL Pr 3 false x7 x1 fun x8 =>
 JO (fun x9 h10 =>
 B246x27 x8 kr cl x9 kp x4 h10) fun j28 =>
 GW true x8 (j28 x2 h5)
 (j28 undefA h5)

theorem eqF246 : F246 = fun fu oR => compF Pr fu oR 246 3 := by kernel_rfl

noncomputable def B248x22 (x0 : AV) (h3 : Heap) (x1 : AV) (cl : CL) (kr : KR) (kp : KP) : Ans := NC x0 fun x4 =>
 FA (nat_lit 3) x4 fun x5 =>
 LD x5 h3 fun x6 =>
 ADD Pr 3 true x6 (.int .i64 (nat_lit 1)) fun x7 =>
 NC x0 fun x8 =>
 FA (nat_lit 3) x8 fun x9 =>
 ST (nat_lit 1) x9 x7 h3 fun h10 =>
 GEN (callV Pr (some x1) [] h10) cl (fun x11 h12 =>
 NC x0 fun x15 =>
 FA (nat_lit 3) x15 fun x16 =>
 LD x16 h12 fun x17 =>
 SUB Pr 3 true x17 (.int .i64 (nat_lit 1)) fun x18 =>
 NC x0 fun x19 =>
 FA (nat_lit 3) x19 fun x20 =>
 ST (nat_lit 1) x20 x18 h12 fun h21 =>
 kr x11 h21) kp
noncomputable def F248 (fu : Nat) (oR : FuncId → List AV → Option AV) (cl : CL) (args : List AV) (h2 : Heap) (kr : KR) (kp : KP) : Ans := AR2 args fun x0 x1 =>
 JO (fun h3 =>
 B248x22 x0 h3 x1 cl kr kp) fun j23 =>
 NC x0 fun x24 =>
 FA (nat_lit 3) x24 fun x25 =>
 LD x25 h2 fun x26 =>
 EQL Pr 3 true x26 (.int .i64 (nat_lit 40)) fun x27 =>
 IFB x27 (cl (nat_lit 247) [x0] h2 (fun x28 h29 =>
 j23  h29) kp)
 (j23  h2)

theorem eqF248 : F248 = fun fu oR => compF Pr fu oR 248 2 := by kernel_rfl

noncomputable def B249x42 (x0 : AV) (h27 : Heap) (cl : CL) (x3 : AV) (x26 : AV) (kr : KR) (kp : KP) : Ans := LD x0 h27 fun x28 =>
 LD x0 h27 fun x29 =>
 cl (nat_lit 194) [x29] h27 (fun x30 h31 =>
 LD x0 h31 fun x34 =>
 EQV x28 x34 <|
 BSL (nat_lit 3) (nat_lit 1) [(.int .i64 (nat_lit 0)), (.int .i64 (nat_lit 0))] (nat_lit 2) [((nat_lit 0), x3), ((nat_lit 1), x30)] h31 fun x35 h36 =>
 LD x0 h36 fun x37 =>
 EQV x28 x37 <|
 cl (nat_lit 251) [x28, x26, x35] h36 (fun x38 h39 =>
 kr x38 h39) kp) kp
noncomputable def B249x51 (x0 : AV) (cl : CL) (x3 : AV) (kr : KR) (kp : KP) (h23 : Heap) : Ans := JO (fun x26 h27 =>
 B249x42 x0 h27 cl x3 x26 kr kp) fun j43 =>
 LD x0 h23 fun x44 =>
 cl (nat_lit 190) [x44] h23 (fun x45 h46 =>
 OV (fieldA Pr 114 x45 1) fun x49 =>
 EQL Pr 9 true x49 (.str (nat_lit 2) (nat_lit 15659)) fun x50 =>
 IFB x50 (j43 (.int .i64 (nat_lit 8)) h46)
 (j43 (.int .i64 (nat_lit 7)) h46)) kp
noncomputable def B249x52 (x0 : AV) (h18 : Heap) (cl : CL) (x3 : AV) (kr : KR) (kp : KP) (j16 : Heap → Ans) : Ans := LD x0 h18 fun x19 =>
 BSL (nat_lit 9) (nat_lit 1) [(.str (nat_lit 0) (nat_lit 0)), (.str (nat_lit 0) (nat_lit 0))] (nat_lit 2) [((nat_lit 0), (.str (nat_lit 1) (nat_lit 61))), ((nat_lit 1), (.str (nat_lit 2) (nat_lit 15659)))] h18 fun x20 h21 =>
 cl (nat_lit 193) [x19, x20] h21 (fun x22 h23 =>
 IFB x22 (B249x51 x0 cl x3 kr kp h23)
 (j16  h23)) kp
noncomputable def F249 (fu : Nat) (oR : FuncId → List AV → Option AV) (cl : CL) (args : List AV) (h1 : Heap) (kr : KR) (kp : KP) : Ans := AR1 args fun x0 =>
 LD x0 h1 fun x2 =>
 cl (nat_lit 250) [x2] h1 (fun x3 h4 =>
 LD x0 h4 fun x7 =>
 NC x7 fun x8 =>
 FA (nat_lit 4) x8 fun x9 =>
 FA (nat_lit 0) x9 fun x10 =>
 LD x10 h4 fun x11 =>
 SA (nat_lit 5) x11 x3 fun x12 =>
 FA (nat_lit 0) x12 fun x13 =>
 LD x13 h4 fun x14 =>
 JO (fun h15 =>
 kr x3 h15) fun j16 =>
 JO (fun x17 h18 =>
 IFB x17 (B249x52 x0 h18 cl x3 kr kp j16)
 (j16  h18)) fun j53 =>
 EQL Pr 3 true x14 (.int .i64 (nat_lit 3)) fun x54 =>
 IFB x54 (j53 x54 h4)
 (EQL Pr 3 true x14 (.int .i64 (nat_lit 4)) fun x55 =>
 IFB x55 (j53 x55 h4)
 (EQL Pr 3 true x14 (.int .i64 (nat_lit 5)) fun x56 =>
 j53 x56 h4))) kp

theorem eqF249 : F249 = fun fu oR => compF Pr fu oR 249 1 := by kernel_rfl

noncomputable def B250x38 (x0 : AV) (h9 : Heap) (cl : CL) (x2 : AV) (kr : KR) (kp : KP) : Ans := NC x0 fun x13 =>
 FA (nat_lit 1) x13 fun x14 =>
 LD x14 h9 fun x15 =>
 ADD Pr 3 true x15 (.int .i64 (nat_lit 1)) fun x16 =>
 NC x0 fun x17 =>
 FA (nat_lit 1) x17 fun x18 =>
 ST (nat_lit 1) x18 x16 h9 fun h19 =>
 cl (nat_lit 194) [x0] h19 (fun x20 h21 =>
 cl (nat_lit 192) [x0, (.str (nat_lit 1) (nat_lit 58))] h21 (fun x24 h25 =>
 cl (nat_lit 194) [x0] h25 (fun x28 h29 =>
 BSL (nat_lit 3) (nat_lit 1) [(.int .i64 (nat_lit 0)), (.int .i64 (nat_lit 0)), (.int .i64 (nat_lit 0))] (nat_lit 3) [((nat_lit 0), x2), ((nat_lit 1), x20), ((nat_lit 2), x28)] h29 fun x32 h33 =>
 cl (nat_lit 251) [x0, (.int .i64 (nat_lit 9)), x32] h33 (fun x34 h35 =>
 kr x34 h35) kp) kp) kp) kp
noncomputable def F250 (fu : Nat) (oR : FuncId → List AV → Option AV) (cl : CL) (args : List AV) (h1 : Heap) (kr : KR) (kp : KP) : Ans := AR1 args fun x0 =>
 cl (nat_lit 287) [x0] h1 (fun x2 h3 =>
 BSL (nat_lit 9) (nat_lit 1) [(.str (nat_lit 0) (nat_lit 0))] (nat_lit 1) [((nat_lit 0), (.str (nat_lit 1) (nat_lit 63)))] h3 fun x6 h7 =>
 cl (nat_lit 193) [x0, x6] h7 (fun x8 h9 =>
 OV (unOpA .not x8) fun x12 =>
 IFB x12 (kr x2 h9)
 (B250x38 x0 h9 cl x2 kr kp)) kp) kp

theorem eqF250 : F250 = fun fu oR => compF Pr fu oR 250 1 := by kernel_rfl

noncomputable def F251 (fu : Nat) (oR : FuncId → List AV → Option AV) (cl : CL) (args : List AV) (h3 : Heap) (kr : KR) (kp : KP) : Ans := AR3 args fun x0 x1 x2 =>
 OV (buildA Pr 92 [((nat_lit 0), x1), ((nat_lit 4), x2)]) fun x4 =>
 cl (nat_lit 288) [x0, x4] h3 (fun x5 h6 =>
 kr x5 h6) kp

theorem eqF251 : F251 = fun fu oR => compF Pr fu oR 251 3 := by kernel_rfl

noncomputable def F252 (fu : Nat) (oR : FuncId → List AV → Option AV) (cl : CL) (args : List AV) (h1 : Heap) (kr : KR) (kp : KP) : Ans := AR1 args fun x0 =>
 cl (nat_lit 248) [x0, (.func (.func 289) [x0] [])] h1 (fun x2 h3 =>
 kr x2 h3) kp

theorem eqF252 : F252 = fun fu oR => compF Pr fu oR 252 1 := by kernel_rfl

noncomputable def B255x59 (x33 : AV) (x0 : AV) (j7 : Heap → Ans) (cl : CL) (x40 : AV) (h41 : Heap) (kp : KP) : Ans := JO (fun x42 h43 =>
 SEL x33 x42 (.bool false) fun x44 =>
 IFB x44 (NC x0 fun x45 =>
 FA (nat_lit 2) x45 fun x46 =>
 LD x46 h43 fun x47 =>
 NC x47 fun x48 =>
 FA (nat_lit 1) x48 fun x49 =>
 LD x49 h43 fun x50 =>
 NC x0 fun x51 =>
 FA (nat_lit 1) x51 fun x52 =>
 ST (nat_lit 1) x52 x50 h43 fun h53 =>
 j7  h53)
 (j7  h43)) fun j54 =>
 GW true x33 (cl (nat_lit 255) [x40] h41 (fun x55 h56 =>
 j54 x55 h56) kp)
 (j54 undefA h41)
noncomputable def B255x66 (x33 : AV) (x0 : AV) (j7 : Heap → Ans) (cl : CL) (kp : KP) (x34 : AV) (h35 : Heap) : Ans := JO (fun x36 h37 =>
 JO (fun x38 h39 =>
 JO (fun x40 h41 =>
 B255x59 x33 x0 j7 cl x40 h41 kp) fun j60 =>
 GW true x33 (LD x38 h39 fun x61 =>
 j60 x61 h39)
 (j60 undefA h39)) fun j62 =>
 GW true x33 (FA (nat_lit 2) x36 fun x63 =>
 j62 x63 h37)
 (j62 undefA h37)) fun j64 =>
 GW true x33 (NC x34 fun x65 =>
 j64 x65 h35)
 (j64 undefA h35)
noncomputable def B255x72 (x22 : AV) (x0 : AV) (j7 : Heap → Ans) (cl : CL) (kp : KP) (x27 : AV) (h28 : Heap) : Ans := JO (fun x29 h30 =>
 JO (fun x31 h32 =>
 SEL x22 x31 (.bool false) fun x33 =>
 JO (fun x34 h35 =>
 B255x66 x33 x0 j7 cl kp x34 h35) fun j67 =>
 GW true x33 (j67 x0 h32)
 (j67 undefA h32)) fun j68 =>
 GW true x22 (NEQ Pr 223 true x29 (.nilp) fun x69 =>
 j68 x69 h30)
 (j68 undefA h30)) fun j70 =>
 GW true x22 (LD x27 h28 fun x71 =>
 j70 x71 h28)
 (j70 undefA h28)
noncomputable def B255x78 (x11 : AV) (x20 : AV) (x0 : AV) (j7 : Heap → Ans) (cl : CL) (kp : KP) (h21 : Heap) : Ans := SEL x11 x20 (.bool false) fun x22 =>
 JO (fun x23 h24 =>
 JO (fun x25 h26 =>
 JO (fun x27 h28 =>
 B255x72 x22 x0 j7 cl kp x27 h28) fun j73 =>
 GW true x22 (FA (nat_lit 2) x25 fun x74 =>
 j73 x74 h26)
 (j73 undefA h26)) fun j75 =>
 GW true x22 (NC x23 fun x76 =>
 j75 x76 h24)
 (j75 undefA h24)) fun j77 =>
 GW true x22 (j77 x0 h21)
 (j77 undefA h21)
noncomputable def B255x85 (x11 : AV) (x0 : AV) (j7 : Heap → Ans) (cl : CL) (kp : KP) (x14 : AV) (h15 : Heap) : Ans := JO (fun x16 h17 =>
 JO (fun x18 h19 =>
 JO (fun x20 h21 =>
 B255x78 x11 x20 x0 j7 cl kp h21) fun j79 =>
 GW true x11 (EQL Pr 266 true x18 (.nilp) fun x80 =>
 j79 x80 h19)
 (j79 undefA h19)) fun j81 =>
 GW true x11 (LD x16 h17 fun x82 =>
 j81 x82 h17)
 (j81 undefA h17)) fun j83 =>
 GW true x11 (FA (nat_lit 0) x14 fun x84 =>
 j83 x84 h15)
 (j83 undefA h15)
noncomputable def F255 (fu : Nat) (oR : FuncId → List AV → Option AV) (cl : CL) (args : List AV) (h1 : Heap) (kr : KR) (kp : KP) : Ans := AR1 args fun x0 =>
 JO (fun h2 =>
 NC x0 fun x3 =>
 FA (nat_lit 1) x3 fun x4 =>
 LD x4 h2 fun x5 =>
 NEQ Pr 177 true x5 (.nilmap) fun x6 =>
 kr x6 h2) fun j7 =>
 NC x0 fun x8 =>
 FA (nat_lit 1) x8 fun x9 =>
 LD x9 h1 fun x10 =>
 EQL Pr 177 true x10 (.nilmap) fun x11 =>
 JO (fun x12 h13 =>
 JO (fun x14 h15 =>
 B255x85 x11 x0 j7 cl kp x14 h15) fun j86 =>
 GW true x11 (NC x12 fun x87 =>
 j86 x87 h13)
 (j86 undefA h13)) fun j88 =>
 GW true x11 (j88 x0 h1)
 (j88 undefA h1)

theorem eqF255 : F255 = fun fu oR => compF Pr fu oR 255 1 := by kernel_rfl

noncomputable def F256 (fu : Nat) (oR : FuncId → List AV → Option AV) (cl : CL) (args : List AV) (h2 : Heap) (kr : KR) (kp : KP) : Ans := AR2 args fun x0 x1 =>
 LENS x0 fun x3 =>
 LP fu (fun _ _ => Ans.no) (fun j6 x4 h5 =>
 LSS Pr 3 false x4 x3 fun x7 =>
 IFB x7 (SA (nat_lit 1) x0 x4 fun x8 =>
 LD x8 h5 fun x9 =>
 EQL Pr 9 false x1 x9 fun x10 =>
 IFB x10 (kr x4 h5)
 (ADD Pr 3 true x4 (.int .i64 (nat_lit 1)) fun x11 =>
 j6 x11 h5))
 (kr (.int .i64 (nat_lit 18446744073709551615)) h5)) (.int .i64 (nat_lit 0)) h2

theorem eqF256 : F256 = fun fu oR => compF Pr fu oR 256 2 := by kernel_rfl

noncomputable def B257x31 (x8 : AV) (kr : KR) (x13 : AV) (x17 : AV) (x7 : AV) (h18 : Heap) : Ans := JO (fun x19 h20 =>
 JO (fun x21 h22 =>
 JO (fun x23 h24 =>
 SEL x8 x23 (.bool false) fun x25 =>
 kr x25 h24) fun j26 =>
 GW true x8 (EQL Pr 3 false x13 x21 fun x27 =>
 j26 x27 h22)
 (j26 undefA h22)) fun j28 =>
 GW true x8 (SUB Pr 3 false x17 x19 fun x29 =>
 j28 x29 h20)
 (j28 undefA h20)) fun j30 =>
 GW true x8 (j30 x7 h18)
 (j30 undefA h18)
noncomputable def B257x40 (x8 : AV) (kr : KR) (x7 : AV) (x0 : AV) (cl : CL) (x9 : AV) (x11 : AV) (h12 : Heap) (kp : KP) : Ans := JO (fun x13 h14 =>
 JO (fun x15 h16 =>
 JO (fun x17 h18 =>
 B257x31 x8 kr x13 x17 x7 h18) fun j32 =>
 GW true x8 (LENT x15 fun x33 =>
 j32 x33 h16)
 (j32 undefA h16)) fun j34 =>
 GW true x8 (j34 x0 h14)
 (j34 undefA h14)) fun j35 =>
 GW true x8 (cl (nat_lit 121) [x9, x11, (.func (.func 120) [] [])] h12 (fun x36 h37 =>
 j35 x36 h37) kp)
 (j35 undefA h12)
noncomputable def F257 (fu : Nat) (oR : FuncId → List AV → Option AV) (cl : CL) (args : List AV) (h1 : Heap) (kr : KR) (kp : KP) : Ans := AR1 args fun x0 =>
 cl (nat_lit 181) [x0] h1 (fun x2 h3 =>
 EX (nat_lit 0) x2 fun x6 =>
 EX (nat_lit 1) x2 fun x7 =>
 GTR Pr 3 true x7 (.int .i64 (nat_lit 0)) fun x8 =>
 JO (fun x9 h10 =>
 JO (fun x11 h12 =>
 B257x40 x8 kr x7 x0 cl x9 x11 h12 kp) fun j41 =>
 GW true x8 (j41 x7 h10)
 (j41 undefA h10)) fun j42 =>
 GW true x8 (j42 x0 h3)
 (j42 undefA h3)) kp

theorem eqF257 : F257 = fun fu oR => compF Pr fu oR 257 1 := by kernel_rfl

noncomputable def F260 (fu : Nat) (oR : FuncId → List AV → Option AV) (cl : CL) (args : List AV) (h2 : Heap) (kr : KR) (kp : KP) : Ans := AR2 args fun x0 x1 =>
 cl (nat_lit 297) [x0, x1] h2 (fun x3 h4 =>
 OV (unOpA .not x3) fun x7 =>
 IFB x7 (kr (.tuple [(.int .i64 (nat_lit 0)), (.bool false)]) h4)
 (ADD Pr 3 false x0 x1 fun x8 =>
 cl (nat_lit 298) [x8] h4 (fun x9 h10 =>
 EX (nat_lit 0) x9 fun x13 =>
 EX (nat_lit 1) x9 fun x14 =>
 kr (.tuple [x13, x14]) h10) kp)) kp

theorem eqF260 : F260 = fun fu oR => compF Pr fu oR 260 2 := by kernel_rfl

noncomputable def B266x40 (x9 : AV) (x14 : AV) (x3 : AV) (h15 : Heap) (x5 : AV) (cl : CL) (kr : KR) (kp : KP) : Ans := SEL x9 x14 (.bool false) fun x16 =>
 IFB x16 (FA (nat_lit 1) x3 fun x17 =>
 LD x17 h15 fun x18 =>
 FA (nat_lit 1) x5 fun x19 =>
 LD x19 h15 fun x20 =>
 cl (nat_lit 42) [x18, x20] h15 (fun x21 h22 =>
 kr x21 h22) kp)
 (LDN (nat_lit 3) x3 h15 fun x25 =>
 LDN (nat_lit 3) x5 h15 fun x26 =>
 cl (nat_lit 134) [x25] h15 (fun x27 h28 =>
 LDN (nat_lit 3) x5 h28 fun x31 =>
 EQV x26 x31 <|
 cl (nat_lit 134) [x26] h28 (fun x32 h33 =>
 cl (nat_lit 41) [x27, x32] h33 (fun x36 h37 =>
 kr x36 h37) kp) kp) kp)
noncomputable def F266 (fu : Nat) (oR : FuncId → List AV → Option AV) (cl : CL) (args : List AV) (h2 : Heap) (kr : KR) (kp : KP) : Ans := AR2 args fun x0 x1 =>
 BOX 54 x0 h2 fun x3 h4 =>
 BOX 54 x1 h4 fun x5 h6 =>
 FA (nat_lit 0) x3 fun x7 =>
 LD x7 h6 fun x8 =>
 NEQ Pr 3 true x8 (.int .i64 (nat_lit 2)) fun x9 =>
 JO (fun x10 h11 =>
 JO (fun x12 h13 =>
 JO (fun x14 h15 =>
 B266x40 x9 x14 x3 h15 x5 cl kr kp) fun j41 =>
 GW true x9 (NEQ Pr 3 true x12 (.int .i64 (nat_lit 2)) fun x42 =>
 j41 x42 h13)
 (j41 undefA h13)) fun j43 =>
 GW true x9 (LD x10 h11 fun x44 =>
 j43 x44 h11)
 (j43 undefA h11)) fun j45 =>
 GW true x9 (FA (nat_lit 0) x5 fun x46 =>
 j45 x46 h6)
 (j45 undefA h6)

theorem eqF266 : F266 = fun fu oR => compF Pr fu oR 266 2 := by kernel_rfl

noncomputable def B278x24 (cl : CL) (x0 : AV) (h10 : Heap) (x6 : AV) (j8 : AV → Heap → Ans) (kp : KP) : Ans := cl (nat_lit 307) [x0] h10 (fun x13 h14 =>
 BSL (nat_lit 3) (nat_lit 1) [(.int .i64 (nat_lit 0)), (.int .i64 (nat_lit 0))] (nat_lit 2) [((nat_lit 0), x6), ((nat_lit 1), x13)] h14 fun x17 h18 =>
 OV (buildA Pr 92 [((nat_lit 0), (.int .i64 (nat_lit 11))), ((nat_lit 4), x17)]) fun x19 =>
 cl (nat_lit 163) [x0, x19] h18 (fun x20 h21 =>
 j8 x20 h21) kp) kp
noncomputable def F278 (fu : Nat) (oR : FuncId → List AV → Option AV) (cl : CL) (args : List AV) (h1 : Heap) (kr : KR) (kp : KP) : Ans := AR1 args fun x0 =>
 cl (nat_lit 307) [x0] h1 (fun x2 h3 =>
 LP fu (fun _ _ => Ans.no) (fun j8 x6 h7 =>
 cl (nat_lit 100) [x0, (.str (nat_lit 2) (nat_lit 9766))] h7 (fun x9 h10 =>
 IFB x9 (B278x24 cl x0 h10 x6 j8 kp)
 (kr x6 h10)) kp) x2 h3) kp

theorem eqF278 : F278 = fun fu oR => compF Pr fu oR 278 1 := by kernel_rfl

noncomputable def B280x25 (cl : CL) (x0 : AV) (h9 : Heap) (x8 : AV) (j10 : AV → Heap → Ans) (kp : KP) (kr : KR) : Ans := cl (nat_lit 100) [x0, (.str (nat_lit 1) (nat_lit 44))] h9 (fun x11 h12 =>
 IFB x11 (cl (nat_lit 103) [x0] h12 (fun x15 h16 =>
 BSL (nat_lit 3) (nat_lit 1) [(.int .i64 (nat_lit 0))] (nat_lit 1) [((nat_lit 0), x15)] h16 fun x19 h20 =>
 GEN (builtinF .append Pr [90, 90] [x8, x19] h20) cl (fun x21 h22 =>
 j10 x21 h22) kp) kp)
 (kr x8 h12)) kp
noncomputable def F280 (fu : Nat) (oR : FuncId → List AV → Option AV) (cl : CL) (args : List AV) (h1 : Heap) (kr : KR) (kp : KP) : Ans := AR1 args fun x0 =>
 cl (nat_lit 103) [x0] h1 (fun x2 h3 =>
 BSL (nat_lit 3) (nat_lit 1) [(.int .i64 (nat_lit 0))] (nat_lit 1) [((nat_lit 0), x2)] h3 fun x6 h7 =>
 LP fu (fun _ _ => Ans.no) (fun j10 x8 h9 =>
 B280x25 cl x0 h9 x8 j10 kp kr) x6 h7) kp

theorem eqF280 : F280 = fun fu oR => compF Pr fu oR 280 1 := by kernel_rfl

noncomputable def B283x38 (cl : CL) (x17 : AV) (h18 : Heap) (x14 : AV) (x0 : AV) (kr : KR) (kp : KP) : Ans := cl (nat_lit 309) [x17] h18 (fun x19 h20 =>
 ADD Pr 3 true (.int .i64 (nat_lit 1)) x19 fun x23 =>
 OV (sliceA Pr 307 x14 (some (.int .i64 (nat_lit 1))) (some x23) none) fun x24 =>
 cl (nat_lit 310) [x24, x17] h20 (fun x25 h26 =>
 LSS Pr 2 true x0 (.int .i64 (nat_lit 0)) fun x29 =>
 IFB x29 (RA (nat_lit 24) (nat_lit 1) x14 (.int .i64 (nat_lit 0)) fun x30 =>
 ST (nat_lit 1) x30 (.int .u8 (nat_lit 45)) h26 fun h31 =>
 ADD Pr 3 true (.int .i64 (nat_lit 1)) x19 fun x32 =>
 OV (sliceA Pr 307 x14 none (some x32) none) fun x33 =>
 OV (convV Pr h31 22 9 x33) fun x34 =>
 kr x34 h31)
 (ADD Pr 3 true (.int .i64 (nat_lit 1)) x19 fun x35 =>
 OV (sliceA Pr 307 x14 (some (.int .i64 (nat_lit 1))) (some x35) none) fun x36 =>
 OV (convV Pr h26 22 9 x36) fun x37 =>
 kr x37 h26)) kp) kp
noncomputable def B283x42 (h8 : Heap) (x0 : AV) (cl : CL) (kr : KR) (kp : KP) : Ans := NEWC (.n (some (.int .u8 (nat_lit 0))) (.n (some (.int .u8 (nat_lit 0))) (.n (some (.int .u8 (nat_lit 0))) (.n (some (.int .u8 (nat_lit 0))) (.n (some (.int .u8 (nat_lit 0))) .e .e) (.n (some (.int .u8 (nat_lit 0))) .e .e)) (.n (some (.int .u8 (nat_lit 0))) (.n (some (.int .u8 (nat_lit 0))) .e .e) .e)) (.n (some (.int .u8 (nat_lit 0))) (.n (some (.int .u8 (nat_lit 0))) (.n (some (.int .u8 (nat_lit 0))) .e .e) .e) (.n (some (.int .u8 (nat_lit 0))) (.n (some (.int .u8 (nat_lit 0))) .e .e) .e))) (.n (some (.int .u8 (nat_lit 0))) (.n (some (.int .u8 (nat_lit 0))) (.n (some (.int .u8 (nat_lit 0))) (.n (some (.int .u8 (nat_lit 0))) .e .e) .e) (.n (some (.int .u8 (nat_lit 0))) (.n (some (.int .u8 (nat_lit 0))) .e .e) .e)) (.n (some (.int .u8 (nat_lit 0))) (.n (some (.int .u8 (nat_lit 0))) (.n (some (.int .u8 (nat_lit 0))) .e .e) .e) (.n (some (.int .u8 (nat_lit 0))) (.n (some (.int .u8 (nat_lit 0))) .e .e) .e)))) (nat_lit 24) 307 h8 fun x14 h15 =>
 OV (convV Pr h15 2 142 x0) fun x16 =>
 JO (fun x17 h18 =>
 B283x38 cl x17 h18 x14 x0 kr kp) fun j39 =>
 LSS Pr 2 true x0 (.int .i64 (nat_lit 0)) fun x40 =>
 IFB x40 (OV (unOpA .neg x16) fun x41 =>
 j39 x41 h15)
 (j39 x16 h15)
noncomputable def B283x46 (x0 : AV) (cl : CL) (kr : KR) (kp : KP) (h2 : Heap) : Ans := LEQ Pr 2 true (.int .i64 (nat_lit 0)) x0 fun x4 =>
 JO (fun x5 h6 =>
 JO (fun x7 h8 =>
 SEL x4 x7 (.bool false) fun x9 =>
 IFB x9 (cl (nat_lit 308) [x0] h8 (fun x10 h11 =>
 kr x10 h11) kp)
 (B283x42 h8 x0 cl kr kp)) fun j43 =>
 GW true x4 (LSS Pr 2 true x5 (.int .i64 (nat_lit 100)) fun x44 =>
 j43 x44 h6)
 (j43 undefA h6)) fun j45 =>
 GW true x4 (j45 x0 h2)
 (j45 undefA h2)
noncomputable def F283 (fu : Nat) (oR : FuncId → List AV → Option AV) (cl : CL) (args : List AV) (h2 : Heap) (kr : KR) (kp : KP) : Ans := AR2 args fun x0 x1 =>
 EQL Pr 3 true x1 (.int .i64 (nat_lit 10)) fun x3 =>
 IFB x3 (B283x46 x0 cl kr kp h2)
 (OV (convV Pr h2 2 142 x0) fun x47 =>
 LSS Pr 2 true x0 (.int .i64 (nat_lit 0)) fun x48 =>
 cl (nat_lit 311) [(.nilslice), x47, x1, x48, (.bool false)] h2 (fun x49 h50 =>
 EX (nat_lit 0) x49 fun x53 =>
 EX (nat_lit 1) x49 fun x54 =>
 kr x54 h50) kp)

theorem eqF283 : F283 = fun fu oR => compF Pr fu oR 283 2 := by kernel_rfl

noncomputable def F287 (fu : Nat) (oR : FuncId → List AV → Option AV) (cl : CL) (args : List AV) (h1 : Heap) (kr : KR) (kp : KP) : Ans := AR1 args fun x0 =>
 BSL (nat_lit 9) (nat_lit 1) [(.str (nat_lit 0) (nat_lit 0))] (nat_lit 1) [((nat_lit 0), (.str (nat_lit 2) (nat_lit 31868)))] h1 fun x2 h3 =>
 BSL (nat_lit 3) (nat_lit 1) [(.int .i64 (nat_lit 0))] (nat_lit 1) [((nat_lit 0), (.int .i64 (nat_lit 10)))] h3 fun x4 h5 =>
 cl (nat_lit 314) [x0, (.func (.func 315) [x0] []), x2, x4] h5 (fun x6 h7 =>
 kr x6 h7) kp

theorem eqF287 : F287 = fun fu oR => compF Pr fu oR 287 1 := by kernel_rfl

noncomputable def F288 (fu : Nat) (oR : FuncId → List AV → Option AV) (cl : CL) (args : List AV) (h2 : Heap) (kr : KR) (kp : KP) : Ans := AR2 args fun x0 x1 =>
 BOX 92 x1 h2 fun x3 h4 =>
 NC x0 fun x5 =>
 FA (nat_lit 4) x5 fun x6 =>
 FA (nat_lit 0) x6 fun x7 =>
 LD x7 h4 fun x8 =>
 LDN (nat_lit 5) x3 h4 fun x9 =>
 BSL (nat_lit 92) (nat_lit 5) [(.int .i64 (nat_lit 0)), (.str (nat_lit 0) (nat_lit 0)), (.str (nat_lit 0) (nat_lit 0)), (.int .i64 (nat_lit 0)), (.nilslice)] (nat_lit 1) [((nat_lit 0), x9)] h4 fun x10 h11 =>
 LD x7 h11 fun x12 =>
 EQV x8 x12 <|
 GEN (builtinF .append Pr [34, 34] [x8, x10] h11) cl (fun x13 h14 =>
 NC x0 fun x17 =>
 FA (nat_lit 4) x17 fun x18 =>
 FA (nat_lit 0) x18 fun x19 =>
 ST (nat_lit 1) x19 x13 h14 fun h20 =>
 NC x0 fun x21 =>
 FA (nat_lit 4) x21 fun x22 =>
 FA (nat_lit 0) x22 fun x23 =>
 LD x23 h20 fun x24 =>
 LENS x24 fun x25 =>
 SUB Pr 3 true x25 (.int .i64 (nat_lit 1)) fun x26 =>
 kr x26 h20) kp

theorem eqF288 : F288 = fun fu oR => compF Pr fu oR 288 2 := by kernel_rfl

noncomputable def B289x71 (x0 : AV) (h51 : Heap) (cl : CL) (x37 : AV) (j47 : AV → Heap → Ans) (kp : KP) : Ans := NC x0 fun x54 =>
 FA (nat_lit 1) x54 fun x55 =>
 LD x55 h51 fun x56 =>
 ADD Pr 3 true x56 (.int .i64 (nat_lit 1)) fun x57 =>
 NC x0 fun x58 =>
 FA (nat_lit 1) x58 fun x59 =>
 ST (nat_lit 1) x59 x57 h51 fun h60 =>
 cl (nat_lit 252) [x0] h60 (fun x61 h62 =>
 BSL (nat_lit 3) (nat_lit 1) [(.int .i64 (nat_lit 0))] (nat_lit 1) [((nat_lit 0), x61)] h62 fun x65 h66 =>
 GEN (builtinF .append Pr [90, 90] [x37, x65] h66) cl (fun x67 h68 =>
 j47 x67 h68) kp) kp
noncomputable def B289x72 (x0 : AV) (h15 : Heap) (cl : CL) (kr : KR) (kp : KP) : Ans := NC x0 fun x18 =>
 FA (nat_lit 1) x18 fun x19 =>
 LD x19 h15 fun x20 =>
 ADD Pr 3 true x20 (.int .i64 (nat_lit 1)) fun x21 =>
 NC x0 fun x22 =>
 FA (nat_lit 1) x22 fun x23 =>
 ST (nat_lit 1) x23 x21 h15 fun h24 =>
 cl (nat_lit 316) [x0] h24 (fun x25 h26 =>
 BSL (nat_lit 3) (nat_lit 1) [(.int .i64 (nat_lit 0))] (nat_lit 1) [((nat_lit 0), x25)] h26 fun x29 h30 =>
 cl (nat_lit 252) [x0] h30 (fun x31 h32 =>
 BSL (nat_lit 3) (nat_lit 1) [(.int .i64 (nat_lit 0))] (nat_lit 1) [((nat_lit 0), x31)] h32 fun x35 h36 =>
 GEN (builtinF .append Pr [90, 90] [x29, x35] h36) cl (fun x37 h38 =>
 JO (fun x41 h42 =>
 cl (nat_lit 251) [x0, (.int .i64 (nat_lit 43)), x41] h42 (fun x43 h44 =>
 kr x43 h44) kp) fun j47 =>
 BSL (nat_lit 9) (nat_lit 1) [(.str (nat_lit 0) (nat_lit 0))] (nat_lit 1) [((nat_lit 0), (.str (nat_lit 4) (nat_lit 1702063205)))] h38 fun x48 h49 =>
 cl (nat_lit 189) [x0, x48] h49 (fun x50 h51 =>
 IFB x50 (B289x71 x0 h51 cl x37 j47 kp)
 (j47 x37 h51)) kp) kp) kp) kp
noncomputable def B289x100 (x0 : AV) (h76 : Heap) (cl : CL) (kr : KR) (kp : KP) : Ans := NC x0 fun x79 =>
 FA (nat_lit 1) x79 fun x80 =>
 LD x80 h76 fun x81 =>
 ADD Pr 3 true x81 (.int .i64 (nat_lit 1)) fun x82 =>
 NC x0 fun x83 =>
 FA (nat_lit 1) x83 fun x84 =>
 ST (nat_lit 1) x84 x82 h76 fun h85 =>
 cl (nat_lit 316) [x0] h85 (fun x86 h87 =>
 cl (nat_lit 252) [x0] h87 (fun x90 h91 =>
 BSL (nat_lit 3) (nat_lit 1) [(.int .i64 (nat_lit 0)), (.int .i64 (nat_lit 0))] (nat_lit 2) [((nat_lit 0), x86), ((nat_lit 1), x90)] h91 fun x94 h95 =>
 cl (nat_lit 251) [x0, (.int .i64 (nat_lit 44)), x94] h95 (fun x96 h97 =>
 kr x96 h97) kp) kp) kp
noncomputable def B289x127 (cl : CL) (x0 : AV) (h104 : Heap) (kr : KR) (kp : KP) : Ans := cl (nat_lit 318) [x0] h104 (fun x111 h112 =>
 NEWC (.n (some (.int .i64 (nat_lit 0))) (.n (some (.str (nat_lit 0) (nat_lit 0))) (.n (some (.int .i64 (nat_lit 0))) .e .e) .e) (.n (some (.str (nat_lit 0) (nat_lit 0))) (.n (some (.nilslice)) .e .e) .e)) (nat_lit 5) 92 h112 fun x115 h116 =>
 ST (nat_lit 5) x115 x111 h116 fun h117 =>
 cl (nat_lit 192) [x0, (.str (nat_lit 1) (nat_lit 59))] h117 (fun x118 h119 =>
 LDN (nat_lit 5) x115 h119 fun x122 =>
 cl (nat_lit 288) [x0, x122] h119 (fun x123 h124 =>
 kr x123 h124) kp) kp) kp
noncomputable def B289x128 (h76 : Heap) (cl : CL) (x0 : AV) (kr : KR) (kp : KP) : Ans := BSL (nat_lit 9) (nat_lit 1) [(.str (nat_lit 0) (nat_lit 0))] (nat_lit 1) [((nat_lit 0), (.str (nat_lit 3) (nat_lit 7499622)))] h76 fun x101 h102 =>
 cl (nat_lit 189) [x0, x101] h102 (fun x103 h104 =>
 IFB x103 (cl (nat_lit 317) [x0] h104 (fun x107 h108 =>
 kr x107 h108) kp)
 (B289x127 cl x0 h104 kr kp)) kp
noncomputable def B289x129 (h5 : Heap) (cl : CL) (x0 : AV) (kr : KR) (kp : KP) : Ans := BSL (nat_lit 9) (nat_lit 1) [(.str (nat_lit 0) (nat_lit 0))] (nat_lit 1) [((nat_lit 0), (.str (nat_lit 2) (nat_lit 26217)))] h5 fun x12 h13 =>
 cl (nat_lit 189) [x0, x12] h13 (fun x14 h15 =>
 IFB x14 (B289x72 x0 h15 cl kr kp)
 (BSL (nat_lit 9) (nat_lit 1) [(.str (nat_lit 0) (nat_lit 0))] (nat_lit 1) [((nat_lit 0), (.str (nat_lit 5) (nat_lit 435610544247)))] h15 fun x73 h74 =>
 cl (nat_lit 189) [x0, x73] h74 (fun x75 h76 =>
 IFB x75 (B289x100 x0 h76 cl kr kp)
 (B289x128 h76 cl x0 kr kp)) kp)) kp
noncomputable def F289 (fu : Nat) (oR : FuncId → List AV → Option AV) (cl : CL) (args : List AV) (h1 : Heap) (kr : KR) (kp : KP) : Ans := AR1 args fun x0 =>
 BSL (nat_lit 9) (nat_lit 1) [(.str (nat_lit 0) (nat_lit 0))] (nat_lit 1) [((nat_lit 0), (.str (nat_lit 1) (nat_lit 123)))] h1 fun x2 h3 =>
 cl (nat_lit 193) [x0, x2] h3 (fun x4 h5 =>
 IFB x4 (cl (nat_lit 195) [x0] h5 (fun x8 h9 =>
 kr x8 h9) kp)
 (B289x129 h5 cl x0 kr kp)) kp

theorem eqF289 : F289 = fun fu oR => compF Pr fu oR 289 1 := by kernel_rfl

noncomputable def F297 (fu : Nat) (oR : FuncId → List AV → Option AV) (cl : CL) (args : List AV) (h2 : Heap) (kr : KR) (kp : KP) : Ans := AR2 args fun x0 x1 =>
 cl (nat_lit 175) [x0] h2 (fun x3 h4 =>
 JO (fun x7 h8 =>
 JO (fun x9 h10 =>
 SEL x3 x9 (.bool false) fun x11 =>
 kr x11 h10) fun j12 =>
 GW true x3 (cl (nat_lit 175) [x7] h8 (fun x13 h14 =>
 j12 x13 h14) kp)
 (j12 undefA h8)) fun j17 =>
 GW true x3 (j17 x1 h4)
 (j17 undefA h4)) kp

theorem eqF297 : F297 = fun fu oR => compF Pr fu oR 297 2 := by kernel_rfl

noncomputable def F298 (fu : Nat) (oR : FuncId → List AV → Option AV) (cl : CL) (args : List AV) (h1 : Heap) (kr : KR) (kp : KP) : Ans := AR1 args fun x0 =>
 cl (nat_lit 175) [x0] h1 (fun x2 h3 =>
 OV (unOpA .not x2) fun x6 =>
 IFB x6 (kr (.tuple [(.int .i64 (nat_lit 0)), (.bool false)]) h3)
 (kr (.tuple [x0, (.bool true)]) h3)) kp

theorem eqF298 : F298 = fun fu oR => compF Pr fu oR 298 1 := by kernel_rfl

noncomputable def B307x24 (cl : CL) (x0 : AV) (h10 : Heap) (x6 : AV) (j8 : AV → Heap → Ans) (kp : KP) : Ans := cl (nat_lit 160) [x0] h10 (fun x13 h14 =>
 BSL (nat_lit 3) (nat_lit 1) [(.int .i64 (nat_lit 0))] (nat_lit 1) [((nat_lit 0), x6)] h14 fun x17 h18 =>
 OV (buildA Pr 92 [((nat_lit 0), (.int .i64 (nat_lit 6))), ((nat_lit 1), x13), ((nat_lit 4), x17)]) fun x19 =>
 cl (nat_lit 163) [x0, x19] h18 (fun x20 h21 =>
 j8 x20 h21) kp) kp
noncomputable def F307 (fu : Nat) (oR : FuncId → List AV → Option AV) (cl : CL) (args : List AV) (h1 : Heap) (kr : KR) (kp : KP) : Ans := AR1 args fun x0 =>
 cl (nat_lit 331) [x0] h1 (fun x2 h3 =>
 LP fu (fun _ _ => Ans.no) (fun j8 x6 h7 =>
 cl (nat_lit 100) [x0, (.str (nat_lit 2) (nat_lit 28265))] h7 (fun x9 h10 =>
 IFB x9 (B307x24 cl x0 h10 x6 j8 kp)
 (kr x6 h10)) kp) x2 h3) kp

theorem eqF307 : F307 = fun fu oR => compF Pr fu oR 307 1 := by kernel_rfl

noncomputable def B308x9 (x0 : AV) (kr : KR) (h1 : Heap) : Ans := BOP Pr .mul 3 true x0 (.int .i64 (nat_lit 2)) fun x5 =>
 BOP Pr .mul 3 true x0 (.int .i64 (nat_lit 2)) fun x6 =>
 ADD Pr 3 true x6 (.int .i64 (nat_lit 2)) fun x7 =>
 OV (sliceA Pr 9 (.str (nat_lit 200) (nat_lit 9938655150514779720929161263213647789093395803754561035662628441001274968862597953692946393464194303251501229616933063375291039650253924995779037586872666250072396106842829501851083234932712366962979930255066872747696324303968523733872590022915936937156789320557469720923390131174387415513794469201054844961267015441141542819553679203788501627738430154234325528792480477051962324423099068299719245009424585859096469223093538032153047611602695245052081125123941502624659711709950000)) (some x5) (some x7) none) fun x8 =>
 kr x8 h1
noncomputable def F308 (fu : Nat) (oR : FuncId → List AV → Option AV) (cl : CL) (args : List AV) (h1 : Heap) (kr : KR) (kp : KP) : Ans := AR1 args fun x0 =>
 LSS Pr 3 true x0 (.int .i64 (nat_lit 10)) fun x2 =>
 IFB x2 (ADD Pr 3 true x0 (.int .i64 (nat_lit 1)) fun x3 =>
 OV (sliceA Pr 9 (.str (nat_lit 36) (nat_lit 237927390410950444456928663707796224754864904193074819559483181009558347043374296609072)) (some x0) (some x3) none) fun x4 =>
 kr x4 h1)
 (B308x9 x0 kr h1)

theorem eqF308 : F308 = fun fu oR => compF Pr fu oR 308 1 := by kernel_rfl

noncomputable def F309 (fu : Nat) (oR : FuncId → List AV → Option AV) (cl : CL) (args : List AV) (h1 : Heap) (kr : KR) (kp : KP) : Ans := AR1 args fun x0 =>
 cl (nat_lit 90) [x0] h1 (fun x2 h3 =>
 cl (nat_lit 332) [x2] h3 (fun x6 h7 =>
 RA (nat_lit 20) (nat_lit 1) (.ptr (nat_lit 5) (nat_lit 0)) x6 fun x10 =>
 LD x10 h7 fun x11 =>
 GEQ Pr 142 false x0 x11 fun x12 =>
 cl (nat_lit 333) [x12] h7 (fun x13 h14 =>
 ADD Pr 3 false x6 x13 fun x17 =>
 kr x17 h14) kp) kp) kp

theorem eqF309 : F309 = fun fu oR => compF Pr fu oR 309 1 := by kernel_rfl
end
end Go.Ev
