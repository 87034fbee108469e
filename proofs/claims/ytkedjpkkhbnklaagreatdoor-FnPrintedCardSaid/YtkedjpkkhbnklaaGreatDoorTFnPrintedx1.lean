import Derived.Test.YtkedjpkkhbnklaaGreatDoorTFnPrintedx0
set_option linter.all false
namespace Go.Ev
noncomputable section

def B117x84 (x65 : AV) (x3 : AV) (h62 : Heap) (x9 : AV) (cl : CL) (j68 : AV → Heap → Ans) (kp : KP) : Ans := ADD Pr 9 true x65 (.str n6 (nat_lit 35620100269344)) fun x73 =>
 LDN n2 x3 h62 fun x74 =>
 FA n4 x9 fun x75 =>
 LD x75 h62 fun x76 =>
 SA n1 x76 (.int .i64 n2) fun x77 =>
 LD x77 h62 fun x78 =>
 cl n117 [x74, x78] h62 (fun x79 h80 =>
 ADD Pr 9 false x73 x79 fun x83 =>
 j68 x83 h80) kp
def B117x85 (x3 : AV) (h11 : Heap) (x9 : AV) (cl : CL) (kr : KR) (kp : KP) : Ans := LDN n2 x3 h11 fun x42 =>
 FA n4 x9 fun x43 =>
 LD x43 h11 fun x44 =>
 SA n1 x44 (.int .i64 n0) fun x45 =>
 LD x45 h11 fun x46 =>
 LDN n2 x3 h11 fun x47 =>
 FA n4 x9 fun x48 =>
 LD x48 h11 fun x49 =>
 SA n1 x49 (.int .i64 n1) fun x50 =>
 LD x50 h11 fun x51 =>
 cl n116 [x42, x46] h11 (fun x52 h53 =>
 LD x50 h53 fun x56 =>
 EQV x51 x56 <|
 LD x48 h53 fun x57 =>
 EQV x49 x57 <|
 LDN n2 x3 h53 fun x58 =>
 EQV x47 x58 <|
 ADD Pr 9 true (.str n4 (nat_lit 673212009)) x52 fun x59 =>
 ADD Pr 9 true x59 (.str n2 n8233) fun x60 =>
 cl n117 [x47, x51] h53 (fun x61 h62 =>
 ADD Pr 9 false x60 x61 fun x65 =>
 JO (fun x66 h67 =>
 kr x66 h67) fun j68 =>
 FA n4 x9 fun x69 =>
 LD x69 h62 fun x70 =>
 LENS x70 fun x71 =>
 EQL Pr 3 true x71 (.int .i64 n3) fun x72 =>
 IFB x72 (B117x84 x65 x3 h62 x9 cl j68 kp)
 (j68 x65 h62)) kp) kp
def B117x111 (x3 : AV) (h11 : Heap) (x9 : AV) (cl : CL) (kr : KR) (kp : KP) : Ans := LDN n2 x3 h11 fun x87 =>
 FA n4 x9 fun x88 =>
 LD x88 h11 fun x89 =>
 SA n1 x89 (.int .i64 n0) fun x90 =>
 LD x90 h11 fun x91 =>
 LDN n2 x3 h11 fun x92 =>
 FA n4 x9 fun x93 =>
 LD x93 h11 fun x94 =>
 SA n1 x94 (.int .i64 n1) fun x95 =>
 LD x95 h11 fun x96 =>
 cl n116 [x87, x91] h11 (fun x97 h98 =>
 LD x95 h98 fun x101 =>
 EQV x96 x101 <|
 LD x93 h98 fun x102 =>
 EQV x94 x102 <|
 LDN n2 x3 h98 fun x103 =>
 EQV x92 x103 <|
 ADD Pr 9 true (.str n7 (nat_lit 11294619051059319)) x97 fun x104 =>
 ADD Pr 9 true x104 (.str n2 n8233) fun x105 =>
 cl n117 [x92, x96] h98 (fun x106 h107 =>
 ADD Pr 9 false x105 x106 fun x110 =>
 kr x110 h107) kp) kp
def B117x174 (x3 : AV) (h11 : Heap) (x9 : AV) (cl : CL) (kr : KR) (kp : KP) : Ans := LDN n2 x3 h11 fun x113 =>
 FA n4 x9 fun x114 =>
 LD x114 h11 fun x115 =>
 SA n1 x115 (.int .i64 n0) fun x116 =>
 LD x116 h11 fun x117 =>
 LDN n2 x3 h11 fun x118 =>
 FA n4 x9 fun x119 =>
 LD x119 h11 fun x120 =>
 SA n1 x120 (.int .i64 n1) fun x121 =>
 LD x121 h11 fun x122 =>
 LDN n2 x3 h11 fun x123 =>
 FA n4 x9 fun x124 =>
 LD x124 h11 fun x125 =>
 SA n1 x125 (.int .i64 n2) fun x126 =>
 LD x126 h11 fun x127 =>
 LDN n2 x3 h11 fun x128 =>
 FA n4 x9 fun x129 =>
 LD x129 h11 fun x130 =>
 SA n1 x130 (.int .i64 n3) fun x131 =>
 LD x131 h11 fun x132 =>
 cl n116 [x113, x117] h11 (fun x133 h134 =>
 LD x131 h134 fun x137 =>
 EQV x132 x137 <|
 LD x129 h134 fun x138 =>
 EQV x130 x138 <|
 LDN n2 x3 h134 fun x139 =>
 EQV x128 x139 <|
 LD x126 h134 fun x140 =>
 EQV x127 x140 <|
 LD x124 h134 fun x141 =>
 EQV x125 x141 <|
 LDN n2 x3 h134 fun x142 =>
 EQV x123 x142 <|
 LD x121 h134 fun x143 =>
 EQV x122 x143 <|
 LD x119 h134 fun x144 =>
 EQV x120 x144 <|
 LDN n2 x3 h134 fun x145 =>
 EQV x118 x145 <|
 ADD Pr 9 true (.str n5 (nat_lit 172343062374)) x133 fun x146 =>
 ADD Pr 9 true x146 (.str n2 n8251) fun x147 =>
 cl n116 [x118, x122] h134 (fun x148 h149 =>
 LD x131 h149 fun x152 =>
 EQV x132 x152 <|
 LD x129 h149 fun x153 =>
 EQV x130 x153 <|
 LDN n2 x3 h149 fun x154 =>
 EQV x128 x154 <|
 LD x126 h149 fun x155 =>
 EQV x127 x155 <|
 LD x124 h149 fun x156 =>
 EQV x125 x156 <|
 LDN n2 x3 h149 fun x157 =>
 EQV x123 x157 <|
 ADD Pr 9 false x147 x148 fun x158 =>
 ADD Pr 9 true x158 (.str n2 n8251) fun x159 =>
 cl n116 [x123, x127] h149 (fun x160 h161 =>
 LD x131 h161 fun x164 =>
 EQV x132 x164 <|
 LD x129 h161 fun x165 =>
 EQV x130 x165 <|
 LDN n2 x3 h161 fun x166 =>
 EQV x128 x166 <|
 ADD Pr 9 false x159 x160 fun x167 =>
 ADD Pr 9 true x167 (.str n2 n8233) fun x168 =>
 cl n117 [x128, x132] h161 (fun x169 h170 =>
 ADD Pr 9 false x168 x169 fun x173 =>
 kr x173 h170) kp) kp) kp) kp
def B117x196 (x9 : AV) (h11 : Heap) (x3 : AV) (cl : CL) (kr : KR) (kp : KP) : Ans := FA n1 x9 fun x176 =>
 LD x176 h11 fun x177 =>
 ADD Pr 9 true (.str n5 (nat_lit 172343062374)) x177 fun x178 =>
 ADD Pr 9 true x178 (.str n4 (nat_lit 544106784)) fun x179 =>
 FA n2 x9 fun x180 =>
 LD x180 h11 fun x181 =>
 ADD Pr 9 false x179 x181 fun x182 =>
 ADD Pr 9 true x182 (.str n2 n8233) fun x183 =>
 LDN n2 x3 h11 fun x184 =>
 FA n4 x9 fun x185 =>
 LD x185 h11 fun x186 =>
 SA n1 x186 (.int .i64 n0) fun x187 =>
 LD x187 h11 fun x188 =>
 cl n117 [x184, x188] h11 (fun x189 h190 =>
 LD x180 h190 fun x193 =>
 EQV x181 x193 <|
 LD x176 h190 fun x194 =>
 EQV x177 x194 <|
 ADD Pr 9 false x183 x189 fun x195 =>
 kr x195 h190) kp
def B117x233 (x9 : AV) (h11 : Heap) (x3 : AV) (cl : CL) (kr : KR) (kp : KP) : Ans := FA n1 x9 fun x217 =>
 LD x217 h11 fun x218 =>
 ADD Pr 9 true (.str n7 (nat_lit 9118749846955364)) x218 fun x219 =>
 ADD Pr 9 true x219 (.str n1 n91) fun x220 =>
 LDN n2 x3 h11 fun x221 =>
 FA n4 x9 fun x222 =>
 LD x222 h11 fun x223 =>
 SA n1 x223 (.int .i64 n0) fun x224 =>
 LD x224 h11 fun x225 =>
 cl n116 [x221, x225] h11 (fun x226 h227 =>
 LD x217 h227 fun x230 =>
 EQV x218 x230 <|
 ADD Pr 9 false x220 x226 fun x231 =>
 ADD Pr 9 true x231 (.str n2 (nat_lit 15197)) fun x232 =>
 kr x232 h227) kp
def B117x254 (x3 : AV) (h236 : Heap) (x9 : AV) (x234 : AV) (cl : CL) (x235 : AV) (j237 : AV → AV → Heap → Ans) (kp : KP) : Ans := LDN n2 x3 h236 fun x242 =>
 FA n4 x9 fun x243 =>
 LD x243 h236 fun x244 =>
 SA n1 x244 x234 fun x245 =>
 LD x245 h236 fun x246 =>
 cl n117 [x242, x246] h236 (fun x247 h248 =>
 ADD Pr 9 false x235 x247 fun x251 =>
 ADD Pr 9 true x251 (.str n1 n32) fun x252 =>
 ADD Pr 3 true x234 (.int .i64 n1) fun x253 =>
 j237 x253 x252 h248) kp
def B117x256 (fu : Nat) (x9 : AV) (x3 : AV) (cl : CL) (kp : KP) (kr : KR) (h11 : Heap) : Ans := LP fu (fun _ _ _ => Ans.no) (fun j237 x234 x235 h236 =>
 FA n4 x9 fun x238 =>
 LD x238 h236 fun x239 =>
 LENS x239 fun x240 =>
 LSS Pr 3 false x234 x240 fun x241 =>
 IFB x241 (B117x254 x3 h236 x9 x234 cl x235 j237 kp)
 (ADD Pr 9 true x235 (.str n1 n125) fun x255 =>
 kr x255 h236)) (.int .i64 n0) (.str n2 n8315) h11
def B117x257 (x13 : AV) (x3 : AV) (h11 : Heap) (x9 : AV) (cl : CL) (kr : KR) (kp : KP) (fu : Nat) : Ans := EQL Pr 3 true x13 (.int .i64 n51) fun x208 =>
 IFB x208 (LDN n2 x3 h11 fun x209 =>
 FA n4 x9 fun x210 =>
 LD x210 h11 fun x211 =>
 cl n179 [x209, (.str n6 (nat_lit 121437875889522)), x211] h11 (fun x212 h213 =>
 kr x212 h213) kp)
 (EQL Pr 3 true x13 (.int .i64 n52) fun x216 =>
 IFB x216 (B117x233 x9 h11 x3 cl kr kp)
 (B117x256 fu x9 x3 cl kp kr h11))
def B117x258 (x13 : AV) (x3 : AV) (h11 : Heap) (x9 : AV) (cl : CL) (kr : KR) (kp : KP) (fu : Nat) : Ans := EQL Pr 3 true x13 (.int .i64 n50) fun x200 =>
 IFB x200 (LDN n2 x3 h11 fun x201 =>
 FA n4 x9 fun x202 =>
 LD x202 h11 fun x203 =>
 cl n179 [x201, (.str n4 (nat_lit 1953069157)), x203] h11 (fun x204 h205 =>
 kr x204 h205) kp)
 (B117x257 x13 x3 h11 x9 cl kr kp fu)
def B117x259 (x13 : AV) (kr : KR) (h11 : Heap) (x3 : AV) (x9 : AV) (cl : CL) (kp : KP) (fu : Nat) : Ans := EQL Pr 3 true x13 (.int .i64 n47) fun x197 =>
 IFB x197 (kr (.str n6 (nat_lit 65332381577826)) h11)
 (EQL Pr 3 true x13 (.int .i64 n48) fun x198 =>
 IFB x198 (kr (.str n9 (nat_lit 1095668771318173429603)) h11)
 (EQL Pr 3 true x13 (.int .i64 n49) fun x199 =>
 IFB x199 (kr (.str n5 (nat_lit 255357117806)) h11)
 (B117x258 x13 x3 h11 x9 cl kr kp fu)))
def B117x260 (x13 : AV) (x3 : AV) (h11 : Heap) (x9 : AV) (cl : CL) (kr : KR) (kp : KP) (fu : Nat) : Ans := EQL Pr 3 true x13 (.int .i64 n44) fun x86 =>
 IFB x86 (B117x111 x3 h11 x9 cl kr kp)
 (EQL Pr 3 true x13 (.int .i64 n45) fun x112 =>
 IFB x112 (B117x174 x3 h11 x9 cl kr kp)
 (EQL Pr 3 true x13 (.int .i64 n46) fun x175 =>
 IFB x175 (B117x196 x9 h11 x3 cl kr kp)
 (B117x259 x13 kr h11 x3 x9 cl kp fu)))
def B117x261 (x13 : AV) (x3 : AV) (h11 : Heap) (x9 : AV) (cl : CL) (kr : KR) (kp : KP) (fu : Nat) : Ans := EQL Pr 3 true x13 (.int .i64 n42) fun x33 =>
 IFB x33 (LDN n2 x3 h11 fun x34 =>
 FA n4 x9 fun x35 =>
 LD x35 h11 fun x36 =>
 cl n179 [x34, (.str n6 (nat_lit 112650254643824)), x36] h11 (fun x37 h38 =>
 kr x37 h38) kp)
 (EQL Pr 3 true x13 (.int .i64 n43) fun x41 =>
 IFB x41 (B117x85 x3 h11 x9 cl kr kp)
 (B117x260 x13 x3 h11 x9 cl kr kp fu))
def F117 (fu : Nat) (oR : Orc) (cl : CL) (args : List AV) (h2 : Heap) (kr : KR) (kp : KP) : Ans := AR2 args fun x0 x1 =>
 BOX 33 x0 h2 fun x3 h4 =>
 FA n0 x3 fun x5 =>
 LD x5 h4 fun x6 =>
 SA n5 x6 x1 fun x7 =>
 LDN n5 x7 h4 fun x8 =>
 NEWC (.n (some (.int .i64 n0)) (.n (some (.str n0 n0)) (.n (some (.int .i64 n0)) .e .e) .e) (.n (some (.str n0 n0)) (.n (some (.nilslice)) .e .e) .e)) n5 108 h4 fun x9 h10 =>
 ST n5 x9 x8 h10 fun h11 =>
 FA n0 x9 fun x12 =>
 LD x12 h11 fun x13 =>
 EQL Pr 3 true x13 (.int .i64 n40) fun x14 =>
 IFB x14 (LDN n2 x3 h11 fun x15 =>
 FA n4 x9 fun x16 =>
 LD x16 h11 fun x17 =>
 SA n1 x17 (.int .i64 n0) fun x18 =>
 LD x18 h11 fun x19 =>
 cl n116 [x15, x19] h11 (fun x20 h21 =>
 ADD Pr 9 true x20 (.str n1 n59) fun x24 =>
 kr x24 h21) kp)
 (EQL Pr 3 true x13 (.int .i64 n41) fun x25 =>
 IFB x25 (LDN n2 x3 h11 fun x26 =>
 FA n4 x9 fun x27 =>
 LD x27 h11 fun x28 =>
 cl n179 [x26, (.str n5 (nat_lit 500068610672)), x28] h11 (fun x29 h30 =>
 kr x29 h30) kp)
 (B117x261 x13 x3 h11 x9 cl kr kp fu))

theorem eqF117 : F117 = fun fu oR => compF Pr fu oR 117 2 := by kernel_rfl

def B118x18 (x2 : AV) (kr : KR) (x0 : AV) (x3 : AV) (h4 : Heap) : Ans := JO (fun x5 h6 =>
 SEL x2 (.bool true) x5 fun x7 =>
 JO (fun x8 h9 =>
 JO (fun x10 h11 =>
 SEL x7 (.bool true) x10 fun x12 =>
 kr x12 h11) fun j13 =>
 GW false x7 (EQL Pr 5 true x8 (.int .u8 n10) fun x14 =>
 j13 x14 h9)
 (j13 undefA h9)) fun j15 =>
 GW false x7 (j15 x0 h6)
 (j15 undefA h6)) fun j16 =>
 GW false x2 (EQL Pr 5 true x3 (.int .u8 n9) fun x17 =>
 j16 x17 h4)
 (j16 undefA h4)
def F118 (fu : Nat) (oR : Orc) (cl : CL) (args : List AV) (h1 : Heap) (kr : KR) (kp : KP) : Ans := AR1 args fun x0 =>
 EQL Pr 5 true x0 (.int .u8 n32) fun x2 =>
 JO (fun x3 h4 =>
 B118x18 x2 kr x0 x3 h4) fun j19 =>
 GW false x2 (j19 x0 h1)
 (j19 undefA h1)

theorem eqF118 : F118 = fun fu oR => compF Pr fu oR 118 1 := by kernel_rfl

def B120x30 (cl : CL) (x18 : AV) (x1 : AV) (h19 : Heap) (kr : KR) (x17 : AV) (j20 : AV → AV → Heap → Ans) (kp : KP) : Ans := cl n121 [x18, x1] h19 (fun x21 h22 =>
 EQL Pr 3 true x21 (.int .i64 (nat_lit 18446744073709551615)) fun x25 =>
 IFB x25 (kr x17 h22)
 (ADD Pr 3 true x17 (.int .i64 n1) fun x26 =>
 LENT x1 fun x27 =>
 ADD Pr 3 false x21 x27 fun x28 =>
 OV (sliceA Pr 9 x18 (some x28) none none) fun x29 =>
 j20 x26 x29 h22)) kp
def B120x31 (x1 : AV) (h2 : Heap) (x0 : AV) (cl : CL) (kr : KR) (kp : KP) (fu : Nat) : Ans := LENT x1 fun x10 =>
 EQL Pr 3 true x10 (.int .i64 n1) fun x11 =>
 IFB x11 (SAT x1 (.int .i64 n0) fun x12 =>
 GEN (callF Pr h2 182 [x0, x12]) cl (fun x13 h14 =>
 kr x13 h14) kp)
 (LP fu (fun _ _ _ => Ans.no) (fun j20 x17 x18 h19 =>
 B120x30 cl x18 x1 h19 kr x17 j20 kp) (.int .i64 n0) x0 h2)
def F120 (fu : Nat) (oR : Orc) (cl : CL) (args : List AV) (h2 : Heap) (kr : KR) (kp : KP) : Ans := AR2 args fun x0 x1 =>
 LENT x1 fun x3 =>
 EQL Pr 3 true x3 (.int .i64 n0) fun x4 =>
 IFB x4 (cl n180 [x0] h2 (fun x5 h6 =>
 ADD Pr 3 true x5 (.int .i64 n1) fun x9 =>
 kr x9 h6) kp)
 (B120x31 x1 h2 x0 cl kr kp fu)

theorem eqF120 : F120 = fun fu oR => compF Pr fu oR 120 2 := by kernel_rfl

def F121 (fu : Nat) (oR : Orc) (cl : CL) (args : List AV) (h2 : Heap) (kr : KR) (kp : KP) : Ans := AR2 args fun x0 x1 =>
 cl n183 [x0, x1] h2 (fun x3 h4 =>
 kr x3 h4) kp

theorem eqF121 : F121 = fun fu oR => compF Pr fu oR 121 2 := by kernel_rfl

def F122 (fu : Nat) (oR : Orc) (cl : CL) (args : List AV) (h2 : Heap) (kr : KR) (kp : KP) : Ans := AR2 args fun x0 x1 =>
 cl n184 [x0] h2 (fun x3 h4 =>
 NC x0 fun x7 =>
 FA n1 x7 fun x8 =>
 LD x8 h4 fun x9 =>
 GEN (builtinF .append Pr [22, 9] [x9, x1] h4) cl (fun x10 h11 =>
 NC x0 fun x14 =>
 FA n1 x14 fun x15 =>
 ST n1 x15 x10 h11 fun h16 =>
 LENT x1 fun x17 =>
 kr (.tuple [x17, (.niliface)]) h16) kp) kp

theorem eqF122 : F122 = fun fu oR => compF Pr fu oR 122 2 := by kernel_rfl

def F123 (fu : Nat) (oR : Orc) (cl : CL) (args : List AV) (h1 : Heap) (kr : KR) (kp : KP) : Ans := AR1 args fun x0 =>
 NC x0 fun x2 =>
 FA n1 x2 fun x3 =>
 LD x3 h1 fun x4 =>
 LENS x4 fun x5 =>
 kr x5 h1

theorem eqF123 : F123 = fun fu oR => compF Pr fu oR 123 1 := by kernel_rfl

def B124x18 (x0 : AV) (kr : KR) (h1 : Heap) : Ans := EQL Pr 3 true x0 (.int .i64 n22) fun x15 =>
 IFB x15 (kr (.str n3 (nat_lit 2107936)) h1)
 (EQL Pr 3 true x0 (.int .i64 n23) fun x16 =>
 IFB x16 (kr (.str n3 (nat_lit 2109216)) h1)
 (EQL Pr 3 true x0 (.int .i64 n24) fun x17 =>
 IFB x17 (kr (.str n3 (nat_lit 2106656)) h1)
 (kr (.str n0 n0) h1)))
def B124x19 (x0 : AV) (kr : KR) (h1 : Heap) : Ans := EQL Pr 3 true x0 (.int .i64 n19) fun x12 =>
 IFB x12 (kr (.str n1 n32) h1)
 (EQL Pr 3 true x0 (.int .i64 n20) fun x13 =>
 IFB x13 (kr (.str n3 (nat_lit 2108192)) h1)
 (EQL Pr 3 true x0 (.int .i64 n21) fun x14 =>
 IFB x14 (kr (.str n3 (nat_lit 2108704)) h1)
 (B124x18 x0 kr h1)))
def B124x20 (x0 : AV) (kr : KR) (h1 : Heap) : Ans := EQL Pr 3 true x0 (.int .i64 n16) fun x9 =>
 IFB x9 (kr (.str n4 (nat_lit 540884000)) h1)
 (EQL Pr 3 true x0 (.int .i64 n17) fun x10 =>
 IFB x10 (kr (.str n4 (nat_lit 540884256)) h1)
 (EQL Pr 3 true x0 (.int .i64 n18) fun x11 =>
 IFB x11 (kr (.str n4 (nat_lit 540877088)) h1)
 (B124x19 x0 kr h1)))
def B124x21 (x0 : AV) (kr : KR) (h1 : Heap) : Ans := EQL Pr 3 true x0 (.int .i64 n13) fun x6 =>
 IFB x6 (kr (.str n3 (nat_lit 2129440)) h1)
 (EQL Pr 3 true x0 (.int .i64 n14) fun x7 =>
 IFB x7 (kr (.str n4 (nat_lit 545136928)) h1)
 (EQL Pr 3 true x0 (.int .i64 n15) fun x8 =>
 IFB x8 (kr (.str n3 (nat_lit 2112544)) h1)
 (B124x20 x0 kr h1)))
def B124x22 (x0 : AV) (kr : KR) (h1 : Heap) : Ans := EQL Pr 3 true x0 (.int .i64 n8) fun x3 =>
 IFB x3 (kr (.str n4 (nat_lit 540879648)) h1)
 (EQL Pr 3 true x0 (.int .i64 n10) fun x4 =>
 IFB x4 (kr (.str n4 (nat_lit 545029152)) h1)
 (EQL Pr 3 true x0 (.int .i64 n11) fun x5 =>
 IFB x5 (kr (.str n4 (nat_lit 539371040)) h1)
 (B124x21 x0 kr h1)))
def F124 (fu : Nat) (oR : Orc) (cl : CL) (args : List AV) (h1 : Heap) (kr : KR) (kp : KP) : Ans := AR1 args fun x0 =>
 EQL Pr 3 true x0 (.int .i64 n7) fun x2 =>
 IFB x2 (kr (.str n3 (nat_lit 2112800)) h1)
 (B124x22 x0 kr h1)

theorem eqF124 : F124 = fun fu oR => compF Pr fu oR 124 1 := by kernel_rfl

def B125x42 (x11 : AV) (x24 : AV) (h25 : Heap) (x1 : AV) (cl : CL) (x0 : AV) (x3 : AV) (kr : KR) (j26 : AV → Heap → Ans) (kp : KP) : Ans := SA n1 x11 x24 fun x28 =>
 LD x28 h25 fun x29 =>
 SUB Pr 3 true x1 (.int .i64 n1) fun x30 =>
 cl n24 [x29, (.int .i64 n0), x30] h25 (fun x31 h32 =>
 OV (unOpA .not x31) fun x35 =>
 IFB x35 (NC x0 fun x36 =>
 FA n4 x36 fun x37 =>
 ST n1 x37 (.bool true) h32 fun h38 =>
 OVH (makeSliceA Pr h38 106 x3 x3) fun x39 h40 =>
 kr x39 h40)
 (ADD Pr 3 true x24 (.int .i64 n1) fun x41 =>
 j26 x41 h32)) kp
def F125 (fu : Nat) (oR : Orc) (cl : CL) (args : List AV) (h4 : Heap) (kr : KR) (kp : KP) : Ans := AR4 args fun x0 x1 x2 x3 =>
 NC x0 fun x5 =>
 FA n0 x5 fun x6 =>
 FA n0 x6 fun x7 =>
 LD x7 h4 fun x8 =>
 SA n5 x8 x1 fun x9 =>
 FA n4 x9 fun x10 =>
 LD x10 h4 fun x11 =>
 LENS x11 fun x12 =>
 cl n24 [x12, x2, x3] h4 (fun x13 h14 =>
 OV (unOpA .not x13) fun x17 =>
 IFB x17 (NC x0 fun x18 =>
 FA n4 x18 fun x19 =>
 ST n1 x19 (.bool true) h14 fun h20 =>
 OVH (makeSliceA Pr h20 106 x3 x3) fun x21 h22 =>
 kr x21 h22)
 (LENS x11 fun x23 =>
 LP fu (fun _ _ => Ans.no) (fun j26 x24 h25 =>
 LSS Pr 3 false x24 x23 fun x27 =>
 IFB x27 (B125x42 x11 x24 h25 x1 cl x0 x3 kr j26 kp)
 (kr x11 h25)) (.int .i64 n0) h14)) kp

theorem eqF125 : F125 = fun fu oR => compF Pr fu oR 125 4 := by kernel_rfl

def B126x25 (x1 : AV) (x5 : AV) (h6 : Heap) (cl : CL) (x0 : AV) (j7 : AV → Heap → Ans) (kp : KP) (x2 : AV) : Ans := SA n1 x1 x5 fun x9 =>
 LD x9 h6 fun x10 =>
 JO (fun h11 =>
 cl n81 [x0, x10] h11 (fun x12 h13 =>
 ADD Pr 3 true x5 (.int .i64 n1) fun x16 =>
 j7 x16 h13) kp) fun j17 =>
 GTR Pr 3 true x5 (.int .i64 n0) fun x18 =>
 IFB x18 (BSL n9 n1 [(.str n0 n0)] n1 [(n0, x2)] h6 fun x19 h20 =>
 cl n80 [x0, x19] h20 (fun x21 h22 =>
 j17  h22) kp)
 (j17  h6)
def F126 (fu : Nat) (oR : Orc) (cl : CL) (args : List AV) (h3 : Heap) (kr : KR) (kp : KP) : Ans := AR3 args fun x0 x1 x2 =>
 LENS x1 fun x4 =>
 LP fu (fun _ _ => Ans.no) (fun j7 x5 h6 =>
 LSS Pr 3 false x5 x4 fun x8 =>
 IFB x8 (B126x25 x1 x5 h6 cl x0 j7 kp x2)
 (kr (.tuple []) h6)) (.int .i64 n0) h3

theorem eqF126 : F126 = fun fu oR => compF Pr fu oR 126 3 := by kernel_rfl

def B127x35 (x8 : AV) (cl : CL) (h13 : Heap) (x16 : AV) (j19 : AV → Heap → Ans) (kp : KP) : Ans := BOP Pr .rem 3 true x8 (.int .i64 (nat_lit 1000000)) fun x22 =>
 ADD Pr 3 true (.int .i64 (nat_lit 1000000)) x22 fun x23 =>
 cl n186 [x23] h13 (fun x24 h25 =>
 OV (sliceA Pr 9 x24 (some (.int .i64 n1)) none none) fun x28 =>
 cl n187 [x28, (.str n1 n48)] h25 (fun x29 h30 =>
 ADD Pr 9 true (.str n1 n46) x29 fun x33 =>
 ADD Pr 9 false x16 x33 fun x34 =>
 j19 x34 h30) kp) kp
def B127x36 (x8 : AV) (cl : CL) (h10 : Heap) (x9 : AV) (kr : KR) (kp : KP) : Ans := BOP Pr .quo 3 true x8 (.int .i64 (nat_lit 1000000)) fun x11 =>
 cl n186 [x11] h10 (fun x12 h13 =>
 ADD Pr 9 false x9 x12 fun x16 =>
 JO (fun x17 h18 =>
 kr x17 h18) fun j19 =>
 BOP Pr .rem 3 true x8 (.int .i64 (nat_lit 1000000)) fun x20 =>
 GTR Pr 3 true x20 (.int .i64 n0) fun x21 =>
 IFB x21 (B127x35 x8 cl h13 x16 j19 kp)
 (j19 x16 h13)) kp
def F127 (fu : Nat) (oR : Orc) (cl : CL) (args : List AV) (h1 : Heap) (kr : KR) (kp : KP) : Ans := AR1 args fun x0 =>
 cl n185 [x0] h1 (fun x2 h3 =>
 OV (unOpA .not x2) fun x6 =>
 IFB x6 (kr (.str n0 n0) h3)
 (OV (unOpA .neg x0) fun x7 =>
 OPV (builtinF .max Pr [3, 3] [x0, x7] h3) fun x8 =>
 JO (fun x9 h10 =>
 B127x36 x8 cl h10 x9 kr kp) fun j37 =>
 LSS Pr 3 true x0 (.int .i64 n0) fun x38 =>
 IFB x38 (j37 (.str n1 n45) h3)
 (j37 (.str n0 n0) h3))) kp

theorem eqF127 : F127 = fun fu oR => compF Pr fu oR 127 1 := by kernel_rfl

def B128x27 (x15 : AV) (h16 : Heap) (x6 : AV) (cl : CL) (j13 : AV → Heap → Ans) (kp : KP) : Ans := SAT (.str n4 (nat_lit 1545761902)) x15 fun x20 =>
 BSL n5 n1 [(.int .u8 n0), (.int .u8 n0)] n2 [(n0, (.int .u8 n92)), (n1, x20)] h16 fun x21 h22 =>
 GEN (builtinF .append Pr [22, 22] [x6, x21] h22) cl (fun x23 h24 =>
 j13 x23 h24) kp
def B128x35 (x5 : AV) (j8 : AV → AV → Heap → Ans) (x0 : AV) (cl : CL) (h7 : Heap) (x6 : AV) (kp : KP) : Ans := JO (fun x10 h11 =>
 ADD Pr 3 true x5 (.int .i64 n1) fun x12 =>
 j8 x12 x10 h11) fun j13 =>
 SAT x0 x5 fun x14 =>
 cl n188 [(.str n4 (nat_lit 1545734410)), x14] h7 (fun x15 h16 =>
 GEQ Pr 3 true x15 (.int .i64 n0) fun x19 =>
 IFB x19 (B128x27 x15 h16 x6 cl j13 kp)
 (SAT x0 x5 fun x28 =>
 BSL n5 n1 [(.int .u8 n0)] n1 [(n0, x28)] h16 fun x29 h30 =>
 GEN (builtinF .append Pr [22, 22] [x6, x29] h30) cl (fun x31 h32 =>
 j13 x31 h32) kp)) kp
def B128x43 (x5 : AV) (x4 : AV) (j8 : AV → AV → Heap → Ans) (x0 : AV) (cl : CL) (h7 : Heap) (x6 : AV) (kp : KP) (kr : KR) : Ans := LSS Pr 3 false x5 x4 fun x9 =>
 IFB x9 (B128x35 x5 j8 x0 cl h7 x6 kp)
 (BSL n5 n1 [(.int .u8 n0)] n1 [(n0, (.int .u8 n34))] h7 fun x36 h37 =>
 GEN (builtinF .append Pr [22, 22] [x6, x36] h37) cl (fun x38 h39 =>
 OV (convV Pr h39 22 9 x38) fun x42 =>
 kr x42 h39) kp)
def F128 (fu : Nat) (oR : Orc) (cl : CL) (args : List AV) (h1 : Heap) (kr : KR) (kp : KP) : Ans := AR1 args fun x0 =>
 BSL n5 n1 [(.int .u8 n0)] n1 [(n0, (.int .u8 n34))] h1 fun x2 h3 =>
 LENT x0 fun x4 =>
 LP fu (fun _ _ _ => Ans.no) (fun j8 x5 x6 h7 =>
 B128x43 x5 x4 j8 x0 cl h7 x6 kp kr) (.int .i64 n0) x2 h3

theorem eqF128 : F128 = fun fu oR => compF Pr fu oR 128 1 := by kernel_rfl

def B130x22 (x0 : AV) (h7 : Heap) (x1 : AV) (cl : CL) (kr : KR) (kp : KP) : Ans := NC x0 fun x8 =>
 FA n1 x8 fun x9 =>
 LD x9 h7 fun x10 =>
 OPV (builtinF .cap Pr [22] [x10] h7) fun x11 =>
 NC x0 fun x12 =>
 FA n1 x12 fun x13 =>
 LD x13 h7 fun x14 =>
 LENS x14 fun x15 =>
 SUB Pr 3 false x11 x15 fun x16 =>
 LSS Pr 3 false x16 x1 fun x17 =>
 IFB x17 (cl n189 [x0, x1] h7 (fun x18 h19 =>
 kr (.tuple []) h19) kp)
 (kr (.tuple []) h7)
def F130 (fu : Nat) (oR : Orc) (cl : CL) (args : List AV) (h2 : Heap) (kr : KR) (kp : KP) : Ans := AR2 args fun x0 x1 =>
 cl n184 [x0] h2 (fun x3 h4 =>
 JO (fun h7 =>
 B130x22 x0 h7 x1 cl kr kp) fun j23 =>
 LSS Pr 3 true x1 (.int .i64 n0) fun x24 =>
 IFB x24 (GEN (panA (.iface n9 (.str n36 (nat_lit 226187813140227768008177986391742176399534891738691412630441701833056540972817830802547))) h4) cl (fun x25 h26 =>
 j23  h26) kp)
 (j23  h4)) kp

theorem eqF130 : F130 = fun fu oR => compF Pr fu oR 130 2 := by kernel_rfl

def F131 (fu : Nat) (oR : Orc) (cl : CL) (args : List AV) (h5 : Heap) (kr : KR) (kp : KP) : Ans := AR5 args fun x0 x1 x2 x3 x4 =>
 BSL n9 n1 [(.str n0 n0)] n1 [(n0, x2)] h5 fun x6 h7 =>
 cl n80 [x0, x6] h7 (fun x8 h9 =>
 JO (fun h12 =>
 BSL n9 n1 [(.str n0 n0)] n1 [(n0, (.str n1 n59))] h12 fun x13 h14 =>
 cl n80 [x0, x13] h14 (fun x15 h16 =>
 kr (.tuple []) h16) kp) fun j19 =>
 cl n125 [x0, x1, x3, x4] h9 (fun x20 h21 =>
 LENS x20 fun x24 =>
 GTR Pr 3 true x24 (.int .i64 n0) fun x25 =>
 IFB x25 (BSL n9 n1 [(.str n0 n0)] n1 [(n0, (.str n1 n32))] h21 fun x26 h27 =>
 cl n80 [x0, x26] h27 (fun x28 h29 =>
 cl n126 [x0, x20, (.str n2 n8236)] h29 (fun x32 h33 =>
 j19  h33) kp) kp)
 (j19  h21)) kp) kp

theorem eqF131 : F131 = fun fu oR => compF Pr fu oR 131 5 := by kernel_rfl

def B132x18 (x2 : AV) (kr : KR) (x0 : AV) (x3 : AV) (h4 : Heap) : Ans := JO (fun x5 h6 =>
 SEL x2 (.bool true) x5 fun x7 =>
 JO (fun x8 h9 =>
 JO (fun x10 h11 =>
 SEL x7 (.bool true) x10 fun x12 =>
 kr x12 h11) fun j13 =>
 GW false x7 (EQL Pr 5 true x8 (.int .u8 n10) fun x14 =>
 j13 x14 h9)
 (j13 undefA h9)) fun j15 =>
 GW false x7 (j15 x0 h6)
 (j15 undefA h6)) fun j16 =>
 GW false x2 (EQL Pr 5 true x3 (.int .u8 n9) fun x17 =>
 j16 x17 h4)
 (j16 undefA h4)
def F132 (fu : Nat) (oR : Orc) (cl : CL) (args : List AV) (h1 : Heap) (kr : KR) (kp : KP) : Ans := AR1 args fun x0 =>
 EQL Pr 5 true x0 (.int .u8 n32) fun x2 =>
 JO (fun x3 h4 =>
 B132x18 x2 kr x0 x3 h4) fun j19 =>
 GW false x2 (j19 x0 h1)
 (j19 undefA h1)

theorem eqF132 : F132 = fun fu oR => compF Pr fu oR 132 1 := by kernel_rfl

def B133x33 (x9 : AV) (x4 : AV) (j6 : AV → Heap → Ans) (kr : KR) (x10 : AV) (cl : CL) (kp : KP) (x12 : AV) (x18 : AV) (h19 : Heap) : Ans := JO (fun x20 h21 =>
 JO (fun x22 h23 =>
 SEL x9 x22 (.bool false) fun x24 =>
 IFB x24 (ADD Pr 3 true x4 (.int .i64 n1) fun x25 =>
 j6 x25 h23)
 (kr x4 h23)) fun j26 =>
 GW true x9 (GEN (callV Pr (some x10) [x20] h21) cl (fun x27 h28 =>
 j26 x27 h28) kp)
 (j26 undefA h21)) fun j31 =>
 GW true x9 (SAT x12 x18 fun x32 =>
 j31 x32 h19)
 (j31 undefA h19)
def B133x39 (x9 : AV) (x4 : AV) (j6 : AV → Heap → Ans) (kr : KR) (x10 : AV) (cl : CL) (kp : KP) (x1 : AV) (x0 : AV) (h11 : Heap) : Ans := JO (fun x12 h13 =>
 JO (fun x14 h15 =>
 JO (fun x16 h17 =>
 JO (fun x18 h19 =>
 B133x33 x9 x4 j6 kr x10 cl kp x12 x18 h19) fun j34 =>
 GW true x9 (ADD Pr 3 false x14 x16 fun x35 =>
 j34 x35 h17)
 (j34 undefA h17)) fun j36 =>
 GW true x9 (j36 x4 h15)
 (j36 undefA h15)) fun j37 =>
 GW true x9 (j37 x1 h13)
 (j37 undefA h13)) fun j38 =>
 GW true x9 (j38 x0 h11)
 (j38 undefA h11)
def F133 (fu : Nat) (oR : Orc) (cl : CL) (args : List AV) (h3 : Heap) (kr : KR) (kp : KP) : Ans := AR3 args fun x0 x1 x2 =>
 LP fu (fun _ _ => Ans.no) (fun j6 x4 h5 =>
 ADD Pr 3 false x1 x4 fun x7 =>
 LENT x0 fun x8 =>
 LSS Pr 3 false x7 x8 fun x9 =>
 JO (fun x10 h11 =>
 B133x39 x9 x4 j6 kr x10 cl kp x1 x0 h11) fun j40 =>
 GW true x9 (j40 x2 h5)
 (j40 undefA h5)) (.int .i64 n0) h3

theorem eqF133 : F133 = fun fu oR => compF Pr fu oR 133 3 := by kernel_rfl

def B135x28 (x0 : AV) (x16 : AV) (cl : CL) (h17 : Heap) (x5 : AV) (kr : KR) (kp : KP) : Ans := OV (sliceA Pr 9 x0 none (some x16) none) fun x18 =>
 cl n191 [x18] h17 (fun x19 h20 =>
 EX n0 x19 fun x23 =>
 EX n1 x19 fun x24 =>
 OV (buildA Pr 130 [(n0, (.int .i64 n1)), (n2, x23)]) fun x25 =>
 ST n4 x5 x25 h20 fun h26 =>
 LDN n4 x5 h26 fun x27 =>
 kr (.tuple [x27, x16]) h26) kp
def B135x65 (x41 : AV) (x12 : AV) (cl : CL) (x0 : AV) (j29 : AV → Heap → Ans) (kp : KP) (x48 : AV) (h49 : Heap) : Ans := JO (fun x50 h51 =>
 SEL x41 x50 (.bool false) fun x52 =>
 IFB x52 (ADD Pr 3 true x12 (.int .i64 n1) fun x53 =>
 cl n133 [x0, x53, (.func (.func 190) [] [])] h51 (fun x54 h55 =>
 ADD Pr 3 true (.int .i64 n1) x54 fun x58 =>
 ADD Pr 3 false x12 x58 fun x59 =>
 j29 x59 h55) kp)
 (j29 x12 h51)) fun j60 =>
 GW true x41 (cl n190 [x48] h49 (fun x61 h62 =>
 j60 x61 h62) kp)
 (j60 undefA h49)
def B135x71 (x41 : AV) (x12 : AV) (cl : CL) (x0 : AV) (j29 : AV → Heap → Ans) (kp : KP) (x42 : AV) (h43 : Heap) : Ans := JO (fun x44 h45 =>
 JO (fun x46 h47 =>
 JO (fun x48 h49 =>
 B135x65 x41 x12 cl x0 j29 kp x48 h49) fun j66 =>
 GW true x41 (SAT x42 x46 fun x67 =>
 j66 x67 h47)
 (j66 undefA h47)) fun j68 =>
 GW true x41 (ADD Pr 3 true x44 (.int .i64 n1) fun x69 =>
 j68 x69 h45)
 (j68 undefA h45)) fun j70 =>
 GW true x41 (j70 x12 h43)
 (j70 undefA h43)
def B135x77 (x32 : AV) (x12 : AV) (cl : CL) (x0 : AV) (j29 : AV → Heap → Ans) (kp : KP) (x33 : AV) (x35 : AV) (h36 : Heap) : Ans := JO (fun x37 h38 =>
 JO (fun x39 h40 =>
 SEL x32 x39 (.bool false) fun x41 =>
 JO (fun x42 h43 =>
 B135x71 x41 x12 cl x0 j29 kp x42 h43) fun j72 =>
 GW true x41 (j72 x0 h40)
 (j72 undefA h40)) fun j73 =>
 GW true x32 (EQL Pr 5 true x37 (.int .u8 n46) fun x74 =>
 j73 x74 h38)
 (j73 undefA h38)) fun j75 =>
 GW true x32 (SAT x33 x35 fun x76 =>
 j75 x76 h36)
 (j75 undefA h36)
def B135x80 (cl : CL) (x0 : AV) (h9 : Heap) (x5 : AV) (kr : KR) (kp : KP) : Ans := cl n133 [x0, (.int .i64 n0), (.func (.func 190) [] [])] h9 (fun x12 h13 =>
 JO (fun x16 h17 =>
 B135x28 x0 x16 cl h17 x5 kr kp) fun j29 =>
 ADD Pr 3 true x12 (.int .i64 n1) fun x30 =>
 LENT x0 fun x31 =>
 LSS Pr 3 false x30 x31 fun x32 =>
 JO (fun x33 h34 =>
 JO (fun x35 h36 =>
 B135x77 x32 x12 cl x0 j29 kp x33 x35 h36) fun j78 =>
 GW true x32 (j78 x12 h34)
 (j78 undefA h34)) fun j79 =>
 GW true x32 (j79 x0 h13)
 (j79 undefA h13)) kp
def B135x108 (cl : CL) (x0 : AV) (h97 : Heap) (x5 : AV) (kr : KR) (kp : KP) : Ans := cl n194 [x0] h97 (fun x99 h100 =>
 EX n0 x99 fun x103 =>
 EX n1 x99 fun x104 =>
 OV (buildA Pr 130 [(n0, (.int .i64 n3)), (n1, x103)]) fun x105 =>
 ST n4 x5 x105 h100 fun h106 =>
 LDN n4 x5 h106 fun x107 =>
 kr (.tuple [x107, x104]) h106) kp
def B135x155 (x141 : AV) (x120 : AV) (j127 : Heap → Ans) (x146 : AV) (h147 : Heap) : Ans := JO (fun x148 h149 =>
 SEL x141 x148 (.bool false) fun x150 =>
 IFB x150 (FA n0 x120 fun x151 =>
 ST n1 x151 (.int .i64 n5) h149 fun h152 =>
 j127  h152)
 (j127  h149)) fun j153 =>
 GW true x141 (EQL Pr 5 true x146 (.int .u8 n40) fun x154 =>
 j153 x154 h147)
 (j153 undefA h147)
def B135x160 (x0 : AV) (x113 : AV) (x120 : AV) (j127 : Heap → Ans) (h135 : Heap) : Ans := LENT x0 fun x140 =>
 LSS Pr 3 false x113 x140 fun x141 =>
 JO (fun x142 h143 =>
 JO (fun x144 h145 =>
 JO (fun x146 h147 =>
 B135x155 x141 x120 j127 x146 h147) fun j156 =>
 GW true x141 (SAT x142 x144 fun x157 =>
 j156 x157 h145)
 (j156 undefA h145)) fun j158 =>
 GW true x141 (j158 x113 h143)
 (j158 undefA h143)) fun j159 =>
 GW true x141 (j159 x0 h135)
 (j159 undefA h135)
def B135x161 (cl : CL) (x0 : AV) (h110 : Heap) (x5 : AV) (kr : KR) (kp : KP) : Ans := cl n133 [x0, (.int .i64 n0), (.func (.func 196) [] [])] h110 (fun x113 h114 =>
 OPV (builtinF .min Pr [3, 3] [x113, (.int .i64 n40)] h114) fun x117 =>
 OV (sliceA Pr 9 x0 none (some x117) none) fun x118 =>
 OV (buildA Pr 130 [(n0, (.int .i64 n4)), (n1, x118)]) fun x119 =>
 NEWC (.n (some (.int .i64 n0)) (.n (some (.str n0 n0)) (.n (some (.int .i64 n0)) .e .e) .e) (.n (some (.int .i64 n0)) .e .e)) n4 130 h114 fun x120 h121 =>
 ST n4 x120 x119 h121 fun h122 =>
 JO (fun h123 =>
 LDN n4 x120 h123 fun x124 =>
 ST n4 x5 x124 h123 fun h125 =>
 LDN n4 x5 h125 fun x126 =>
 kr (.tuple [x126, x113]) h125) fun j127 =>
 GTR Pr 3 true x113 (.int .i64 n40) fun x128 =>
 IFB x128 (OV (buildA Pr 130 []) fun x129 =>
 ST n4 x5 x129 h122 fun h130 =>
 LDN n4 x5 h130 fun x131 =>
 kr (.tuple [x131, (.int .i64 n0)]) h130)
 (FA n1 x120 fun x132 =>
 LD x132 h122 fun x133 =>
 cl n197 [x133] h122 (fun x134 h135 =>
 IFB x134 (FA n0 x120 fun x138 =>
 ST n1 x138 (.int .i64 n6) h135 fun h139 =>
 j127  h139)
 (B135x160 x0 x113 x120 j127 h135)) kp)) kp
def B135x182 (x162 : AV) (x167 : AV) (h168 : Heap) (cl : CL) (x0 : AV) (x5 : AV) (kr : KR) (j169 : AV → Heap → Ans) (kp : KP) : Ans := SA n1 x162 x167 fun x171 =>
 LD x171 h168 fun x172 =>
 cl n198 [x0, x172] h168 (fun x173 h174 =>
 IFB x173 (OV (buildA Pr 130 [(n0, (.int .i64 n7)), (n1, x172)]) fun x177 =>
 LENT x172 fun x178 =>
 ST n4 x5 x177 h174 fun h179 =>
 LDN n4 x5 h179 fun x180 =>
 kr (.tuple [x180, x178]) h179)
 (ADD Pr 3 true x167 (.int .i64 n1) fun x181 =>
 j169 x181 h174)) kp
def B135x186 (cl : CL) (h110 : Heap) (fu : Nat) (x0 : AV) (x5 : AV) (kr : KR) (kp : KP) : Ans := cl n56 [(.str n60 (nat_lit 440530996711968739911640227301029809639671399024529253903015996329481968211493671615709962352221065548437406721784014841120924320141379100485158)), (.str n1 n32)] h110 (fun x162 h163 =>
 LENS x162 fun x166 =>
 LP fu (fun _ _ => Ans.no) (fun j169 x167 h168 =>
 LSS Pr 3 false x167 x166 fun x170 =>
 IFB x170 (B135x182 x162 x167 h168 cl x0 x5 kr j169 kp)
 (OV (buildA Pr 130 []) fun x183 =>
 ST n4 x5 x183 h168 fun h184 =>
 LDN n4 x5 h184 fun x185 =>
 kr (.tuple [x185, (.int .i64 n0)]) h184)) (.int .i64 n0) h163) kp
def B135x189 (x91 : AV) (cl : CL) (x0 : AV) (x5 : AV) (kr : KR) (kp : KP) (x7 : AV) (fu : Nat) (x94 : AV) (h95 : Heap) : Ans := JO (fun x96 h97 =>
 SEL x91 x96 (.bool false) fun x98 =>
 IFB x98 (B135x108 cl x0 h97 x5 kr kp)
 (cl n195 [x7] h97 (fun x109 h110 =>
 IFB x109 (B135x161 cl x0 h110 x5 kr kp)
 (B135x186 cl h110 fu x0 x5 kr kp)) kp)) fun j187 =>
 GW true x91 (OV (unOpA .not x94) fun x188 =>
 j187 x188 h95)
 (j187 undefA h95)
def B135x197 (x7 : AV) (cl : CL) (x0 : AV) (x5 : AV) (kr : KR) (kp : KP) (fu : Nat) (x3 : AV) (h9 : Heap) : Ans := EQL Pr 5 true x7 (.int .u8 n47) fun x91 =>
 JO (fun x92 h93 =>
 JO (fun x94 h95 =>
 B135x189 x91 cl x0 x5 kr kp x7 fu x94 h95) fun j190 =>
 GW true x91 (cl n193 [x92] h93 (fun x191 h192 =>
 j190 x191 h192) kp)
 (j190 undefA h93)) fun j195 =>
 GW true x91 (LDN n4 x3 h9 fun x196 =>
 j195 x196 h9)
 (j195 undefA h9)
def B135x198 (x7 : AV) (cl : CL) (x0 : AV) (h9 : Heap) (x5 : AV) (kr : KR) (kp : KP) (fu : Nat) (x3 : AV) : Ans := EQL Pr 5 true x7 (.int .u8 n34) fun x81 =>
 IFB x81 (cl n192 [x0] h9 (fun x82 h83 =>
 EX n0 x82 fun x86 =>
 EX n1 x82 fun x87 =>
 OV (buildA Pr 130 [(n0, (.int .i64 n2)), (n1, x86)]) fun x88 =>
 ST n4 x5 x88 h83 fun h89 =>
 LDN n4 x5 h89 fun x90 =>
 kr (.tuple [x90, x87]) h89) kp)
 (B135x197 x7 cl x0 x5 kr kp fu x3 h9)
def F135 (fu : Nat) (oR : Orc) (cl : CL) (args : List AV) (h2 : Heap) (kr : KR) (kp : KP) : Ans := AR2 args fun x0 x1 =>
 BOX 130 x1 h2 fun x3 h4 =>
 NEWC (.n (some (.int .i64 n0)) (.n (some (.str n0 n0)) (.n (some (.int .i64 n0)) .e .e) .e) (.n (some (.int .i64 n0)) .e .e)) n4 130 h4 fun x5 h6 =>
 SAT x0 (.int .i64 n0) fun x7 =>
 cl n190 [x7] h6 (fun x8 h9 =>
 IFB x8 (B135x80 cl x0 h9 x5 kr kp)
 (B135x198 x7 cl x0 h9 x5 kr kp fu x3)) kp

theorem eqF135 : F135 = fun fu oR => compF Pr fu oR 135 2 := by kernel_rfl

def B136x89 (x5 : AV) (h69 : Heap) (cl : CL) (x0 : AV) (j61 : Heap → Ans) (kp : KP) : Ans := FA n2 x5 fun x70 =>
 LD x70 h69 fun x71 =>
 BSL n3 n1 [(.int .i64 n0)] n1 [(n0, (.int .i64 n4))] h69 fun x72 h73 =>
 LD x70 h73 fun x74 =>
 EQV x71 x74 <|
 cl n201 [x0, x72] h73 (fun x75 h76 =>
 LD x70 h76 fun x79 =>
 EQV x71 x79 <|
 BSL n9 n1 [(.str n0 n0)] n1 [(n0, x75)] h76 fun x80 h81 =>
 LD x70 h81 fun x82 =>
 EQV x71 x82 <|
 GEN (builtinF .append Pr [48, 48] [x71, x80] h81) cl (fun x83 h84 =>
 FA n2 x5 fun x87 =>
 ST n1 x87 x83 h84 fun h88 =>
 j61  h88) kp) kp
def B136x106 (h60 : Heap) (cl : CL) (x0 : AV) (x5 : AV) (j61 : Heap → Ans) (kp : KP) (j18 : Heap → Ans) : Ans := BSL n9 n1 [(.str n0 n0)] n1 [(n0, (.str n1 n41))] h60 fun x62 h63 =>
 cl n203 [x0, x62] h63 (fun x64 h65 =>
 OV (unOpA .not x64) fun x68 =>
 IFB x68 (JO (fun h69 =>
 B136x89 x5 h69 cl x0 j61 kp) fun j90 =>
 FA n2 x5 fun x91 =>
 LD x91 h65 fun x92 =>
 LENS x92 fun x93 =>
 GTR Pr 3 true x93 (.int .i64 n0) fun x94 =>
 IFB x94 (cl n202 [x0, (.str n1 n44)] h65 (fun x95 h96 =>
 j90  h96) kp)
 (j90  h65))
 (NC x0 fun x99 =>
 FA n1 x99 fun x100 =>
 LD x100 h65 fun x101 =>
 ADD Pr 3 true x101 (.int .i64 n1) fun x102 =>
 NC x0 fun x103 =>
 FA n1 x103 fun x104 =>
 ST n1 x104 x102 h65 fun h105 =>
 j18  h105)) kp
def B136x107 (x0 : AV) (h36 : Heap) (cl : CL) (x5 : AV) (fu : Nat) (kp : KP) (j18 : Heap → Ans) : Ans := NC x0 fun x39 =>
 FA n1 x39 fun x40 =>
 LD x40 h36 fun x41 =>
 ADD Pr 3 true x41 (.int .i64 n1) fun x42 =>
 NC x0 fun x43 =>
 FA n1 x43 fun x44 =>
 ST n1 x44 x42 h36 fun h45 =>
 BSL n3 n1 [(.int .i64 n0), (.int .i64 n0)] n2 [(n0, (.int .i64 n4)), (n1, (.int .i64 n5))] h45 fun x46 h47 =>
 cl n201 [x0, x46] h47 (fun x48 h49 =>
 FA n0 x5 fun x52 =>
 ST n1 x52 (.int .i64 n4) h49 fun h53 =>
 FA n1 x5 fun x54 =>
 ST n1 x54 x48 h53 fun h55 =>
 cl n202 [x0, (.str n1 n40)] h55 (fun x56 h57 =>
 LP fu (fun _ => Ans.no) (fun j61 h60 =>
 B136x106 h60 cl x0 x5 j61 kp j18)  h57) kp) kp
def B136x124 (h36 : Heap) (cl : CL) (x0 : AV) (x5 : AV) (j18 : Heap → Ans) (kp : KP) : Ans := BSL n9 n1 [(.str n0 n0)] n1 [(n0, (.str n1 n123))] h36 fun x108 h109 =>
 cl n203 [x0, x108] h109 (fun x110 h111 =>
 IFB x110 (FA n0 x5 fun x114 =>
 ST n1 x114 (.int .i64 n2) h111 fun h115 =>
 j18  h115)
 (cl n204 [x0] h111 (fun x116 h117 =>
 FA n0 x5 fun x120 =>
 ST n1 x120 (.int .i64 n3) h117 fun h121 =>
 FA n3 x5 fun x122 =>
 ST n1 x122 x116 h121 fun h123 =>
 j18  h123) kp)) kp
def F136 (fu : Nat) (oR : Orc) (cl : CL) (args : List AV) (h1 : Heap) (kr : KR) (kp : KP) : Ans := AR1 args fun x0 =>
 NEWC (.n (some (.int .i64 n0)) (.n (some (.str n0 n0)) (.n (some (.int .i64 n0)) .e .e) .e) (.n (some (.nilslice)) (.n (some (.int .i64 n0)) .e .e) .e)) n5 61 h1 fun x2 h3 =>
 OV (buildA Pr 61 [(n3, (.int .i64 (nat_lit 18446744073709551615)))]) fun x4 =>
 NEWC (.n (some (.int .i64 n0)) (.n (some (.str n0 n0)) (.n (some (.int .i64 n0)) .e .e) .e) (.n (some (.nilslice)) (.n (some (.int .i64 n0)) .e .e) .e)) n5 61 h3 fun x5 h6 =>
 ST n5 x5 x4 h6 fun h7 =>
 JO (fun h8 =>
 cl n205 [x0] h8 (fun x9 h10 =>
 FA n4 x5 fun x13 =>
 ST n1 x13 x9 h10 fun h14 =>
 LDN n5 x5 h14 fun x15 =>
 ST n5 x2 x15 h14 fun h16 =>
 LDN n5 x2 h16 fun x17 =>
 kr x17 h16) kp) fun j18 =>
 BSL n9 n1 [(.str n0 n0), (.str n0 n0)] n2 [(n0, (.str n5 (nat_lit 336236856642))), (n1, (.str n3 (nat_lit 4476485)))] h7 fun x19 h20 =>
 cl n199 [x0, x19] h20 (fun x21 h22 =>
 IFB x21 (cl n200 [x0] h22 (fun x25 h26 =>
 OV (fieldA Pr 130 x25 1) fun x29 =>
 EQL Pr 9 true x29 (.str n3 (nat_lit 4476485)) fun x30 =>
 IFB x30 (FA n0 x5 fun x31 =>
 ST n1 x31 (.int .i64 n1) h26 fun h32 =>
 j18  h32)
 (j18  h26)) kp)
 (BSL n9 n1 [(.str n0 n0)] n1 [(n0, (.str n8 (nat_lit 7957695015192261990)))] h22 fun x33 h34 =>
 cl n199 [x0, x33] h34 (fun x35 h36 =>
 IFB x35 (B136x107 x0 h36 cl x5 fu kp j18)
 (B136x124 h36 cl x0 x5 j18 kp)) kp)) kp

theorem eqF136 : F136 = fun fu oR => compF Pr fu oR 136 1 := by kernel_rfl

def B137x29 (x0 : AV) (h5 : Heap) (x1 : AV) (x3 : AV) (kr : KR) : Ans := NC x0 fun x6 =>
 FA n12 x6 fun x7 =>
 FA n3 x7 fun x8 =>
 LD x8 h5 fun x9 =>
 SUB Pr 3 true x9 (.int .i64 n1) fun x10 =>
 NC x0 fun x11 =>
 FA n12 x11 fun x12 =>
 FA n3 x12 fun x13 =>
 ST n1 x13 x10 h5 fun h14 =>
 NC x0 fun x15 =>
 FA n12 x15 fun x16 =>
 FA n5 x16 fun x17 =>
 LD x17 h14 fun x18 =>
 SA n1 x18 x1 fun x19 =>
 ST n1 x19 (.bool true) h14 fun h20 =>
 NC x0 fun x21 =>
 FA n0 x21 fun x22 =>
 FA n0 x22 fun x23 =>
 LD x23 h20 fun x24 =>
 SA n5 x24 x1 fun x25 =>
 LDN n5 x25 h20 fun x26 =>
 ST n5 x3 x26 h20 fun h27 =>
 LDN n5 x3 h27 fun x28 =>
 kr x28 h27
def F137 (fu : Nat) (oR : Orc) (cl : CL) (args : List AV) (h2 : Heap) (kr : KR) (kp : KP) : Ans := AR2 args fun x0 x1 =>
 NEWC (.n (some (.int .i64 n0)) (.n (some (.str n0 n0)) (.n (some (.int .i64 n0)) .e .e) .e) (.n (some (.str n0 n0)) (.n (some (.nilslice)) .e .e) .e)) n5 108 h2 fun x3 h4 =>
 JO (fun h5 =>
 B137x29 x0 h5 x1 x3 kr) fun j30 =>
 NC x0 fun x31 =>
 FA n12 x31 fun x32 =>
 FA n3 x32 fun x33 =>
 LD x33 h4 fun x34 =>
 EQL Pr 3 true x34 (.int .i64 n0) fun x35 =>
 IFB x35 (GEN (panA (.iface n85 (.int .i64 n1)) h4) cl (fun x36 h37 =>
 j30  h37) kp)
 (j30  h4)

theorem eqF137 : F137 = fun fu oR => compF Pr fu oR 137 2 := by kernel_rfl

def F138 (fu : Nat) (oR : Orc) (cl : CL) (args : List AV) (h1 : Heap) (kr : KR) (kp : KP) : Ans := AR1 args fun x0 =>
 NEWC (.n (some (.int .i64 n0)) (.n (some (.int .i64 n0)) .e .e) (.n (some (.str n0 n0)) .e .e)) n3 44 h1 fun x2 h3 =>
 OV (buildA Pr 44 [(n0, (.int .i64 n1)), (n1, x0)]) fun x4 =>
 ST n3 x2 x4 h3 fun h5 =>
 LDN n3 x2 h5 fun x6 =>
 kr x6 h5

theorem eqF138 : F138 = fun fu oR => compF Pr fu oR 138 1 := by kernel_rfl

def F139 (fu : Nat) (oR : Orc) (cl : CL) (args : List AV) (h1 : Heap) (kr : KR) (kp : KP) : Ans := AR1 args fun x0 =>
 NEWC (.n (some (.int .i64 n0)) (.n (some (.int .i64 n0)) .e .e) (.n (some (.str n0 n0)) .e .e)) n3 44 h1 fun x2 h3 =>
 JO (fun h4 =>
 OV (buildA Pr 44 [(n0, (.int .i64 n2)), (n2, x0)]) fun x5 =>
 ST n3 x2 x5 h4 fun h6 =>
 LDN n3 x2 h6 fun x7 =>
 kr x7 h6) fun j8 =>
 LENT x0 fun x9 =>
 GTR Pr 3 true x9 (.int .i64 n500) fun x10 =>
 IFB x10 (GEN (panA (.iface n85 (.int .i64 n5)) h3) cl (fun x11 h12 =>
 j8  h12) kp)
 (j8  h3)

theorem eqF139 : F139 = fun fu oR => compF Pr fu oR 139 1 := by kernel_rfl

def B142x34 (x3 : AV) (h9 : Heap) (x0 : AV) (cl : CL) (x5 : AV) (kr : KR) (kp : KP) : Ans := FA n1 x3 fun x12 =>
 LD x12 h9 fun x13 =>
 EQL Pr 9 true x13 (.str n2 (nat_lit 21070)) fun x14 =>
 IFB x14 (NC x0 fun x15 =>
 FA n8 x15 fun x16 =>
 LD x16 h9 fun x17 =>
 cl n206 [x17] h9 (fun x18 h19 =>
 ST n3 x5 x18 h19 fun h22 =>
 LDN n3 x5 h22 fun x23 =>
 kr x23 h22) kp)
 (NC x0 fun x24 =>
 FA n7 x24 fun x25 =>
 LD x25 h9 fun x26 =>
 LENS x26 fun x27 =>
 cl n206 [x27] h9 (fun x28 h29 =>
 ST n3 x5 x28 h29 fun h32 =>
 LDN n3 x5 h32 fun x33 =>
 kr x33 h32) kp)
def B142x57 (x3 : AV) (h9 : Heap) (cl : CL) (x0 : AV) (x5 : AV) (kr : KR) (kp : KP) : Ans := LDN n3 x3 h9 fun x35 =>
 cl n210 [x0, x35] h9 (fun x36 h37 =>
 cl n211 [x36] h37 (fun x40 h41 =>
 NEWC (.n (some (.int .i64 n0)) (.n (some (.int .i64 n0)) .e .e) (.n (some (.str n0 n0)) .e .e)) n3 44 h41 fun x44 h45 =>
 ST n3 x44 x40 h45 fun h46 =>
 LDN n3 x3 h46 fun x47 =>
 FA n0 x44 fun x48 =>
 LD x48 h46 fun x49 =>
 cl n212 [x0, x47, (.int .i64 n0), x49] h46 (fun x50 h51 =>
 LDN n3 x44 h51 fun x54 =>
 ST n3 x5 x54 h51 fun h55 =>
 LDN n3 x5 h55 fun x56 =>
 kr x56 h55) kp) kp) kp
def F142 (fu : Nat) (oR : Orc) (cl : CL) (args : List AV) (h2 : Heap) (kr : KR) (kp : KP) : Ans := AR2 args fun x0 x1 =>
 BOX 184 x1 h2 fun x3 h4 =>
 NEWC (.n (some (.int .i64 n0)) (.n (some (.int .i64 n0)) .e .e) (.n (some (.str n0 n0)) .e .e)) n3 44 h4 fun x5 h6 =>
 LDN n3 x3 h6 fun x7 =>
 cl n209 [x7] h6 (fun x8 h9 =>
 IFB x8 (B142x34 x3 h9 x0 cl x5 kr kp)
 (B142x57 x3 h9 cl x0 x5 kr kp)) kp

theorem eqF142 : F142 = fun fu oR => compF Pr fu oR 142 2 := by kernel_rfl

def B143x34 (x16 : AV) (x23 : AV) (x11 : AV) (h24 : Heap) (x2 : AV) (x4 : AV) (kr : KR) : Ans := SEL x16 x23 (.bool false) fun x25 =>
 IFB x25 (FA n1 x11 fun x26 =>
 LD x26 h24 fun x27 =>
 OV (buildA Pr 184 [(n0, x27), (n1, x2)]) fun x28 =>
 ST n3 x4 x28 h24 fun h29 =>
 LDN n3 x4 h29 fun x30 =>
 kr x30 h29)
 (OV (buildA Pr 184 [(n1, x2)]) fun x31 =>
 ST n3 x4 x31 h24 fun h32 =>
 LDN n3 x4 h32 fun x33 =>
 kr x33 h32)
def B143x43 (x16 : AV) (x11 : AV) (x2 : AV) (x4 : AV) (kr : KR) (cl : CL) (kp : KP) (x17 : AV) (h18 : Heap) : Ans := JO (fun x19 h20 =>
 JO (fun x21 h22 =>
 JO (fun x23 h24 =>
 B143x34 x16 x23 x11 h24 x2 x4 kr) fun j35 =>
 GW true x16 (cl n213 [x19, x21] h22 (fun x36 h37 =>
 j35 x36 h37) kp)
 (j35 undefA h22)) fun j40 =>
 GW true x16 (j40 x2 h20)
 (j40 undefA h20)) fun j41 =>
 GW true x16 (LD x17 h18 fun x42 =>
 j41 x42 h18)
 (j41 undefA h18)
def F143 (fu : Nat) (oR : Orc) (cl : CL) (args : List AV) (h3 : Heap) (kr : KR) (kp : KP) : Ans := AR3 args fun x0 x1 x2 =>
 NEWC (.n (some (.str n0 n0)) (.n (some (.str n0 n0)) .e .e) (.n (some (.int .i64 n0)) .e .e)) n3 184 h3 fun x4 h5 =>
 NC x0 fun x6 =>
 FA n2 x6 fun x7 =>
 LD x7 h5 fun x8 =>
 SA n5 x8 x1 fun x9 =>
 LDN n5 x9 h5 fun x10 =>
 NEWC (.n (some (.int .i64 n0)) (.n (some (.str n0 n0)) (.n (some (.int .i64 n0)) .e .e) .e) (.n (some (.nilslice)) (.n (some (.int .i64 n0)) .e .e) .e)) n5 61 h5 fun x11 h12 =>
 ST n5 x11 x10 h12 fun h13 =>
 FA n0 x11 fun x14 =>
 LD x14 h13 fun x15 =>
 EQL Pr 3 true x15 (.int .i64 n4) fun x16 =>
 JO (fun x17 h18 =>
 B143x43 x16 x11 x2 x4 kr cl kp x17 h18) fun j44 =>
 GW true x16 (FA n2 x11 fun x45 =>
 j44 x45 h13)
 (j44 undefA h13)

theorem eqF143 : F143 = fun fu oR => compF Pr fu oR 143 3 := by kernel_rfl

def B144x35 (x0 : AV) (h20 : Heap) (x1 : AV) (cl : CL) (x3 : AV) (kr : KR) (kp : KP) : Ans := NC x0 fun x23 =>
 FA n7 x23 fun x24 =>
 LD x24 h20 fun x25 =>
 SUB Pr 3 true x1 (.int .i64 n1) fun x26 =>
 SA n1 x25 x26 fun x27 =>
 LD x27 h20 fun x28 =>
 cl n214 [x28] h20 (fun x29 h30 =>
 ST n3 x3 x29 h30 fun h33 =>
 LDN n3 x3 h33 fun x34 =>
 kr x34 h33) kp
def B144x48 (cl : CL) (x1 : AV) (h20 : Heap) (x3 : AV) (kr : KR) (kp : KP) : Ans := cl n24 [x1, (.int .i64 n1), (.int .i64 n50)] h20 (fun x36 h37 =>
 IFB x36 (OV (buildA Pr 44 []) fun x40 =>
 ST n3 x3 x40 h37 fun h41 =>
 LDN n3 x3 h41 fun x42 =>
 kr x42 h41)
 (GEN (panA (.iface n85 (.int .i64 n5)) h37) cl (fun x43 h44 =>
 LDN n3 x3 h44 fun x47 =>
 kr x47 h44) kp)) kp
def F144 (fu : Nat) (oR : Orc) (cl : CL) (args : List AV) (h2 : Heap) (kr : KR) (kp : KP) : Ans := AR2 args fun x0 x1 =>
 NEWC (.n (some (.int .i64 n0)) (.n (some (.int .i64 n0)) .e .e) (.n (some (.str n0 n0)) .e .e)) n3 44 h2 fun x3 h4 =>
 EQL Pr 3 true x1 (.int .i64 n0) fun x5 =>
 IFB x5 (NC x0 fun x6 =>
 FA n6 x6 fun x7 =>
 LD x7 h4 fun x8 =>
 cl n214 [x8] h4 (fun x9 h10 =>
 ST n3 x3 x9 h10 fun h13 =>
 LDN n3 x3 h13 fun x14 =>
 kr x14 h13) kp)
 (NC x0 fun x15 =>
 FA n7 x15 fun x16 =>
 LD x16 h4 fun x17 =>
 LENS x17 fun x18 =>
 cl n24 [x1, (.int .i64 n1), x18] h4 (fun x19 h20 =>
 IFB x19 (B144x35 x0 h20 x1 cl x3 kr kp)
 (B144x48 cl x1 h20 x3 kr kp)) kp)

theorem eqF144 : F144 = fun fu oR => compF Pr fu oR 144 2 := by kernel_rfl

def F145 (fu : Nat) (oR : Orc) (cl : CL) (args : List AV) (h1 : Heap) (kr : KR) (kp : KP) : Ans := AR1 args fun x0 =>
 BOX 44 x0 h1 fun x2 h3 =>
 LDN n3 x2 h3 fun x4 =>
 cl n216 [x4] h3 (fun x5 h6 =>
 cl n215 [x5] h6 (fun x9 h10 =>
 BOP Pr .quo 3 true x9 (.int .i64 (nat_lit 1000000)) fun x13 =>
 kr x13 h10) kp) kp

theorem eqF145 : F145 = fun fu oR => compF Pr fu oR 145 1 := by kernel_rfl

def F146 (fu : Nat) (oR : Orc) (cl : CL) (args : List AV) (h1 : Heap) (kr : KR) (kp : KP) : Ans := AR1 args fun x0 =>
 BOX 44 x0 h1 fun x2 h3 =>
 FA n0 x2 fun x4 =>
 LD x4 h3 fun x5 =>
 EQL Pr 3 true x5 (.int .i64 n1) fun x6 =>
 IFB x6 (FA n1 x2 fun x7 =>
 LD x7 h3 fun x8 =>
 cl n127 [x8] h3 (fun x9 h10 =>
 kr x9 h10) kp)
 (FA n2 x2 fun x13 =>
 LD x13 h3 fun x14 =>
 kr x14 h3)

theorem eqF146 : F146 = fun fu oR => compF Pr fu oR 146 1 := by kernel_rfl

def B149x53 (x11 : AV) (h30 : Heap) (cl : CL) (x0 : AV) (x18 : AV) (j37 : Heap → Ans) (kp : KP) : Ans := FA n4 x11 fun x39 =>
 LD x39 h30 fun x40 =>
 SA n1 x40 (.int .i64 n0) fun x41 =>
 LD x41 h30 fun x42 =>
 cl n89 [x0, x42] h30 (fun x43 h44 =>
 cl n145 [x43] h44 (fun x47 h48 =>
 FA n5 x18 fun x51 =>
 ST n1 x51 x47 h48 fun h52 =>
 j37  h52) kp) kp
def B149x69 (x11 : AV) (h30 : Heap) (cl : CL) (x0 : AV) (x18 : AV) (j37 : Heap → Ans) (kp : KP) : Ans := FA n4 x11 fun x55 =>
 LD x55 h30 fun x56 =>
 SA n1 x56 (.int .i64 n0) fun x57 =>
 LD x57 h30 fun x58 =>
 cl n89 [x0, x58] h30 (fun x59 h60 =>
 cl n146 [x59] h60 (fun x63 h64 =>
 FA n4 x18 fun x67 =>
 ST n1 x67 x63 h64 fun h68 =>
 j37  h68) kp) kp
def F149 (fu : Nat) (oR : Orc) (cl : CL) (args : List AV) (h2 : Heap) (kr : KR) (kp : KP) : Ans := AR2 args fun x0 x1 =>
 NEWC (.n (some (.int .i64 n0)) (.n (some (.str n0 n0)) (.n (some (.int .i64 n0)) .e .e) (.n (some (.int .i64 n0)) .e .e)) (.n (some (.str n0 n0)) (.n (some (.str n0 n0)) .e .e) .e)) n6 192 h2 fun x3 h4 =>
 NC x0 fun x5 =>
 FA n0 x5 fun x6 =>
 FA n0 x6 fun x7 =>
 LD x7 h4 fun x8 =>
 SA n5 x8 x1 fun x9 =>
 LDN n5 x9 h4 fun x10 =>
 NEWC (.n (some (.int .i64 n0)) (.n (some (.str n0 n0)) (.n (some (.int .i64 n0)) .e .e) .e) (.n (some (.str n0 n0)) (.n (some (.nilslice)) .e .e) .e)) n5 108 h4 fun x11 h12 =>
 ST n5 x11 x10 h12 fun h13 =>
 FA n0 x11 fun x14 =>
 LD x14 h13 fun x15 =>
 FA n1 x11 fun x16 =>
 LD x16 h13 fun x17 =>
 NEWC (.n (some (.int .i64 n0)) (.n (some (.str n0 n0)) (.n (some (.int .i64 n0)) .e .e) (.n (some (.int .i64 n0)) .e .e)) (.n (some (.str n0 n0)) (.n (some (.str n0 n0)) .e .e) .e)) n6 192 h13 fun x18 h19 =>
 NEWB h13 h19 fun b20 i21 h22 =>
 cl n143 [x0, x1, x17] h22 (fun x23 h24 =>
 LD x14 h24 fun x27 =>
 EQV x15 x27 <|
 OV (buildA Pr 192 [(n0, x15), (n1, x23)]) fun x28 =>
 SETB h24 i21 b20 fun h29 =>
 ST n6 x18 x28 h29 fun h30 =>
 FA n0 x11 fun x31 =>
 LD x31 h30 fun x32 =>
 JO (fun h33 =>
 LDN n6 x18 h33 fun x34 =>
 ST n6 x3 x34 h33 fun h35 =>
 LDN n6 x3 h35 fun x36 =>
 kr x36 h35) fun j37 =>
 EQL Pr 3 true x32 (.int .i64 n4) fun x38 =>
 IFB x38 (B149x53 x11 h30 cl x0 x18 j37 kp)
 (EQL Pr 3 true x32 (.int .i64 n5) fun x54 =>
 IFB x54 (B149x69 x11 h30 cl x0 x18 j37 kp)
 (j37  h30))) kp

theorem eqF149 : F149 = fun fu oR => compF Pr fu oR 149 2 := by kernel_rfl

def B150x44 (x4 : AV) (h9 : Heap) (x6 : AV) (cl : CL) (x0 : AV) (j16 : Heap → Ans) (kp : KP) : Ans := FA n1 x4 fun x26 =>
 LDN n3 x26 h9 fun x27 =>
 FA n1 x4 fun x28 =>
 LDN n3 x28 h9 fun x29 =>
 FA n4 x4 fun x30 =>
 LD x30 h9 fun x31 =>
 LDN n3 x6 h9 fun x32 =>
 cl n148 [x0, x29] h9 (fun x33 h34 =>
 LDN n3 x6 h34 fun x37 =>
 EQV x32 x37 <|
 LD x30 h34 fun x38 =>
 EQV x31 x38 <|
 LDN n3 x26 h34 fun x39 =>
 EQV x27 x39 <|
 cl n217 [x0, x27, x33, x31, x32] h34 (fun x40 h41 =>
 j16  h41) kp) kp
def F150 (fu : Nat) (oR : Orc) (cl : CL) (args : List AV) (h3 : Heap) (kr : KR) (kp : KP) : Ans := AR3 args fun x0 x1 x2 =>
 BOX 192 x1 h3 fun x4 h5 =>
 BOX 44 x2 h5 fun x6 h7 =>
 NEWC (.n (some (.int .i64 n0)) (.n (some (.int .i64 n0)) .e .e) (.n (some (.str n0 n0)) .e .e)) n3 44 h7 fun x8 h9 =>
 FA n0 x4 fun x10 =>
 LD x10 h9 fun x11 =>
 JO (fun h12 =>
 LDN n3 x6 h12 fun x13 =>
 ST n3 x8 x13 h12 fun h14 =>
 LDN n3 x8 h14 fun x15 =>
 kr x15 h14) fun j16 =>
 EQL Pr 3 true x11 (.int .i64 n4) fun x17 =>
 IFB x17 (FA n5 x4 fun x18 =>
 LD x18 h9 fun x19 =>
 LDN n3 x6 h9 fun x20 =>
 cl n219 [x0, x19, x20] h9 (fun x21 h22 =>
 j16  h22) kp)
 (EQL Pr 3 true x11 (.int .i64 n5) fun x25 =>
 IFB x25 (B150x44 x4 h9 x6 cl x0 j16 kp)
 (FA n1 x4 fun x45 =>
 LDN n3 x45 h9 fun x46 =>
 LDN n3 x6 h9 fun x47 =>
 cl n157 [x0, x46, x47] h9 (fun x48 h49 =>
 j16  h49) kp))

theorem eqF150 : F150 = fun fu oR => compF Pr fu oR 150 3 := by kernel_rfl

def B151x37 (x8 : AV) (x3 : AV) (h6 : Heap) (cl : CL) (x0 : AV) (x5 : AV) (kr : KR) (kp : KP) : Ans := EQL Pr 3 true x8 (.int .i64 n5) fun x18 =>
 IFB x18 (FA n1 x3 fun x19 =>
 LDN n3 x19 h6 fun x20 =>
 FA n4 x3 fun x21 =>
 LD x21 h6 fun x22 =>
 cl n147 [x0, x20, x22] h6 (fun x23 h24 =>
 ST n3 x5 x23 h24 fun h27 =>
 LDN n3 x5 h27 fun x28 =>
 kr x28 h27) kp)
 (FA n1 x3 fun x29 =>
 LDN n3 x29 h6 fun x30 =>
 cl n142 [x0, x30] h6 (fun x31 h32 =>
 ST n3 x5 x31 h32 fun h35 =>
 LDN n3 x5 h35 fun x36 =>
 kr x36 h35) kp)
def F151 (fu : Nat) (oR : Orc) (cl : CL) (args : List AV) (h2 : Heap) (kr : KR) (kp : KP) : Ans := AR2 args fun x0 x1 =>
 BOX 192 x1 h2 fun x3 h4 =>
 NEWC (.n (some (.int .i64 n0)) (.n (some (.int .i64 n0)) .e .e) (.n (some (.str n0 n0)) .e .e)) n3 44 h4 fun x5 h6 =>
 FA n0 x3 fun x7 =>
 LD x7 h6 fun x8 =>
 EQL Pr 3 true x8 (.int .i64 n4) fun x9 =>
 IFB x9 (FA n5 x3 fun x10 =>
 LD x10 h6 fun x11 =>
 cl n144 [x0, x11] h6 (fun x12 h13 =>
 ST n3 x5 x12 h13 fun h16 =>
 LDN n3 x5 h16 fun x17 =>
 kr x17 h16) kp)
 (B151x37 x8 x3 h6 cl x0 x5 kr kp)

theorem eqF151 : F151 = fun fu oR => compF Pr fu oR 151 2 := by kernel_rfl

def F152 (fu : Nat) (oR : Orc) (cl : CL) (args : List AV) (h3 : Heap) (kr : KR) (kp : KP) : Ans := AR3 args fun x0 x1 x2 =>
 BOX 44 x1 h3 fun x4 h5 =>
 BOX 44 x2 h5 fun x6 h7 =>
 NEWC (.n (some (.int .i64 n0)) (.n (some (.int .i64 n0)) .e .e) (.n (some (.str n0 n0)) .e .e)) n3 44 h7 fun x8 h9 =>
 LDN n3 x4 h9 fun x10 =>
 LDN n3 x6 h9 fun x11 =>
 cl n220 [x0, x10, x11] h9 (fun x12 h13 =>
 EX n0 x12 fun x16 =>
 EX n1 x12 fun x17 =>
 NEWC (.n (some (.int .i64 n0)) (.n (some (.int .i64 n0)) .e .e) (.n (some (.str n0 n0)) .e .e)) n3 44 h13 fun x18 h19 =>
 ST n3 x18 x16 h19 fun h20 =>
 JO (fun h21 =>
 LDN n3 x18 h21 fun x22 =>
 ST n3 x8 x22 h21 fun h23 =>
 LDN n3 x8 h23 fun x24 =>
 kr x24 h23) fun j25 =>
 EQL Pr 3 true x17 (.int .i64 n2) fun x26 =>
 IFB x26 (GEN (panA (.iface n85 (.int .i64 n3)) h20) cl (fun x27 h28 =>
 j25  h28) kp)
 (EQL Pr 3 true x17 (.int .i64 n1) fun x31 =>
 IFB x31 (GEN (panA (.iface n85 (.int .i64 n2)) h20) cl (fun x32 h33 =>
 j25  h33) kp)
 (j25  h20))) kp

theorem eqF152 : F152 = fun fu oR => compF Pr fu oR 152 3 := by kernel_rfl

def B157x27 (x4 : AV) (h8 : Heap) (x6 : AV) (cl : CL) (x0 : AV) (kr : KR) (kp : KP) : Ans := LDN n3 x4 h8 fun x9 =>
 LDN n3 x6 h8 fun x10 =>
 cl n210 [x0, x9] h8 (fun x11 h12 =>
 LDN n3 x6 h12 fun x15 =>
 EQV x10 x15 <|
 cl n230 [x11, x10] h12 (fun x16 h17 =>
 LDN n3 x4 h17 fun x20 =>
 FA n0 x6 fun x21 =>
 LD x21 h17 fun x22 =>
 cl n212 [x0, x20, (.int .i64 n0), x22] h17 (fun x23 h24 =>
 kr (.tuple []) h24) kp) kp) kp
def F157 (fu : Nat) (oR : Orc) (cl : CL) (args : List AV) (h3 : Heap) (kr : KR) (kp : KP) : Ans := AR3 args fun x0 x1 x2 =>
 BOX 184 x1 h3 fun x4 h5 =>
 BOX 44 x2 h5 fun x6 h7 =>
 JO (fun h8 =>
 B157x27 x4 h8 x6 cl x0 kr kp) fun j28 =>
 LDN n3 x4 h7 fun x29 =>
 cl n209 [x29] h7 (fun x30 h31 =>
 IFB x30 (GEN (panA (.iface n85 (.int .i64 n12)) h31) cl (fun x34 h35 =>
 j28  h35) kp)
 (j28  h31)) kp

theorem eqF157 : F157 = fun fu oR => compF Pr fu oR 157 3 := by kernel_rfl

def F158 (fu : Nat) (oR : Orc) (cl : CL) (args : List AV) (h2 : Heap) (kr : KR) (kp : KP) : Ans := AR2 args fun x0 x1 =>
 JO (fun h3 =>
 NC x0 fun x4 =>
 FA n12 x4 fun x5 =>
 FA n2 x5 fun x6 =>
 LD x6 h3 fun x7 =>
 ADD Pr 9 false x7 x1 fun x8 =>
 NC x0 fun x9 =>
 FA n12 x9 fun x10 =>
 FA n2 x10 fun x11 =>
 ST n1 x11 x8 h3 fun h12 =>
 kr (.tuple []) h12) fun j13 =>
 NC x0 fun x14 =>
 FA n12 x14 fun x15 =>
 FA n2 x15 fun x16 =>
 LD x16 h2 fun x17 =>
 LENT x17 fun x18 =>
 LENT x1 fun x19 =>
 ADD Pr 3 false x18 x19 fun x20 =>
 GTR Pr 3 true x20 (.int .i64 n4000) fun x21 =>
 IFB x21 (GEN (panA (.iface n85 (.int .i64 n5)) h2) cl (fun x22 h23 =>
 j13  h23) kp)
 (j13  h2)

theorem eqF158 : F158 = fun fu oR => compF Pr fu oR 158 2 := by kernel_rfl

def B159x28 (x1 : AV) (x12 : AV) (h13 : Heap) (cl : CL) (kr : KR) (j14 : AV → Heap → Ans) (kp : KP) : Ans := SA n3 x1 x12 fun x16 =>
 LDN n3 x16 h13 fun x17 =>
 NEWC (.n (some (.int .i64 n0)) (.n (some (.int .i64 n0)) .e .e) (.n (some (.str n0 n0)) .e .e)) n3 44 h13 fun x18 h19 =>
 ST n3 x18 x17 h19 fun h20 =>
 LDN n3 x18 h20 fun x21 =>
 cl n232 [x21] h20 (fun x22 h23 =>
 OV (unOpA .not x22) fun x26 =>
 IFB x26 (kr (.tuple [(.str n0 n0), (.int .i64 n1)]) h23)
 (ADD Pr 3 true x12 (.int .i64 n1) fun x27 =>
 j14 x27 h23)) kp
def B159x56 (x33 : AV) (j36 : AV → AV → Heap → Ans) (x7 : AV) (h35 : Heap) (x34 : AV) (x8 : AV) (x1 : AV) (cl : CL) (kp : KP) : Ans := JO (fun x38 h39 =>
 ADD Pr 3 true x33 (.int .i64 n1) fun x40 =>
 j36 x40 x38 h39) fun j41 =>
 SA n1 x7 x33 fun x42 =>
 LD x42 h35 fun x43 =>
 ADD Pr 9 false x34 x43 fun x44 =>
 LENS x8 fun x45 =>
 LSS Pr 3 false x33 x45 fun x46 =>
 IFB x46 (SA n3 x8 x33 fun x47 =>
 LDN n3 x47 h35 fun x48 =>
 SA n3 x1 x33 fun x49 =>
 LDN n3 x49 h35 fun x50 =>
 cl n233 [x48, x50] h35 (fun x51 h52 =>
 ADD Pr 9 false x44 x51 fun x55 =>
 j41 x55 h52) kp)
 (j41 x44 h35)
def B159x59 (x7 : AV) (fu : Nat) (x8 : AV) (x1 : AV) (cl : CL) (kp : KP) (kr : KR) (h13 : Heap) : Ans := LENS x7 fun x32 =>
 LP fu (fun _ _ _ => Ans.no) (fun j36 x33 x34 h35 =>
 LSS Pr 3 false x33 x32 fun x37 =>
 IFB x37 (B159x56 x33 j36 x7 h35 x34 x8 x1 cl kp)
 (LENT x34 fun x57 =>
 GTR Pr 3 true x57 (.int .i64 n500) fun x58 =>
 IFB x58 (kr (.tuple [(.str n0 n0), (.int .i64 n3)]) h35)
 (kr (.tuple [x34, (.int .i64 n0)]) h35))) (.int .i64 n0) (.str n0 n0) h13
def B159x60 (x1 : AV) (fu : Nat) (cl : CL) (kr : KR) (kp : KP) (x8 : AV) (x7 : AV) (h4 : Heap) : Ans := LENS x1 fun x11 =>
 LP fu (fun _ _ => Ans.no) (fun j14 x12 h13 =>
 LSS Pr 3 false x12 x11 fun x15 =>
 IFB x15 (B159x28 x1 x12 h13 cl kr j14 kp)
 (LENS x1 fun x29 =>
 LENS x8 fun x30 =>
 LSS Pr 3 false x29 x30 fun x31 =>
 IFB x31 (kr (.tuple [(.str n0 n0), (.int .i64 n2)]) h13)
 (B159x59 x7 fu x8 x1 cl kp kr h13))) (.int .i64 n0) h4
def F159 (fu : Nat) (oR : Orc) (cl : CL) (args : List AV) (h2 : Heap) (kr : KR) (kp : KP) : Ans := AR2 args fun x0 x1 =>
 cl n231 [x0] h2 (fun x3 h4 =>
 EX n0 x3 fun x7 =>
 EX n1 x3 fun x8 =>
 EX n2 x3 fun x9 =>
 OV (unOpA .not x9) fun x10 =>
 IFB x10 (kr (.tuple [(.str n0 n0), (.int .i64 n1)]) h4)
 (B159x60 x1 fu cl kr kp x8 x7 h4)) kp

theorem eqF159 : F159 = fun fu oR => compF Pr fu oR 159 2 := by kernel_rfl

def F165 (fu : Nat) (oR : Orc) (cl : CL) (args : List AV) (h1 : Heap) (kr : KR) (kp : KP) : Ans := AR1 args fun x0 =>
 cl n106 [x0] h1 (fun x2 h3 =>
 JO (fun x6 h7 =>
 JO (fun x8 h9 =>
 SEL x2 (.bool true) x8 fun x10 =>
 kr x10 h9) fun j11 =>
 GW false x2 (cl n55 [x6] h7 (fun x12 h13 =>
 j11 x12 h13) kp)
 (j11 undefA h7)) fun j16 =>
 GW false x2 (j16 x0 h3)
 (j16 undefA h3)) kp

theorem eqF165 : F165 = fun fu oR => compF Pr fu oR 165 1 := by kernel_rfl

def F166 (fu : Nat) (oR : Orc) (cl : CL) (args : List AV) (h1 : Heap) (kr : KR) (kp : KP) : Ans := AR1 args fun x0 =>
 cl n235 [] h1 (fun x2 h3 =>
 LP fu (fun _ _ => Ans.no) (fun j8 x6 h7 =>
 LENS x2 fun x9 =>
 LSS Pr 3 false x6 x9 fun x10 =>
 IFB x10 (SA n1 x2 x6 fun x11 =>
 LD x11 h7 fun x12 =>
 EQL Pr 9 false x12 x0 fun x13 =>
 IFB x13 (kr (.bool true) h7)
 (ADD Pr 3 true x6 (.int .i64 n1) fun x14 =>
 j8 x14 h7))
 (kr (.bool false) h7)) (.int .i64 n0) h3) kp

theorem eqF166 : F166 = fun fu oR => compF Pr fu oR 166 1 := by kernel_rfl

def F167 (fu : Nat) (oR : Orc) (cl : CL) (args : List AV) (h0 : Heap) (kr : KR) (kp : KP) : Ans := AR0 args <|
 BSL n9 n1 [(.str n0 n0), (.str n0 n0), (.str n0 n0), (.str n0 n0), (.str n0 n0), (.str n0 n0), (.str n0 n0), (.str n0 n0), (.str n0 n0), (.str n0 n0), (.str n0 n0), (.str n0 n0), (.str n0 n0), (.str n0 n0), (.str n0 n0), (.str n0 n0), (.str n0 n0), (.str n0 n0), (.str n0 n0), (.str n0 n0), (.str n0 n0), (.str n0 n0), (.str n0 n0), (.str n0 n0), (.str n0 n0), (.str n0 n0), (.str n0 n0)] n27 [(n0, (.str n2 n9766)), (n1, (.str n2 (nat_lit 31868))), (n2, (.str n2 (nat_lit 15677))), (n3, (.str n2 (nat_lit 15649))), (n4, (.str n2 (nat_lit 32289))), (n5, (.str n2 (nat_lit 15676))), (n6, (.str n2 (nat_lit 15659))), (n7, (.str n1 n123)), (n8, (.str n1 n125)), (n9, (.str n1 n40)), (n10, (.str n1 n41)), (n11, (.str n1 n91)), (n12, (.str n1 n93)), (n13, (.str n1 n59)), (n14, (.str n1 n44)), (n15, (.str n1 n61)), (n16, (.str n1 n33)), (n17, (.str n1 n60)), (n18, (.str n1 n43)), (n19, (.str n1 n45)), (n20, (.str n1 n42)), (n21, (.str n1 n47)), (n22, (.str n1 n37)), (n23, (.str n1 n126)), (n24, (.str n1 n63)), (n25, (.str n1 n58)), (n26, (.str n1 n36))] h0 fun x1 h2 =>
 kr x1 h2

theorem eqF167 : F167 = fun fu oR => compF Pr fu oR 167 0 := by kernel_rfl

def F168 (fu : Nat) (oR : Orc) (cl : CL) (args : List AV) (h1 : Heap) (kr : KR) (kp : KP) : Ans := AR1 args fun x0 =>
 NEWC (.n (some (.int .i64 n0)) (.n (some (.str n0 n0)) (.n (some (.int .i64 n0)) .e .e) .e) (.n (some (.int .i64 n0)) .e .e)) n4 130 h1 fun x2 h3 =>
 NC x0 fun x4 =>
 FA n1 x4 fun x5 =>
 LD x5 h3 fun x6 =>
 NC x0 fun x7 =>
 FA n0 x7 fun x8 =>
 LD x8 h3 fun x9 =>
 LENS x9 fun x10 =>
 LSS Pr 3 false x6 x10 fun x11 =>
 IFB x11 (NC x0 fun x12 =>
 FA n0 x12 fun x13 =>
 LD x13 h3 fun x14 =>
 NC x0 fun x15 =>
 FA n1 x15 fun x16 =>
 LD x16 h3 fun x17 =>
 SA n4 x14 x17 fun x18 =>
 LDN n4 x18 h3 fun x19 =>
 ST n4 x2 x19 h3 fun h20 =>
 LDN n4 x2 h20 fun x21 =>
 kr x21 h20)
 (OV (buildA Pr 130 []) fun x22 =>
 ST n4 x2 x22 h3 fun h23 =>
 LDN n4 x2 h23 fun x24 =>
 kr x24 h23)

theorem eqF168 : F168 = fun fu oR => compF Pr fu oR 168 1 := by kernel_rfl

def B169x26 (x6 : AV) (x0 : AV) (kr : KR) (cl : CL) (x7 : AV) (x9 : AV) (h10 : Heap) (kp : KP) : Ans := JO (fun x11 h12 =>
 JO (fun x13 h14 =>
 SEL x6 x13 (.bool false) fun x15 =>
 IFB x15 (NC x0 fun x16 =>
 FA n5 x16 fun x17 =>
 ST n1 x17 (.bool true) h14 fun h18 =>
 kr (.tuple []) h18)
 (kr (.tuple []) h14)) fun j19 =>
 GW true x6 (OV (unOpA .not x11) fun x20 =>
 j19 x20 h12)
 (j19 undefA h12)) fun j21 =>
 GW true x6 (cl n111 [x7, x9] h10 (fun x22 h23 =>
 j21 x22 h23) kp)
 (j21 undefA h10)
def F169 (fu : Nat) (oR : Orc) (cl : CL) (args : List AV) (h2 : Heap) (kr : KR) (kp : KP) : Ans := AR2 args fun x0 x1 =>
 NC x0 fun x3 =>
 FA n5 x3 fun x4 =>
 LD x4 h2 fun x5 =>
 OV (unOpA .not x5) fun x6 =>
 JO (fun x7 h8 =>
 JO (fun x9 h10 =>
 B169x26 x6 x0 kr cl x7 x9 h10 kp) fun j27 =>
 GW true x6 (j27 x1 h8)
 (j27 undefA h8)) fun j28 =>
 GW true x6 (j28 x0 h2)
 (j28 undefA h2)

theorem eqF169 : F169 = fun fu oR => compF Pr fu oR 169 2 := by kernel_rfl

def B171x26 (x4 : AV) (x13 : AV) (x0 : AV) (h14 : Heap) (kr : KR) : Ans := SEL x4 (.bool true) x13 fun x15 =>
 IFB x15 (NC x0 fun x16 =>
 FA n5 x16 fun x17 =>
 ST n1 x17 (.bool true) h14 fun h18 =>
 kr (.bool false) h18)
 (NC x0 fun x19 =>
 FA n2 x19 fun x20 =>
 LD x20 h14 fun x21 =>
 ADD Pr 3 true x21 (.int .i64 n1) fun x22 =>
 NC x0 fun x23 =>
 FA n2 x23 fun x24 =>
 ST n1 x24 x22 h14 fun h25 =>
 kr (.bool true) h25)
def B171x33 (x4 : AV) (x0 : AV) (kr : KR) (x7 : AV) (h8 : Heap) : Ans := JO (fun x9 h10 =>
 JO (fun x11 h12 =>
 JO (fun x13 h14 =>
 B171x26 x4 x13 x0 h14 kr) fun j27 =>
 GW false x4 (EQL Pr 3 true x11 (.int .i64 n40) fun x28 =>
 j27 x28 h12)
 (j27 undefA h12)) fun j29 =>
 GW false x4 (LD x9 h10 fun x30 =>
 j29 x30 h10)
 (j29 undefA h10)) fun j31 =>
 GW false x4 (FA n2 x7 fun x32 =>
 j31 x32 h8)
 (j31 undefA h8)
def F171 (fu : Nat) (oR : Orc) (cl : CL) (args : List AV) (h1 : Heap) (kr : KR) (kp : KP) : Ans := AR1 args fun x0 =>
 NC x0 fun x2 =>
 FA n5 x2 fun x3 =>
 LD x3 h1 fun x4 =>
 JO (fun x5 h6 =>
 JO (fun x7 h8 =>
 B171x33 x4 x0 kr x7 h8) fun j34 =>
 GW false x4 (NC x5 fun x35 =>
 j34 x35 h6)
 (j34 undefA h6)) fun j36 =>
 GW false x4 (j36 x0 h1)
 (j36 undefA h1)

theorem eqF171 : F171 = fun fu oR => compF Pr fu oR 171 1 := by kernel_rfl

def B172x30 (cl : CL) (x0 : AV) (h7 : Heap) (x2 : AV) (kr : KR) (kp : KP) : Ans := cl n114 [x0] h7 (fun x11 h12 =>
 cl n169 [x0, (.str n1 n58)] h12 (fun x15 h16 =>
 cl n114 [x0] h16 (fun x19 h20 =>
 BSL n3 n1 [(.int .i64 n0), (.int .i64 n0), (.int .i64 n0)] n3 [(n0, x2), (n1, x11), (n2, x19)] h20 fun x23 h24 =>
 OV (buildA Pr 108 [(n0, (.int .i64 n9)), (n4, x23)]) fun x25 =>
 cl n173 [x0, x25] h24 (fun x26 h27 =>
 kr x26 h27) kp) kp) kp) kp
def F172 (fu : Nat) (oR : Orc) (cl : CL) (args : List AV) (h1 : Heap) (kr : KR) (kp : KP) : Ans := AR1 args fun x0 =>
 cl n236 [x0] h1 (fun x2 h3 =>
 cl n111 [x0, (.str n1 n63)] h3 (fun x6 h7 =>
 OV (unOpA .not x6) fun x10 =>
 IFB x10 (kr x2 h7)
 (B172x30 cl x0 h7 x2 kr kp)) kp) kp

theorem eqF172 : F172 = fun fu oR => compF Pr fu oR 172 1 := by kernel_rfl

def B173x30 (x0 : AV) (h4 : Heap) (x3 : AV) (cl : CL) (kr : KR) (kp : KP) : Ans := NC x0 fun x8 =>
 FA n3 x8 fun x9 =>
 FA n0 x9 fun x10 =>
 LD x10 h4 fun x11 =>
 LDN n5 x3 h4 fun x12 =>
 BSL n108 n5 [(.int .i64 n0), (.str n0 n0), (.str n0 n0), (.int .i64 n0), (.nilslice)] n1 [(n0, x12)] h4 fun x13 h14 =>
 LD x10 h14 fun x15 =>
 EQV x11 x15 <|
 GEN (builtinF .append Pr [30, 30] [x11, x13] h14) cl (fun x16 h17 =>
 NC x0 fun x20 =>
 FA n3 x20 fun x21 =>
 FA n0 x21 fun x22 =>
 ST n1 x22 x16 h17 fun h23 =>
 NC x0 fun x24 =>
 FA n3 x24 fun x25 =>
 FA n0 x25 fun x26 =>
 LD x26 h23 fun x27 =>
 LENS x27 fun x28 =>
 SUB Pr 3 true x28 (.int .i64 n1) fun x29 =>
 kr x29 h23) kp
def F173 (fu : Nat) (oR : Orc) (cl : CL) (args : List AV) (h2 : Heap) (kr : KR) (kp : KP) : Ans := AR2 args fun x0 x1 =>
 BOX 108 x1 h2 fun x3 h4 =>
 NC x0 fun x5 =>
 FA n5 x5 fun x6 =>
 LD x6 h4 fun x7 =>
 IFB x7 (kr (.int .i64 n0) h4)
 (B173x30 x0 h4 x3 cl kr kp)

theorem eqF173 : F173 = fun fu oR => compF Pr fu oR 173 2 := by kernel_rfl

def B174x60 (cl : CL) (x0 : AV) (h34 : Heap) (j16 : AV → Heap → Ans) (kp : KP) : Ans := cl n169 [x0, (.str n1 n40)] h34 (fun x37 h38 =>
 cl n114 [x0] h38 (fun x41 h42 =>
 cl n169 [x0, (.str n1 n41)] h42 (fun x45 h46 =>
 cl n174 [x0] h46 (fun x49 h50 =>
 BSL n3 n1 [(.int .i64 n0), (.int .i64 n0)] n2 [(n0, x41), (n1, x49)] h50 fun x53 h54 =>
 OV (buildA Pr 108 [(n0, (.int .i64 n44)), (n4, x53)]) fun x55 =>
 cl n173 [x0, x55] h54 (fun x56 h57 =>
 j16 x56 h57) kp) kp) kp) kp) kp
def B174x73 (cl : CL) (x0 : AV) (h26 : Heap) (j16 : AV → Heap → Ans) (kp : KP) : Ans := cl n111 [x0, (.str n5 (nat_lit 435610544247))] h26 (fun x33 h34 =>
 IFB x33 (B174x60 cl x0 h34 j16 kp)
 (cl n111 [x0, (.str n3 (nat_lit 7499622))] h34 (fun x61 h62 =>
 IFB x61 (cl n238 [x0] h62 (fun x65 h66 =>
 j16 x65 h66) kp)
 (cl n239 [x0] h62 (fun x69 h70 =>
 j16 x69 h70) kp)) kp)) kp
def B174x74 (x0 : AV) (kr : KR) (cl : CL) (h3 : Heap) (kp : KP) : Ans := JO (fun x7 h8 =>
 NC x0 fun x9 =>
 FA n2 x9 fun x10 =>
 LD x10 h8 fun x11 =>
 SUB Pr 3 true x11 (.int .i64 n1) fun x12 =>
 NC x0 fun x13 =>
 FA n2 x13 fun x14 =>
 ST n1 x14 x12 h8 fun h15 =>
 kr x7 h15) fun j16 =>
 cl n113 [x0, (.str n1 n123)] h3 (fun x17 h18 =>
 IFB x17 (cl n115 [x0] h18 (fun x21 h22 =>
 j16 x21 h22) kp)
 (cl n111 [x0, (.str n2 (nat_lit 26217))] h18 (fun x25 h26 =>
 IFB x25 (cl n237 [x0] h26 (fun x29 h30 =>
 j16 x29 h30) kp)
 (B174x73 cl x0 h26 j16 kp)) kp)) kp
def F174 (fu : Nat) (oR : Orc) (cl : CL) (args : List AV) (h1 : Heap) (kr : KR) (kp : KP) : Ans := AR1 args fun x0 =>
 cl n171 [x0] h1 (fun x2 h3 =>
 OV (unOpA .not x2) fun x6 =>
 IFB x6 (kr (.int .i64 n0) h3)
 (B174x74 x0 kr cl h3 kp)) kp

theorem eqF174 : F174 = fun fu oR => compF Pr fu oR 174 1 := by kernel_rfl

def B175x45 (x29 : AV) (x0 : AV) (x4 : AV) (h30 : Heap) (x5 : AV) (cl : CL) (j14 : AV → Heap → Ans) (kp : KP) : Ans := IFB x29 (SAT x0 x4 fun x31 =>
 BSL n5 n1 [(.int .u8 n0), (.int .u8 n0)] n2 [(n0, (.int .u8 n92)), (n1, x31)] h30 fun x32 h33 =>
 GEN (builtinF .append Pr [22, 22] [x5, x32] h33) cl (fun x34 h35 =>
 j14 x34 h35) kp)
 (SAT x0 x4 fun x38 =>
 BSL n5 n1 [(.int .u8 n0)] n1 [(n0, x38)] h30 fun x39 h40 =>
 GEN (builtinF .append Pr [22, 22] [x5, x39] h40) cl (fun x41 h42 =>
 j14 x41 h42) kp)
def B175x49 (x10 : AV) (h6 : Heap) (x5 : AV) (cl : CL) (j14 : AV → Heap → Ans) (kp : KP) (x0 : AV) (x4 : AV) : Ans := EQL Pr 5 true x10 (.int .u8 n9) fun x22 =>
 IFB x22 (BSL n5 n1 [(.int .u8 n0), (.int .u8 n0)] n2 [(n0, (.int .u8 n92)), (n1, (.int .u8 n116))] h6 fun x23 h24 =>
 GEN (builtinF .append Pr [22, 22] [x5, x23] h24) cl (fun x25 h26 =>
 j14 x25 h26) kp)
 (JO (fun x29 h30 =>
 B175x45 x29 x0 x4 h30 x5 cl j14 kp) fun j46 =>
 EQL Pr 5 true x10 (.int .u8 n34) fun x47 =>
 IFB x47 (j46 x47 h6)
 (EQL Pr 5 true x10 (.int .u8 n92) fun x48 =>
 j46 x48 h6))
def B175x50 (x0 : AV) (x4 : AV) (j7 : AV → AV → Heap → Ans) (h6 : Heap) (x5 : AV) (cl : CL) (kp : KP) : Ans := SAT x0 x4 fun x10 =>
 JO (fun x11 h12 =>
 ADD Pr 3 true x4 (.int .i64 n1) fun x13 =>
 j7 x13 x11 h12) fun j14 =>
 EQL Pr 5 true x10 (.int .u8 n10) fun x15 =>
 IFB x15 (BSL n5 n1 [(.int .u8 n0), (.int .u8 n0)] n2 [(n0, (.int .u8 n92)), (n1, (.int .u8 n110))] h6 fun x16 h17 =>
 GEN (builtinF .append Pr [22, 22] [x5, x16] h17) cl (fun x18 h19 =>
 j14 x18 h19) kp)
 (B175x49 x10 h6 x5 cl j14 kp x0 x4)
def B175x58 (x0 : AV) (x4 : AV) (j7 : AV → AV → Heap → Ans) (h6 : Heap) (x5 : AV) (cl : CL) (kp : KP) (kr : KR) : Ans := LENT x0 fun x8 =>
 LSS Pr 3 false x4 x8 fun x9 =>
 IFB x9 (B175x50 x0 x4 j7 h6 x5 cl kp)
 (BSL n5 n1 [(.int .u8 n0)] n1 [(n0, (.int .u8 n34))] h6 fun x51 h52 =>
 GEN (builtinF .append Pr [22, 22] [x5, x51] h52) cl (fun x53 h54 =>
 OV (convV Pr h54 22 9 x53) fun x57 =>
 kr x57 h54) kp)
def F175 (fu : Nat) (oR : Orc) (cl : CL) (args : List AV) (h1 : Heap) (kr : KR) (kp : KP) : Ans := AR1 args fun x0 =>
 BSL n5 n1 [(.int .u8 n0)] n1 [(n0, (.int .u8 n34))] h1 fun x2 h3 =>
 LP fu (fun _ _ _ => Ans.no) (fun j7 x4 x5 h6 =>
 B175x58 x0 x4 j7 h6 x5 cl kp kr) (.int .i64 n0) x2 h3

theorem eqF175 : F175 = fun fu oR => compF Pr fu oR 175 1 := by kernel_rfl

def B176x24 (x3 : AV) (h12 : Heap) (x1 : AV) (x5 : AV) (cl : CL) (x11 : AV) (kr : KR) (j8 : AV → AV → Heap → Ans) (kp : KP) : Ans := LDN n2 x3 h12 fun x13 =>
 SA n1 x1 x5 fun x14 =>
 LD x14 h12 fun x15 =>
 cl n116 [x13, x15] h12 (fun x16 h17 =>
 ADD Pr 9 false x11 x16 fun x20 =>
 LENT x20 fun x21 =>
 GTR Pr 3 true x21 (.int .i64 (nat_lit 16000)) fun x22 =>
 IFB x22 (kr x20 h17)
 (ADD Pr 3 true x5 (.int .i64 n1) fun x23 =>
 j8 x23 x20 h17)) kp
def F176 (fu : Nat) (oR : Orc) (cl : CL) (args : List AV) (h2 : Heap) (kr : KR) (kp : KP) : Ans := AR2 args fun x0 x1 =>
 BOX 33 x0 h2 fun x3 h4 =>
 LP fu (fun _ _ _ => Ans.no) (fun j8 x5 x6 h7 =>
 LENS x1 fun x9 =>
 LSS Pr 3 false x5 x9 fun x10 =>
 IFB x10 (JO (fun x11 h12 =>
 B176x24 x3 h12 x1 x5 cl x11 kr j8 kp) fun j25 =>
 GTR Pr 3 true x5 (.int .i64 n0) fun x26 =>
 IFB x26 (ADD Pr 9 true x6 (.str n2 n8236) fun x27 =>
 j25 x27 h7)
 (j25 x6 h7))
 (kr x6 h7)) (.int .i64 n0) (.str n0 n0) h4

theorem eqF176 : F176 = fun fu oR => compF Pr fu oR 176 2 := by kernel_rfl

def B178x9 (h1 : Heap) (x0 : AV) (kr : KR) : Ans := BSL n9 n1 [(.str n0 n0), (.str n0 n0), (.str n0 n0), (.str n0 n0), (.str n0 n0), (.str n0 n0), (.str n0 n0), (.str n0 n0), (.str n0 n0), (.str n0 n0), (.str n0 n0), (.str n0 n0), (.str n0 n0), (.str n0 n0), (.str n0 n0)] n15 [(n0, (.str n2 (nat_lit 31868))), (n1, (.str n2 n9766)), (n2, (.str n1 n33)), (n3, (.str n1 n126)), (n4, (.str n2 (nat_lit 32289))), (n5, (.str n1 n60)), (n6, (.str n2 (nat_lit 15676))), (n7, (.str n2 (nat_lit 15677))), (n8, (.str n2 (nat_lit 15649))), (n9, (.str n0 n0)), (n10, (.str n1 n43)), (n11, (.str n1 n45)), (n12, (.str n1 n42)), (n13, (.str n1 n47)), (n14, (.str n1 n37))] h1 fun x4 h5 =>
 SUB Pr 3 true x0 (.int .i64 n10) fun x6 =>
 SA n1 x4 x6 fun x7 =>
 LD x7 h5 fun x8 =>
 kr x8 h5
def F178 (fu : Nat) (oR : Orc) (cl : CL) (args : List AV) (h1 : Heap) (kr : KR) (kp : KP) : Ans := AR1 args fun x0 =>
 EQL Pr 3 true x0 (.int .i64 n7) fun x2 =>
 IFB x2 (kr (.str n1 n61) h1)
 (EQL Pr 3 true x0 (.int .i64 n8) fun x3 =>
 IFB x3 (kr (.str n2 (nat_lit 15659)) h1)
 (B178x9 h1 x0 kr))

theorem eqF178 : F178 = fun fu oR => compF Pr fu oR 178 1 := by kernel_rfl

def F179 (fu : Nat) (oR : Orc) (cl : CL) (args : List AV) (h3 : Heap) (kr : KR) (kp : KP) : Ans := AR3 args fun x0 x1 x2 =>
 BOX 33 x0 h3 fun x4 h5 =>
 LENS x2 fun x6 =>
 EQL Pr 3 true x6 (.int .i64 n0) fun x7 =>
 IFB x7 (ADD Pr 9 true x1 (.str n1 n59) fun x8 =>
 kr x8 h5)
 (ADD Pr 9 true x1 (.str n1 n32) fun x9 =>
 LDN n2 x4 h5 fun x10 =>
 cl n176 [x10, x2] h5 (fun x11 h12 =>
 ADD Pr 9 false x9 x11 fun x15 =>
 ADD Pr 9 true x15 (.str n1 n59) fun x16 =>
 kr x16 h12) kp)

theorem eqF179 : F179 = fun fu oR => compF Pr fu oR 179 3 := by kernel_rfl

def B183x112 (x97 : AV) (x102 : AV) (x0 : AV) (x65 : AV) (cl : CL) (x1 : AV) (h103 : Heap) (kr : KR) (kp : KP) (j41 : AV → AV → Heap → Ans) (x66 : AV) : Ans := SEL x97 x102 (.bool false) fun x104 =>
 IFB x104 (OV (sliceA Pr 9 x0 (some x65) none none) fun x105 =>
 cl n244 [x105, x1] h103 (fun x106 h107 =>
 LSS Pr 3 true x106 (.int .i64 n0) fun x110 =>
 IFB x110 (kr (.int .i64 (nat_lit 18446744073709551615)) h107)
 (ADD Pr 3 false x65 x106 fun x111 =>
 kr x111 h107)) kp)
 (j41 x66 x65 h103)
def B183x117 (x86 : AV) (x95 : AV) (x0 : AV) (x65 : AV) (cl : CL) (x1 : AV) (kr : KR) (kp : KP) (j41 : AV → AV → Heap → Ans) (x66 : AV) (x37 : AV) (h96 : Heap) : Ans := SEL x86 x95 (.bool false) fun x97 =>
 JO (fun x98 h99 =>
 JO (fun x100 h101 =>
 JO (fun x102 h103 =>
 B183x112 x97 x102 x0 x65 cl x1 h103 kr kp j41 x66) fun j113 =>
 GW true x97 (LSS Pr 3 false x98 x100 fun x114 =>
 j113 x114 h101)
 (j113 undefA h101)) fun j115 =>
 GW true x97 (j115 x37 h99)
 (j115 undefA h99)) fun j116 =>
 GW true x97 (j116 x65 h96)
 (j116 undefA h96)
def B183x124 (x86 : AV) (x0 : AV) (x65 : AV) (cl : CL) (x1 : AV) (kr : KR) (kp : KP) (j41 : AV → AV → Heap → Ans) (x66 : AV) (x37 : AV) (x87 : AV) (x89 : AV) (h90 : Heap) : Ans := JO (fun x91 h92 =>
 JO (fun x93 h94 =>
 JO (fun x95 h96 =>
 B183x117 x86 x95 x0 x65 cl x1 kr kp j41 x66 x37 h96) fun j118 =>
 GW true x86 (GEQ Pr 3 false x87 x93 fun x119 =>
 j118 x119 h94)
 (j118 undefA h94)) fun j120 =>
 GW true x86 (ADD Pr 3 true (.int .i64 n4) x91 fun x121 =>
 j120 x121 h92)
 (j120 undefA h92)) fun j122 =>
 GW true x86 (BOP Pr .shr 3 true x89 (.int .u64 n4) fun x123 =>
 j122 x123 h90)
 (j122 undefA h90)
def B183x127 (x68 : AV) (x75 : AV) (x0 : AV) (x65 : AV) (h76 : Heap) (x1 : AV) (cl : CL) (kr : KR) (kp : KP) (x3 : AV) (j41 : AV → AV → Heap → Ans) (x66 : AV) (x37 : AV) : Ans := SEL x68 x75 (.bool false) fun x77 =>
 IFB x77 (OV (sliceA Pr 9 x0 (some x65) none none) fun x78 =>
 GEN (callF Pr h76 242 [x78, x1]) cl (fun x79 h80 =>
 GEQ Pr 3 true x79 (.int .i64 n0) fun x83 =>
 IFB x83 (ADD Pr 3 false x79 x65 fun x84 =>
 kr x84 h80)
 (kr (.int .i64 (nat_lit 18446744073709551615)) h80)) kp)
 (LD (.ptr n0 n0) h76 fun x85 =>
 GTR Pr 3 false x3 x85 fun x86 =>
 JO (fun x87 h88 =>
 JO (fun x89 h90 =>
 B183x124 x86 x0 x65 cl x1 kr kp j41 x66 x37 x87 x89 h90) fun j125 =>
 GW true x86 (j125 x65 h88)
 (j125 undefA h88)) fun j126 =>
 GW true x86 (j126 x66 h76)
 (j126 undefA h76))
def B183x136 (x68 : AV) (x0 : AV) (x65 : AV) (x1 : AV) (cl : CL) (kr : KR) (kp : KP) (x3 : AV) (j41 : AV → AV → Heap → Ans) (x66 : AV) (x37 : AV) (x69 : AV) (h70 : Heap) : Ans := JO (fun x71 h72 =>
 JO (fun x73 h74 =>
 JO (fun x75 h76 =>
 B183x127 x68 x75 x0 x65 h76 x1 cl kr kp x3 j41 x66 x37) fun j128 =>
 GW true x68 (GTR Pr 3 false x69 x73 fun x129 =>
 j128 x129 h74)
 (j128 undefA h74)) fun j130 =>
 GW true x68 (cl n243 [x71] h72 (fun x131 h132 =>
 j130 x131 h132) kp)
 (j130 undefA h72)) fun j135 =>
 GW true x68 (j135 x65 h70)
 (j135 undefA h70)
def B183x138 (x43 : AV) (x38 : AV) (h63 : Heap) (x3 : AV) (x0 : AV) (x1 : AV) (cl : CL) (kr : KR) (kp : KP) (j41 : AV → AV → Heap → Ans) (x37 : AV) : Ans := ADD Pr 3 true x43 (.int .i64 n1) fun x65 =>
 ADD Pr 3 true x38 (.int .i64 n1) fun x66 =>
 LD (.ptr n0 n0) h63 fun x67 =>
 LEQ Pr 3 false x3 x67 fun x68 =>
 JO (fun x69 h70 =>
 B183x136 x68 x0 x65 x1 cl kr kp x3 j41 x66 x37 x69 h70) fun j137 =>
 GW true x68 (j137 x66 h63)
 (j137 undefA h63)
def B183x144 (x47 : AV) (kr : KR) (x43 : AV) (x38 : AV) (x3 : AV) (x0 : AV) (x1 : AV) (cl : CL) (kp : KP) (j41 : AV → AV → Heap → Ans) (x37 : AV) (x48 : AV) (x50 : AV) (x56 : AV) (h57 : Heap) : Ans := JO (fun x58 h59 =>
 JO (fun x60 h61 =>
 JO (fun x62 h63 =>
 SEL x47 x62 (.bool false) fun x64 =>
 IFB x64 (kr x43 h63)
 (B183x138 x43 x38 h63 x3 x0 x1 cl kr kp j41 x37)) fun j139 =>
 GW true x47 (EQL Pr 9 false x58 x60 fun x140 =>
 j139 x140 h61)
 (j139 undefA h61)) fun j141 =>
 GW true x47 (j141 x1 h59)
 (j141 undefA h59)) fun j142 =>
 GW true x47 (OV (sliceA Pr 9 x48 (some x50) (some x56) none) fun x143 =>
 j142 x143 h57)
 (j142 undefA h57)
def B183x149 (x47 : AV) (kr : KR) (x43 : AV) (x38 : AV) (x3 : AV) (x0 : AV) (x1 : AV) (cl : CL) (kp : KP) (j41 : AV → AV → Heap → Ans) (x37 : AV) (x48 : AV) (x50 : AV) (h51 : Heap) : Ans := JO (fun x52 h53 =>
 JO (fun x54 h55 =>
 JO (fun x56 h57 =>
 B183x144 x47 kr x43 x38 x3 x0 x1 cl kp j41 x37 x48 x50 x56 h57) fun j145 =>
 GW true x47 (ADD Pr 3 false x52 x54 fun x146 =>
 j145 x146 h55)
 (j145 undefA h55)) fun j147 =>
 GW true x47 (j147 x3 h53)
 (j147 undefA h53)) fun j148 =>
 GW true x47 (j148 x43 h51)
 (j148 undefA h51)
def B183x152 (x43 : AV) (x0 : AV) (x34 : AV) (kr : KR) (x38 : AV) (x3 : AV) (x1 : AV) (cl : CL) (kp : KP) (j41 : AV → AV → Heap → Ans) (x37 : AV) (h44 : Heap) : Ans := ADD Pr 3 true x43 (.int .i64 n1) fun x45 =>
 SAT x0 x45 fun x46 =>
 EQL Pr 5 false x46 x34 fun x47 =>
 JO (fun x48 h49 =>
 JO (fun x50 h51 =>
 B183x149 x47 kr x43 x38 x3 x0 x1 cl kp j41 x37 x48 x50 h51) fun j150 =>
 GW true x47 (j150 x43 h49)
 (j150 undefA h49)) fun j151 =>
 GW true x47 (j151 x0 h44)
 (j151 undefA h44)
def B183x165 (x39 : AV) (x0 : AV) (x37 : AV) (cl : CL) (x33 : AV) (h40 : Heap) (kr : KR) (j153 : AV → Heap → Ans) (kp : KP) : Ans := ADD Pr 3 true x39 (.int .i64 n1) fun x156 =>
 OV (sliceA Pr 9 x0 (some x156) (some x37) none) fun x157 =>
 cl n241 [x157, x33] h40 (fun x158 h159 =>
 LSS Pr 3 true x158 (.int .i64 n0) fun x162 =>
 IFB x162 (kr (.int .i64 (nat_lit 18446744073709551615)) h159)
 (ADD Pr 3 true x158 (.int .i64 n1) fun x163 =>
 ADD Pr 3 false x39 x163 fun x164 =>
 j153 x164 h159)) kp
def B183x166 (x39 : AV) (x37 : AV) (x0 : AV) (x34 : AV) (kr : KR) (x38 : AV) (x3 : AV) (x1 : AV) (cl : CL) (kp : KP) (j41 : AV → AV → Heap → Ans) (x33 : AV) (h40 : Heap) : Ans := LSS Pr 3 false x39 x37 fun x42 =>
 IFB x42 (JO (fun x43 h44 =>
 B183x152 x43 x0 x34 kr x38 x3 x1 cl kp j41 x37 h44) fun j153 =>
 SAT x0 x39 fun x154 =>
 NEQ Pr 5 false x154 x33 fun x155 =>
 IFB x155 (B183x165 x39 x0 x37 cl x33 h40 kr j153 kp)
 (j153 x39 h40))
 (kr (.int .i64 (nat_lit 18446744073709551615)) h40)
def B183x167 (x1 : AV) (x0 : AV) (x3 : AV) (fu : Nat) (kr : KR) (cl : CL) (kp : KP) (h27 : Heap) : Ans := SAT x1 (.int .i64 n0) fun x33 =>
 SAT x1 (.int .i64 n1) fun x34 =>
 LENT x0 fun x35 =>
 SUB Pr 3 false x35 x3 fun x36 =>
 ADD Pr 3 true x36 (.int .i64 n1) fun x37 =>
 LP fu (fun _ _ _ => Ans.no) (fun j41 x38 x39 h40 =>
 B183x166 x39 x37 x0 x34 kr x38 x3 x1 cl kp j41 x33 h40) (.int .i64 n0) (.int .i64 n0) h27
def B183x172 (x21 : AV) (x0 : AV) (x1 : AV) (cl : CL) (kr : KR) (kp : KP) (x3 : AV) (fu : Nat) (x22 : AV) (h23 : Heap) : Ans := JO (fun x24 h25 =>
 JO (fun x26 h27 =>
 SEL x21 x26 (.bool false) fun x28 =>
 IFB x28 (GEN (callF Pr h27 242 [x0, x1]) cl (fun x29 h30 =>
 kr x29 h30) kp)
 (B183x167 x1 x0 x3 fu kr cl kp h27)) fun j168 =>
 GW true x21 (LEQ Pr 3 true x24 (.int .i64 n64) fun x169 =>
 j168 x169 h25)
 (j168 undefA h25)) fun j170 =>
 GW true x21 (LENT x22 fun x171 =>
 j170 x171 h23)
 (j170 undefA h23)
def B183x174 (x0 : AV) (x3 : AV) (kr : KR) (h10 : Heap) (x1 : AV) (cl : CL) (kp : KP) (fu : Nat) : Ans := LENT x0 fun x18 =>
 GEQ Pr 3 false x3 x18 fun x19 =>
 IFB x19 (kr (.int .i64 (nat_lit 18446744073709551615)) h10)
 (LD (.ptr n0 n0) h10 fun x20 =>
 LEQ Pr 3 false x3 x20 fun x21 =>
 JO (fun x22 h23 =>
 B183x172 x21 x0 x1 cl kr kp x3 fu x22 h23) fun j173 =>
 GW true x21 (j173 x0 h10)
 (j173 undefA h10))
def B183x177 (x4 : AV) (kr : KR) (x3 : AV) (x1 : AV) (cl : CL) (x0 : AV) (kp : KP) (fu : Nat) (x5 : AV) (x7 : AV) (h8 : Heap) : Ans := JO (fun x9 h10 =>
 SEL x4 (.bool true) x9 fun x11 =>
 IFB x11 (kr (.int .i64 n0) h10)
 (EQL Pr 3 true x3 (.int .i64 n1) fun x12 =>
 IFB x12 (SAT x1 (.int .i64 n0) fun x13 =>
 cl n241 [x0, x13] h10 (fun x14 h15 =>
 kr x14 h15) kp)
 (B183x174 x0 x3 kr h10 x1 cl kp fu))) fun j175 =>
 GW false x4 (EQL Pr 9 false x5 x7 fun x176 =>
 j175 x176 h8)
 (j175 undefA h8)
def F183 (fu : Nat) (oR : Orc) (cl : CL) (args : List AV) (h2 : Heap) (kr : KR) (kp : KP) : Ans := AR2 args fun x0 x1 =>
 LENT x1 fun x3 =>
 EQL Pr 3 true x3 (.int .i64 n0) fun x4 =>
 JO (fun x5 h6 =>
 JO (fun x7 h8 =>
 B183x177 x4 kr x3 x1 cl x0 kp fu x5 x7 h8) fun j178 =>
 GW false x4 (j178 x0 h6)
 (j178 undefA h6)) fun j179 =>
 GW false x4 (j179 x1 h2)
 (j179 undefA h2)

theorem eqF183 : F183 = fun fu oR => compF Pr fu oR 183 2 := by kernel_rfl

def F184 (fu : Nat) (oR : Orc) (cl : CL) (args : List AV) (h1 : Heap) (kr : KR) (kp : KP) : Ans := AR1 args fun x0 =>
 NC x0 fun x2 =>
 FA n0 x2 fun x3 =>
 LD x3 h1 fun x4 =>
 EQL Pr 98 true x4 (.nilp) fun x5 =>
 IFB x5 (OV (convV Pr h1 98 252 x0) fun x6 =>
 GEN (callF Pr h1 245 [x6]) cl (fun x7 h8 =>
 OV (convV Pr h8 252 98 x7) fun x11 =>
 NC x0 fun x12 =>
 FA n0 x12 fun x13 =>
 ST n1 x13 x11 h8 fun h14 =>
 kr (.tuple []) h14) kp)
 (NC x0 fun x15 =>
 FA n0 x15 fun x16 =>
 LD x16 h1 fun x17 =>
 NEQ Pr 98 false x17 x0 fun x18 =>
 IFB x18 (Ans.no)
 (kr (.tuple []) h1))

theorem eqF184 : F184 = fun fu oR => compF Pr fu oR 184 1 := by kernel_rfl

def F185 (fu : Nat) (oR : Orc) (cl : CL) (args : List AV) (h1 : Heap) (kr : KR) (kp : KP) : Ans := AR1 args fun x0 =>
 cl n24 [x0, (.int .i64 (nat_lit 18446735073709551616)), (.int .i64 (nat_lit 9000000000000))] h1 (fun x2 h3 =>
 kr x2 h3) kp

theorem eqF185 : F185 = fun fu oR => compF Pr fu oR 185 1 := by kernel_rfl

def F186 (fu : Nat) (oR : Orc) (cl : CL) (args : List AV) (h1 : Heap) (kr : KR) (kp : KP) : Ans := AR1 args fun x0 =>
 cl n246 [x0] h1 (fun x2 h3 =>
 kr x2 h3) kp

theorem eqF186 : F186 = fun fu oR => compF Pr fu oR 186 1 := by kernel_rfl

def B187x40 (cl : CL) (x1 : AV) (h16 : Heap) (x0 : AV) (kr : KR) (kp : KP) : Ans := cl n248 [x1] h16 (fun x23 h24 =>
 EX n0 x23 fun x27 =>
 EX n1 x23 fun x28 =>
 NEWC (.n (some (.bool false)) (.n (some (.bool false)) (.n (some (.bool false)) (.n (some (.bool false)) (.n (some (.bool false)) (.n (some (.bool false)) (.n (some (.bool false)) (.n (some (.bool false)) (.n (some (.bool false)) .e .e) .e) (.n (some (.bool false)) .e .e)) (.n (some (.bool false)) (.n (some (.bool false)) .e .e) (.n (some (.bool false)) .e .e))) (.n (some (.bool false)) (.n (some (.bool false)) (.n (some (.bool false)) .e .e) (.n (some (.bool false)) .e .e)) (.n (some (.bool false)) (.n (some (.bool false)) .e .e) (.n (some (.bool false)) .e .e)))) (.n (some (.bool false)) (.n (some (.bool false)) (.n (some (.bool false)) (.n (some (.bool false)) .e .e) (.n (some (.bool false)) .e .e)) (.n (some (.bool false)) (.n (some (.bool false)) .e .e) (.n (some (.bool false)) .e .e))) (.n (some (.bool false)) (.n (some (.bool false)) (.n (some (.bool false)) .e .e) (.n (some (.bool false)) .e .e)) (.n (some (.bool false)) (.n (some (.bool false)) .e .e) (.n (some (.bool false)) .e .e))))) (.n (some (.bool false)) (.n (some (.bool false)) (.n (some (.bool false)) (.n (some (.bool false)) (.n (some (.bool false)) .e .e) (.n (some (.bool false)) .e .e)) (.n (some (.bool false)) (.n (some (.bool false)) .e .e) (.n (some (.bool false)) .e .e))) (.n (some (.bool false)) (.n (some (.bool false)) (.n (some (.bool false)) .e .e) (.n (some (.bool false)) .e .e)) (.n (some (.bool false)) (.n (some (.bool false)) .e .e) (.n (some (.bool false)) .e .e)))) (.n (some (.bool false)) (.n (some (.bool false)) (.n (some (.bool false)) (.n (some (.bool false)) .e .e) (.n (some (.bool false)) .e .e)) (.n (some (.bool false)) (.n (some (.bool false)) .e .e) (.n (some (.bool false)) .e .e))) (.n (some (.bool false)) (.n (some (.bool false)) (.n (some (.bool false)) .e .e) (.n (some (.bool false)) .e .e)) (.n (some (.bool false)) (.n (some (.bool false)) .e .e) (.n (some (.bool false)) .e .e)))))) (.n (some (.bool false)) (.n (some (.bool false)) (.n (some (.bool false)) (.n (some (.bool false)) (.n (some (.bool false)) (.n (some (.bool false)) .e .e) (.n (some (.bool false)) .e .e)) (.n (some (.bool false)) (.n (some (.bool false)) .e .e) (.n (some (.bool false)) .e .e))) (.n (some (.bool false)) (.n (some (.bool false)) (.n (some (.bool false)) .e .e) (.n (some (.bool false)) .e .e)) (.n (some (.bool false)) (.n (some (.bool false)) .e .e) (.n (some (.bool false)) .e .e)))) (.n (some (.bool false)) (.n (some (.bool false)) (.n (some (.bool false)) (.n (some (.bool false)) .e .e) (.n (some (.bool false)) .e .e)) (.n (some (.bool false)) (.n (some (.bool false)) .e .e) (.n (some (.bool false)) .e .e))) (.n (some (.bool false)) (.n (some (.bool false)) (.n (some (.bool false)) .e .e) (.n (some (.bool false)) .e .e)) (.n (some (.bool false)) (.n (some (.bool false)) .e .e) (.n (some (.bool false)) .e .e))))) (.n (some (.bool false)) (.n (some (.bool false)) (.n (some (.bool false)) (.n (some (.bool false)) (.n (some (.bool false)) .e .e) (.n (some (.bool false)) .e .e)) (.n (some (.bool false)) (.n (some (.bool false)) .e .e) (.n (some (.bool false)) .e .e))) (.n (some (.bool false)) (.n (some (.bool false)) (.n (some (.bool false)) .e .e) (.n (some (.bool false)) .e .e)) (.n (some (.bool false)) (.n (some (.bool false)) .e .e) (.n (some (.bool false)) .e .e)))) (.n (some (.bool false)) (.n (some (.bool false)) (.n (some (.bool false)) (.n (some (.bool false)) .e .e) (.n (some (.bool false)) .e .e)) (.n (some (.bool false)) (.n (some (.bool false)) .e .e) (.n (some (.bool false)) .e .e))) (.n (some (.bool false)) (.n (some (.bool false)) (.n (some (.bool false)) .e .e) (.n (some (.bool false)) .e .e)) (.n (some (.bool false)) (.n (some (.bool false)) .e .e) (.n (some (.bool false)) .e .e))))))) (.n (some (.bool false)) (.n (some (.bool false)) (.n (some (.bool false)) (.n (some (.bool false)) (.n (some (.bool false)) (.n (some (.bool false)) (.n (some (.bool false)) .e .e) (.n (some (.bool false)) .e .e)) (.n (some (.bool false)) (.n (some (.bool false)) .e .e) (.n (some (.bool false)) .e .e))) (.n (some (.bool false)) (.n (some (.bool false)) (.n (some (.bool false)) .e .e) (.n (some (.bool false)) .e .e)) (.n (some (.bool false)) (.n (some (.bool false)) .e .e) (.n (some (.bool false)) .e .e)))) (.n (some (.bool false)) (.n (some (.bool false)) (.n (some (.bool false)) (.n (some (.bool false)) .e .e) (.n (some (.bool false)) .e .e)) (.n (some (.bool false)) (.n (some (.bool false)) .e .e) (.n (some (.bool false)) .e .e))) (.n (some (.bool false)) (.n (some (.bool false)) (.n (some (.bool false)) .e .e) (.n (some (.bool false)) .e .e)) (.n (some (.bool false)) (.n (some (.bool false)) .e .e) (.n (some (.bool false)) .e .e))))) (.n (some (.bool false)) (.n (some (.bool false)) (.n (some (.bool false)) (.n (some (.bool false)) (.n (some (.bool false)) .e .e) (.n (some (.bool false)) .e .e)) (.n (some (.bool false)) (.n (some (.bool false)) .e .e) (.n (some (.bool false)) .e .e))) (.n (some (.bool false)) (.n (some (.bool false)) (.n (some (.bool false)) .e .e) (.n (some (.bool false)) .e .e)) (.n (some (.bool false)) (.n (some (.bool false)) .e .e) (.n (some (.bool false)) .e .e)))) (.n (some (.bool false)) (.n (some (.bool false)) (.n (some (.bool false)) (.n (some (.bool false)) .e .e) (.n (some (.bool false)) .e .e)) (.n (some (.bool false)) (.n (some (.bool false)) .e .e) (.n (some (.bool false)) .e .e))) (.n (some (.bool false)) (.n (some (.bool false)) (.n (some (.bool false)) .e .e) (.n (some (.bool false)) .e .e)) (.n (some (.bool false)) (.n (some (.bool false)) .e .e) (.n (some (.bool false)) .e .e)))))) (.n (some (.bool false)) (.n (some (.bool false)) (.n (some (.bool false)) (.n (some (.bool false)) (.n (some (.bool false)) (.n (some (.bool false)) .e .e) (.n (some (.bool false)) .e .e)) (.n (some (.bool false)) (.n (some (.bool false)) .e .e) (.n (some (.bool false)) .e .e))) (.n (some (.bool false)) (.n (some (.bool false)) (.n (some (.bool false)) .e .e) (.n (some (.bool false)) .e .e)) (.n (some (.bool false)) (.n (some (.bool false)) .e .e) (.n (some (.bool false)) .e .e)))) (.n (some (.bool false)) (.n (some (.bool false)) (.n (some (.bool false)) (.n (some (.bool false)) .e .e) (.n (some (.bool false)) .e .e)) (.n (some (.bool false)) (.n (some (.bool false)) .e .e) (.n (some (.bool false)) .e .e))) (.n (some (.bool false)) (.n (some (.bool false)) (.n (some (.bool false)) .e .e) (.n (some (.bool false)) .e .e)) (.n (some (.bool false)) (.n (some (.bool false)) .e .e) (.n (some (.bool false)) .e .e))))) (.n (some (.bool false)) (.n (some (.bool false)) (.n (some (.bool false)) (.n (some (.bool false)) (.n (some (.bool false)) .e .e) (.n (some (.bool false)) .e .e)) (.n (some (.bool false)) (.n (some (.bool false)) .e .e) (.n (some (.bool false)) .e .e))) (.n (some (.bool false)) (.n (some (.bool false)) (.n (some (.bool false)) .e .e) (.n (some (.bool false)) .e .e)) (.n (some (.bool false)) (.n (some (.bool false)) .e .e) (.n (some (.bool false)) .e .e)))) (.n (some (.bool false)) (.n (some (.bool false)) (.n (some (.bool false)) (.n (some (.bool false)) .e .e) (.n (some (.bool false)) .e .e)) (.n (some (.bool false)) (.n (some (.bool false)) .e .e) (.n (some (.bool false)) .e .e))) (.n (some (.bool false)) (.n (some (.bool false)) (.n (some (.bool false)) .e .e) (.n (some (.bool false)) .e .e)) (.n (some (.bool false)) (.n (some (.bool false)) .e .e) (.n (some (.bool false)) .e .e)))))))) n256 256 h24 fun x29 h30 =>
 ST n256 x29 x27 h30 fun h31 =>
 IFB x28 (cl n249 [x0, x29] h31 (fun x32 h33 =>
 kr x32 h33) kp)
 (cl n250 [x0, x1] h31 (fun x36 h37 =>
 kr x36 h37) kp)) kp
def B187x43 (x10 : AV) (x1 : AV) (cl : CL) (x0 : AV) (kr : KR) (kp : KP) (x13 : AV) (h14 : Heap) : Ans := JO (fun x15 h16 =>
 SEL x10 x15 (.bool false) fun x17 =>
 IFB x17 (SAT x1 (.int .i64 n0) fun x18 =>
 cl n247 [x0, x18] h16 (fun x19 h20 =>
 kr x19 h20) kp)
 (B187x40 cl x1 h16 x0 kr kp)) fun j41 =>
 GW true x10 (LSS Pr 5 true x13 (.int .u8 n128) fun x42 =>
 j41 x42 h14)
 (j41 undefA h14)
def B187x47 (x3 : AV) (x6 : AV) (kr : KR) (x0 : AV) (h7 : Heap) (x1 : AV) (cl : CL) (kp : KP) : Ans := SEL x3 (.bool true) x6 fun x8 =>
 IFB x8 (kr x0 h7)
 (LENT x1 fun x9 =>
 EQL Pr 3 true x9 (.int .i64 n1) fun x10 =>
 JO (fun x11 h12 =>
 JO (fun x13 h14 =>
 B187x43 x10 x1 cl x0 kr kp x13 h14) fun j44 =>
 GW true x10 (SAT x11 (.int .i64 n0) fun x45 =>
 j44 x45 h12)
 (j44 undefA h12)) fun j46 =>
 GW true x10 (j46 x1 h7)
 (j46 undefA h7))
def F187 (fu : Nat) (oR : Orc) (cl : CL) (args : List AV) (h2 : Heap) (kr : KR) (kp : KP) : Ans := AR2 args fun x0 x1 =>
 EQL Pr 9 true x0 (.str n0 n0) fun x3 =>
 JO (fun x4 h5 =>
 JO (fun x6 h7 =>
 B187x47 x3 x6 kr x0 h7 x1 cl kp) fun j48 =>
 GW false x3 (EQL Pr 9 true x4 (.str n0 n0) fun x49 =>
 j48 x49 h5)
 (j48 undefA h5)) fun j50 =>
 GW false x3 (j50 x1 h2)
 (j50 undefA h2)

theorem eqF187 : F187 = fun fu oR => compF Pr fu oR 187 2 := by kernel_rfl

def F188 (fu : Nat) (oR : Orc) (cl : CL) (args : List AV) (h2 : Heap) (kr : KR) (kp : KP) : Ans := AR2 args fun x0 x1 =>
 cl n241 [x0, x1] h2 (fun x3 h4 =>
 kr x3 h4) kp

theorem eqF188 : F188 = fun fu oR => compF Pr fu oR 188 2 := by kernel_rfl

def F189 (fu : Nat) (oR : Orc) (cl : CL) (args : List AV) (h2 : Heap) (kr : KR) (kp : KP) : Ans := AR2 args fun x0 x1 =>
 NC x0 fun x3 =>
 FA n1 x3 fun x4 =>
 LD x4 h2 fun x5 =>
 OPV (builtinF .cap Pr [22] [x5] h2) fun x6 =>
 BOP Pr .mul 3 true (.int .i64 n2) x6 fun x7 =>
 ADD Pr 3 false x7 x1 fun x8 =>
 NC x0 fun x9 =>
 FA n1 x9 fun x10 =>
 LD x10 h2 fun x11 =>
 LENS x11 fun x12 =>
 GEN (callF Pr h2 251 [x8]) cl (fun x13 h14 =>
 LD x10 h14 fun x17 =>
 EQV x11 x17 <|
 OV (sliceA Pr 22 x13 none (some x12) none) fun x18 =>
 NC x0 fun x19 =>
 FA n1 x19 fun x20 =>
 LD x20 h14 fun x21 =>
 GEN (builtinF .copy Pr [22, 22] [x18, x21] h14) cl (fun x22 h23 =>
 NC x0 fun x26 =>
 FA n1 x26 fun x27 =>
 ST n1 x27 x18 h23 fun h28 =>
 kr (.tuple []) h28) kp) kp

theorem eqF189 : F189 = fun fu oR => compF Pr fu oR 189 2 := by kernel_rfl

def F190 (fu : Nat) (oR : Orc) (cl : CL) (args : List AV) (h1 : Heap) (kr : KR) (kp : KP) : Ans := AR1 args fun x0 =>
 GEQ Pr 5 true x0 (.int .u8 n48) fun x2 =>
 JO (fun x3 h4 =>
 JO (fun x5 h6 =>
 SEL x2 x5 (.bool false) fun x7 =>
 kr x7 h6) fun j8 =>
 GW true x2 (LEQ Pr 5 true x3 (.int .u8 n57) fun x9 =>
 j8 x9 h4)
 (j8 undefA h4)) fun j10 =>
 GW true x2 (j10 x0 h1)
 (j10 undefA h1)

theorem eqF190 : F190 = fun fu oR => compF Pr fu oR 190 1 := by kernel_rfl

def B191x44 (x28 : AV) (x31 : AV) (h33 : Heap) (x32 : AV) (j34 : AV → AV → Heap → Ans) : Ans := SA n1 x28 x31 fun x36 =>
 LD x36 h33 fun x37 =>
 BOP Pr .mul 3 true x32 (.int .i64 n10) fun x38 =>
 SUB Pr 5 true x37 (.int .u8 n48) fun x39 =>
 OV (convV Pr h33 5 3 x39) fun x40 =>
 ADD Pr 3 false x38 x40 fun x41 =>
 OPV (builtinF .min Pr [3, 3] [x41, (.int .i64 (nat_lit 9000000000001))] h33) fun x42 =>
 ADD Pr 3 true x31 (.int .i64 n1) fun x43 =>
 j34 x43 x42 h33
def B191x50 (x16 : AV) (x14 : AV) (h23 : Heap) (fu : Nat) (kr : KR) (x17 : AV) (x6 : AV) : Ans := ADD Pr 9 true x16 (.str n6 (nat_lit 52983525027888)) fun x25 =>
 OV (sliceA Pr 9 x25 none (some (.int .i64 n6)) none) fun x26 =>
 ADD Pr 9 false x14 x26 fun x27 =>
 OVH (convB Pr h23 22 x27) fun x28 h29 =>
 LENS x28 fun x30 =>
 LP fu (fun _ _ _ => Ans.no) (fun j34 x31 x32 h33 =>
 LSS Pr 3 false x31 x30 fun x35 =>
 IFB x35 (B191x44 x28 x31 h33 x32 j34)
 (OPV (builtinF .min Pr [3, 3] [x32, (.int .i64 (nat_lit 9000000000000))] h33) fun x45 =>
 JO (fun x46 h47 =>
 kr (.tuple [x46, x17]) h47) fun j48 =>
 IFB x6 (OV (unOpA .neg x45) fun x49 =>
 j48 x49 h33)
 (j48 x45 h33))) (.int .i64 n0) (.int .i64 n0) h29
def B191x54 (x14 : AV) (kr : KR) (x16 : AV) (fu : Nat) (x17 : AV) (x6 : AV) (h18 : Heap) : Ans := EQL Pr 9 true x14 (.str n0 n0) fun x19 =>
 JO (fun x20 h21 =>
 JO (fun x22 h23 =>
 SEL x19 x22 (.bool false) fun x24 =>
 IFB x24 (kr (.tuple [(.int .i64 n0), (.int .i64 n0)]) h23)
 (B191x50 x16 x14 h23 fu kr x17 x6)) fun j51 =>
 GW true x19 (EQL Pr 9 true x20 (.str n0 n0) fun x52 =>
 j51 x52 h21)
 (j51 undefA h21)) fun j53 =>
 GW true x19 (j53 x16 h18)
 (j53 undefA h18)
def B191x80 (x15 : AV) (x68 : AV) (x0 : AV) (j55 : AV → AV → Heap → Ans) (h69 : Heap) : Ans := ADD Pr 3 true x15 (.int .i64 n1) fun x74 =>
 ADD Pr 3 true x15 (.int .i64 n1) fun x75 =>
 ADD Pr 3 false x75 x68 fun x76 =>
 OV (sliceA Pr 9 x0 (some x74) (some x76) none) fun x77 =>
 ADD Pr 3 true (.int .i64 n1) x68 fun x78 =>
 ADD Pr 3 false x15 x78 fun x79 =>
 j55 x77 x79 h69
def B191x81 (x57 : AV) (x64 : AV) (x15 : AV) (cl : CL) (x0 : AV) (h65 : Heap) (x9 : AV) (j55 : AV → AV → Heap → Ans) (kp : KP) : Ans := SEL x57 x64 (.bool false) fun x66 =>
 IFB x66 (ADD Pr 3 true x15 (.int .i64 n1) fun x67 =>
 cl n133 [x0, x67, (.func (.func 190) [] [])] h65 (fun x68 h69 =>
 ADD Pr 3 false x9 x68 fun x72 =>
 GTR Pr 3 true x72 (.int .i64 n0) fun x73 =>
 IFB x73 (B191x80 x15 x68 x0 j55 h69)
 (j55 (.str n0 n0) x15 h69)) kp)
 (j55 (.str n0 n0) x15 h65)
def B191x87 (x57 : AV) (x15 : AV) (cl : CL) (x0 : AV) (x9 : AV) (j55 : AV → AV → Heap → Ans) (kp : KP) (x58 : AV) (h59 : Heap) : Ans := JO (fun x60 h61 =>
 JO (fun x62 h63 =>
 JO (fun x64 h65 =>
 B191x81 x57 x64 x15 cl x0 h65 x9 j55 kp) fun j82 =>
 GW true x57 (EQL Pr 5 true x62 (.int .u8 n46) fun x83 =>
 j82 x83 h63)
 (j82 undefA h63)) fun j84 =>
 GW true x57 (SAT x58 x60 fun x85 =>
 j84 x85 h61)
 (j84 undefA h61)) fun j86 =>
 GW true x57 (j86 x15 h59)
 (j86 undefA h59)
def B191x89 (cl : CL) (x0 : AV) (x7 : AV) (h8 : Heap) (kr : KR) (fu : Nat) (x6 : AV) (kp : KP) : Ans := cl n133 [x0, x7, (.func (.func 190) [] [])] h8 (fun x9 h10 =>
 ADD Pr 3 false x7 x9 fun x13 =>
 OV (sliceA Pr 9 x0 (some x7) (some x13) none) fun x14 =>
 ADD Pr 3 false x7 x9 fun x15 =>
 JO (fun x16 x17 h18 =>
 B191x54 x14 kr x16 fu x17 x6 h18) fun j55 =>
 LENT x0 fun x56 =>
 LSS Pr 3 false x15 x56 fun x57 =>
 JO (fun x58 h59 =>
 B191x87 x57 x15 cl x0 x9 j55 kp x58 h59) fun j88 =>
 GW true x57 (j88 x0 h10)
 (j88 undefA h10)) kp
def B191x119 (x92 : AV) (x0 : AV) (x2 : AV) (j90 : AV → AV → Heap → Ans) (x101 : AV) (x109 : AV) (h110 : Heap) : Ans := JO (fun x111 h112 =>
 SEL x92 x111 (.bool false) fun x113 =>
 IFB x113 (SAT x0 x2 fun x114 =>
 EQL Pr 5 true x114 (.int .u8 n45) fun x115 =>
 ADD Pr 3 true x2 (.int .i64 n1) fun x116 =>
 j90 x115 x116 h112)
 (j90 (.bool false) x2 h112)) fun j117 =>
 GW true x92 (SEL x101 (.bool true) x109 fun x118 =>
 j117 x118 h110)
 (j117 undefA h110)
def B191x125 (x92 : AV) (x0 : AV) (x2 : AV) (j90 : AV → AV → Heap → Ans) (x101 : AV) (x103 : AV) (h104 : Heap) : Ans := JO (fun x105 h106 =>
 JO (fun x107 h108 =>
 JO (fun x109 h110 =>
 B191x119 x92 x0 x2 j90 x101 x109 h110) fun j120 =>
 GW false x101 (EQL Pr 5 true x107 (.int .u8 n45) fun x121 =>
 j120 x121 h108)
 (j120 undefA h108)) fun j122 =>
 GW false x101 (SAT x103 x105 fun x123 =>
 j122 x123 h106)
 (j122 undefA h106)) fun j124 =>
 GW false x101 (j124 x2 h104)
 (j124 undefA h104)
def B191x130 (x92 : AV) (x0 : AV) (x2 : AV) (j90 : AV → AV → Heap → Ans) (x97 : AV) (h98 : Heap) : Ans := JO (fun x99 h100 =>
 JO (fun x101 h102 =>
 JO (fun x103 h104 =>
 B191x125 x92 x0 x2 j90 x101 x103 h104) fun j126 =>
 GW false x101 (j126 x0 h102)
 (j126 undefA h102)) fun j127 =>
 GW true x92 (j127 x99 h100)
 (j127 undefA h100)) fun j128 =>
 GW true x92 (EQL Pr 5 true x97 (.int .u8 n43) fun x129 =>
 j128 x129 h98)
 (j128 undefA h98)
def F191 (fu : Nat) (oR : Orc) (cl : CL) (args : List AV) (h1 : Heap) (kr : KR) (kp : KP) : Ans := AR1 args fun x0 =>
 cl n133 [x0, (.int .i64 n0), (.func (.func 132) [] [])] h1 (fun x2 h3 =>
 JO (fun x6 x7 h8 =>
 B191x89 cl x0 x7 h8 kr fu x6 kp) fun j90 =>
 LENT x0 fun x91 =>
 LSS Pr 3 false x2 x91 fun x92 =>
 JO (fun x93 h94 =>
 JO (fun x95 h96 =>
 JO (fun x97 h98 =>
 B191x130 x92 x0 x2 j90 x97 h98) fun j131 =>
 GW true x92 (SAT x93 x95 fun x132 =>
 j131 x132 h96)
 (j131 undefA h96)) fun j133 =>
 GW true x92 (j133 x2 h94)
 (j133 undefA h94)) fun j134 =>
 GW true x92 (j134 x0 h3)
 (j134 undefA h3)) kp

theorem eqF191 : F191 = fun fu oR => compF Pr fu oR 191 1 := by kernel_rfl

def B192x37 (x0 : AV) (x27 : AV) (cl : CL) (h6 : Heap) (kr : KR) (j21 : AV → AV → Heap → Ans) (kp : KP) : Ans := SAT x0 x27 fun x30 =>
 cl n188 [(.str n4 (nat_lit 1545761902)), x30] h6 (fun x31 h32 =>
 LSS Pr 3 true x31 (.int .i64 n0) fun x35 =>
 IFB x35 (kr (.tuple [(.str n0 n0), (.int .i64 n0)]) h32)
 (SAT (.str n4 (nat_lit 1545734410)) x31 fun x36 =>
 j21 x36 x27 h32)) kp
def B192x38 (x10 : AV) (x4 : AV) (x0 : AV) (kr : KR) (h6 : Heap) (cl : CL) (j21 : AV → AV → Heap → Ans) (kp : KP) : Ans := EQL Pr 5 true x10 (.int .u8 n92) fun x26 =>
 IFB x26 (ADD Pr 3 true x4 (.int .i64 n1) fun x27 =>
 LENT x0 fun x28 =>
 GEQ Pr 3 false x27 x28 fun x29 =>
 IFB x29 (kr (.tuple [(.str n0 n0), (.int .i64 n0)]) h6)
 (B192x37 x0 x27 cl h6 kr j21 kp))
 (j21 x10 x4 h6)
def B192x39 (x0 : AV) (x4 : AV) (x5 : AV) (cl : CL) (j7 : AV → AV → Heap → Ans) (kp : KP) (h6 : Heap) (kr : KR) : Ans := SAT x0 x4 fun x10 =>
 JO (fun x11 x12 h13 =>
 BSL n5 n1 [(.int .u8 n0)] n1 [(n0, x11)] h13 fun x14 h15 =>
 GEN (builtinF .append Pr [22, 22] [x5, x14] h15) cl (fun x16 h17 =>
 ADD Pr 3 true x12 (.int .i64 n1) fun x20 =>
 j7 x20 x16 h17) kp) fun j21 =>
 EQL Pr 5 true x10 (.int .u8 n34) fun x22 =>
 IFB x22 (OV (convV Pr h6 22 9 x5) fun x23 =>
 ADD Pr 3 true x4 (.int .i64 n1) fun x24 =>
 kr (.tuple [x23, x24]) h6)
 (EQL Pr 5 true x10 (.int .u8 n10) fun x25 =>
 IFB x25 (kr (.tuple [(.str n0 n0), (.int .i64 n0)]) h6)
 (B192x38 x10 x4 x0 kr h6 cl j21 kp))
def F192 (fu : Nat) (oR : Orc) (cl : CL) (args : List AV) (h1 : Heap) (kr : KR) (kp : KP) : Ans := AR1 args fun x0 =>
 BSL n5 n1 [] n0 [] h1 fun x2 h3 =>
 LP fu (fun _ _ _ => Ans.no) (fun j7 x4 x5 h6 =>
 LENT x0 fun x8 =>
 LSS Pr 3 false x4 x8 fun x9 =>
 IFB x9 (B192x39 x0 x4 x5 cl j7 kp h6 kr)
 (kr (.tuple [(.str n0 n0), (.int .i64 n0)]) h6)) (.int .i64 n1) x2 h3

theorem eqF192 : F192 = fun fu oR => compF Pr fu oR 192 1 := by kernel_rfl

def B195x31 (x7 : AV) (kr : KR) (x0 : AV) (x12 : AV) (x16 : AV) (h17 : Heap) : Ans := JO (fun x18 h19 =>
 SEL x7 (.bool true) x18 fun x20 =>
 JO (fun x21 h22 =>
 JO (fun x23 h24 =>
 SEL x20 (.bool true) x23 fun x25 =>
 kr x25 h24) fun j26 =>
 GW false x20 (EQL Pr 5 true x21 (.int .u8 n95) fun x27 =>
 j26 x27 h22)
 (j26 undefA h22)) fun j28 =>
 GW false x20 (j28 x0 h19)
 (j28 undefA h19)) fun j29 =>
 GW false x7 (SEL x12 x16 (.bool false) fun x30 =>
 j29 x30 h17)
 (j29 undefA h17)
def B195x36 (x7 : AV) (kr : KR) (x0 : AV) (x10 : AV) (h11 : Heap) : Ans := JO (fun x12 h13 =>
 JO (fun x14 h15 =>
 JO (fun x16 h17 =>
 B195x31 x7 kr x0 x12 x16 h17) fun j32 =>
 GW true x12 (LEQ Pr 5 true x14 (.int .u8 n122) fun x33 =>
 j32 x33 h15)
 (j32 undefA h15)) fun j34 =>
 GW true x12 (j34 x0 h13)
 (j34 undefA h13)) fun j35 =>
 GW false x7 (j35 x10 h11)
 (j35 undefA h11)
def B195x42 (x2 : AV) (kr : KR) (x0 : AV) (x3 : AV) (h4 : Heap) : Ans := JO (fun x5 h6 =>
 SEL x2 x5 (.bool false) fun x7 =>
 JO (fun x8 h9 =>
 JO (fun x10 h11 =>
 B195x36 x7 kr x0 x10 h11) fun j37 =>
 GW false x7 (GEQ Pr 5 true x8 (.int .u8 n97) fun x38 =>
 j37 x38 h9)
 (j37 undefA h9)) fun j39 =>
 GW false x7 (j39 x0 h6)
 (j39 undefA h6)) fun j40 =>
 GW true x2 (LEQ Pr 5 true x3 (.int .u8 n90) fun x41 =>
 j40 x41 h4)
 (j40 undefA h4)
def F195 (fu : Nat) (oR : Orc) (cl : CL) (args : List AV) (h1 : Heap) (kr : KR) (kp : KP) : Ans := AR1 args fun x0 =>
 GEQ Pr 5 true x0 (.int .u8 n65) fun x2 =>
 JO (fun x3 h4 =>
 B195x42 x2 kr x0 x3 h4) fun j43 =>
 GW true x2 (j43 x0 h1)
 (j43 undefA h1)

theorem eqF195 : F195 = fun fu oR => compF Pr fu oR 195 1 := by kernel_rfl

def F196 (fu : Nat) (oR : Orc) (cl : CL) (args : List AV) (h1 : Heap) (kr : KR) (kp : KP) : Ans := AR1 args fun x0 =>
 cl n195 [x0] h1 (fun x2 h3 =>
 JO (fun x6 h7 =>
 JO (fun x8 h9 =>
 SEL x2 (.bool true) x8 fun x10 =>
 kr x10 h9) fun j11 =>
 GW false x2 (cl n190 [x6] h7 (fun x12 h13 =>
 j11 x12 h13) kp)
 (j11 undefA h7)) fun j16 =>
 GW false x2 (j16 x0 h3)
 (j16 undefA h3)) kp

theorem eqF196 : F196 = fun fu oR => compF Pr fu oR 196 1 := by kernel_rfl

def F197 (fu : Nat) (oR : Orc) (cl : CL) (args : List AV) (h1 : Heap) (kr : KR) (kp : KP) : Ans := AR1 args fun x0 =>
 cl n252 [] h1 (fun x2 h3 =>
 cl n213 [x2, x0] h3 (fun x6 h7 =>
 kr x6 h7) kp) kp

theorem eqF197 : F197 = fun fu oR => compF Pr fu oR 197 1 := by kernel_rfl

def F198 (fu : Nat) (oR : Orc) (cl : CL) (args : List AV) (h2 : Heap) (kr : KR) (kp : KP) : Ans := AR2 args fun x0 x1 =>
 cl n253 [x0, x1] h2 (fun x3 h4 =>
 kr x3 h4) kp

theorem eqF198 : F198 = fun fu oR => compF Pr fu oR 198 2 := by kernel_rfl

def F199 (fu : Nat) (oR : Orc) (cl : CL) (args : List AV) (h2 : Heap) (kr : KR) (kp : KP) : Ans := AR2 args fun x0 x1 =>
 cl n254 [x0, (.int .i64 n0)] h2 (fun x3 h4 =>
 cl n255 [x3, (.int .i64 n6), x1] h4 (fun x7 h8 =>
 kr x7 h8) kp) kp

theorem eqF199 : F199 = fun fu oR => compF Pr fu oR 199 2 := by kernel_rfl

def F200 (fu : Nat) (oR : Orc) (cl : CL) (args : List AV) (h1 : Heap) (kr : KR) (kp : KP) : Ans := AR1 args fun x0 =>
 NEWC (.n (some (.int .i64 n0)) (.n (some (.str n0 n0)) (.n (some (.int .i64 n0)) .e .e) .e) (.n (some (.int .i64 n0)) .e .e)) n4 130 h1 fun x2 h3 =>
 cl n254 [x0, (.int .i64 n0)] h3 (fun x4 h5 =>
 NEWC (.n (some (.int .i64 n0)) (.n (some (.str n0 n0)) (.n (some (.int .i64 n0)) .e .e) .e) (.n (some (.int .i64 n0)) .e .e)) n4 130 h5 fun x8 h9 =>
 ST n4 x8 x4 h9 fun h10 =>
 NC x0 fun x11 =>
 FA n1 x11 fun x12 =>
 LD x12 h10 fun x13 =>
 ADD Pr 3 true x13 (.int .i64 n1) fun x14 =>
 NC x0 fun x15 =>
 FA n1 x15 fun x16 =>
 ST n1 x16 x14 h10 fun h17 =>
 LDN n4 x8 h17 fun x18 =>
 ST n4 x2 x18 h17 fun h19 =>
 LDN n4 x2 h19 fun x20 =>
 kr x20 h19) kp

theorem eqF200 : F200 = fun fu oR => compF Pr fu oR 200 1 := by kernel_rfl

def F202 (fu : Nat) (oR : Orc) (cl : CL) (args : List AV) (h2 : Heap) (kr : KR) (kp : KP) : Ans := AR2 args fun x0 x1 =>
 JO (fun h3 =>
 NC x0 fun x4 =>
 FA n1 x4 fun x5 =>
 LD x5 h3 fun x6 =>
 ADD Pr 3 true x6 (.int .i64 n1) fun x7 =>
 NC x0 fun x8 =>
 FA n1 x8 fun x9 =>
 ST n1 x9 x7 h3 fun h10 =>
 kr (.tuple []) h10) fun j11 =>
 BSL n9 n1 [(.str n0 n0)] n1 [(n0, x1)] h2 fun x12 h13 =>
 cl n203 [x0, x12] h13 (fun x14 h15 =>
 OV (unOpA .not x14) fun x18 =>
 IFB x18 (cl n256 [x0] h15 (fun x19 h20 =>
 j11  h20) kp)
 (j11  h15)) kp

theorem eqF202 : F202 = fun fu oR => compF Pr fu oR 202 2 := by kernel_rfl

def F203 (fu : Nat) (oR : Orc) (cl : CL) (args : List AV) (h2 : Heap) (kr : KR) (kp : KP) : Ans := AR2 args fun x0 x1 =>
 cl n254 [x0, (.int .i64 n0)] h2 (fun x3 h4 =>
 cl n255 [x3, (.int .i64 n7), x1] h4 (fun x7 h8 =>
 kr x7 h8) kp) kp

theorem eqF203 : F203 = fun fu oR => compF Pr fu oR 203 2 := by kernel_rfl

def F204 (fu : Nat) (oR : Orc) (cl : CL) (args : List AV) (h1 : Heap) (kr : KR) (kp : KP) : Ans := AR1 args fun x0 =>
 BOX 138 x0 h1 fun x2 h3 =>
 LD x2 h3 fun x4 =>
 cl n257 [x4, (.func (.func 258) [] [x2])] h3 (fun x5 h6 =>
 kr x5 h6) kp

theorem eqF204 : F204 = fun fu oR => compF Pr fu oR 204 1 := by kernel_rfl

def B205x39 (h9 : Heap) (cl : CL) (x0 : AV) (x8 : AV) (j10 : AV → Heap → Ans) (kp : KP) (kr : KR) : Ans := BSL n9 n1 [(.str n0 n0)] n1 [(n0, (.str n1 n125))] h9 fun x11 h12 =>
 cl n203 [x0, x11] h12 (fun x13 h14 =>
 OV (unOpA .not x13) fun x17 =>
 IFB x17 (cl n261 [x0] h14 (fun x18 h19 =>
 BSL n3 n1 [(.int .i64 n0)] n1 [(n0, x18)] h19 fun x22 h23 =>
 GEN (builtinF .append Pr [106, 106] [x8, x22] h23) cl (fun x24 h25 =>
 j10 x24 h25) kp) kp)
 (NC x0 fun x28 =>
 FA n1 x28 fun x29 =>
 LD x29 h14 fun x30 =>
 ADD Pr 3 true x30 (.int .i64 n1) fun x31 =>
 NC x0 fun x32 =>
 FA n1 x32 fun x33 =>
 ST n1 x33 x31 h14 fun h34 =>
 cl n260 [x0, (.int .i64 n53), x8] h34 (fun x35 h36 =>
 kr x35 h36) kp)) kp
def F205 (fu : Nat) (oR : Orc) (cl : CL) (args : List AV) (h1 : Heap) (kr : KR) (kp : KP) : Ans := AR1 args fun x0 =>
 cl n202 [x0, (.str n1 n123)] h1 (fun x2 h3 =>
 BSL n3 n1 [] n0 [] h3 fun x6 h7 =>
 LP fu (fun _ _ => Ans.no) (fun j10 x8 h9 =>
 B205x39 h9 cl x0 x8 j10 kp kr) x6 h7) kp

theorem eqF205 : F205 = fun fu oR => compF Pr fu oR 205 1 := by kernel_rfl

def F206 (fu : Nat) (oR : Orc) (cl : CL) (args : List AV) (h1 : Heap) (kr : KR) (kp : KP) : Ans := AR1 args fun x0 =>
 NEWC (.n (some (.int .i64 n0)) (.n (some (.int .i64 n0)) .e .e) (.n (some (.str n0 n0)) .e .e)) n3 44 h1 fun x2 h3 =>
 BOP Pr .mul 3 true x0 (.int .i64 (nat_lit 1000000)) fun x4 =>
 OV (buildA Pr 44 [(n0, (.int .i64 n1)), (n1, x4)]) fun x5 =>
 ST n3 x2 x5 h3 fun h6 =>
 LDN n3 x2 h6 fun x7 =>
 kr x7 h6

theorem eqF206 : F206 = fun fu oR => compF Pr fu oR 206 1 := by kernel_rfl

def B209x30 (x6 : AV) (kr : KR) (x13 : AV) (x15 : AV) (h16 : Heap) : Ans := JO (fun x17 h18 =>
 JO (fun x19 h20 =>
 JO (fun x21 h22 =>
 SEL x6 x21 (.bool false) fun x23 =>
 kr x23 h22) fun j24 =>
 GW true x6 (SEL x13 (.bool true) x19 fun x25 =>
 j24 x25 h20)
 (j24 undefA h20)) fun j26 =>
 GW false x13 (EQL Pr 9 true x17 (.str n2 (nat_lit 17998)) fun x27 =>
 j26 x27 h18)
 (j26 undefA h18)) fun j28 =>
 GW false x13 (LD x15 h16 fun x29 =>
 j28 x29 h16)
 (j28 undefA h16)
def B209x36 (x6 : AV) (kr : KR) (x2 : AV) (x9 : AV) (h10 : Heap) : Ans := JO (fun x11 h12 =>
 JO (fun x13 h14 =>
 JO (fun x15 h16 =>
 B209x30 x6 kr x13 x15 h16) fun j31 =>
 GW false x13 (FA n1 x2 fun x32 =>
 j31 x32 h14)
 (j31 undefA h14)) fun j33 =>
 GW true x6 (j33 x11 h12)
 (j33 undefA h12)) fun j34 =>
 GW true x6 (EQL Pr 9 true x9 (.str n2 (nat_lit 21070)) fun x35 =>
 j34 x35 h10)
 (j34 undefA h10)
def F209 (fu : Nat) (oR : Orc) (cl : CL) (args : List AV) (h1 : Heap) (kr : KR) (kp : KP) : Ans := AR1 args fun x0 =>
 BOX 184 x0 h1 fun x2 h3 =>
 FA n0 x2 fun x4 =>
 LD x4 h3 fun x5 =>
 EQL Pr 9 true x5 (.str n0 n0) fun x6 =>
 JO (fun x7 h8 =>
 JO (fun x9 h10 =>
 B209x36 x6 kr x2 x9 h10) fun j37 =>
 GW true x6 (LD x7 h8 fun x38 =>
 j37 x38 h8)
 (j37 undefA h8)) fun j39 =>
 GW true x6 (FA n1 x2 fun x40 =>
 j39 x40 h3)
 (j39 undefA h3)

theorem eqF209 : F209 = fun fu oR => compF Pr fu oR 209 1 := by kernel_rfl

def B210x25 (x3 : AV) (x8 : AV) (kr : KR) (h9 : Heap) : Ans := JO (fun h10 =>
 FA n1 x3 fun x11 =>
 LD x11 h10 fun x12 =>
 OV (lookupA Pr h10 55 x8 x12 false) fun x13 =>
 kr x13 h10) fun j14 =>
 FA n1 x3 fun x15 =>
 LD x15 h9 fun x16 =>
 OV (lookupA Pr h9 55 x8 x16 false) fun x17 =>
 EQL Pr 230 true x17 (.nilp) fun x18 =>
 IFB x18 (FA n1 x3 fun x19 =>
 LD x19 h9 fun x20 =>
 OV (buildA Pr 272 []) fun x21 =>
 BOX 272 x21 h9 fun x22 h23 =>
 OSK (mapUpdateA Pr h23 55 x8 x20 x22) fun h24 =>
 j14  h24)
 (j14  h9)
def F210 (fu : Nat) (oR : Orc) (cl : CL) (args : List AV) (h2 : Heap) (kr : KR) (kp : KP) : Ans := AR2 args fun x0 x1 =>
 BOX 184 x1 h2 fun x3 h4 =>
 NC x0 fun x5 =>
 FA n3 x5 fun x6 =>
 LD x6 h4 fun x7 =>
 JO (fun x8 h9 =>
 B210x25 x3 x8 kr h9) fun j26 =>
 FA n0 x3 fun x27 =>
 LD x27 h4 fun x28 =>
 NEQ Pr 9 true x28 (.str n0 n0) fun x29 =>
 IFB x29 (NC x0 fun x30 =>
 FA n4 x30 fun x31 =>
 LD x31 h4 fun x32 =>
 NC x0 fun x33 =>
 FA n4 x33 fun x34 =>
 LD x34 h4 fun x35 =>
 LENS x35 fun x36 =>
 SUB Pr 3 true x36 (.int .i64 n1) fun x37 =>
 SA n1 x32 x37 fun x38 =>
 LD x38 h4 fun x39 =>
 j26 x39 h4)
 (j26 x7 h4)

theorem eqF210 : F210 = fun fu oR => compF Pr fu oR 210 2 := by kernel_rfl

def F211 (fu : Nat) (oR : Orc) (cl : CL) (args : List AV) (h1 : Heap) (kr : KR) (kp : KP) : Ans := AR1 args fun x0 =>
 NEWC (.n (some (.int .i64 n0)) (.n (some (.int .i64 n0)) .e .e) (.n (some (.str n0 n0)) .e .e)) n3 44 h1 fun x2 h3 =>
 JO (fun h4 =>
 NC x0 fun x5 =>
 FA n0 x5 fun x6 =>
 LD x6 h4 fun x7 =>
 NC x7 fun x8 =>
 LDN n3 x8 h4 fun x9 =>
 ST n3 x2 x9 h4 fun h10 =>
 LDN n3 x2 h10 fun x11 =>
 kr x11 h10) fun j12 =>
 cl n264 [x0] h3 (fun x13 h14 =>
 IFB x13 (GEN (panA (.iface n85 (.int .i64 n7)) h14) cl (fun x17 h18 =>
 j12  h18) kp)
 (NC x0 fun x21 =>
 FA n0 x21 fun x22 =>
 LD x22 h14 fun x23 =>
 EQL Pr 270 true x23 (.nilp) fun x24 =>
 IFB x24 (OV (buildA Pr 44 []) fun x25 =>
 ST n3 x2 x25 h14 fun h26 =>
 LDN n3 x2 h26 fun x27 =>
 kr x27 h26)
 (j12  h14))) kp

theorem eqF211 : F211 = fun fu oR => compF Pr fu oR 211 1 := by kernel_rfl

def F212 (fu : Nat) (oR : Orc) (cl : CL) (args : List AV) (h4 : Heap) (kr : KR) (kp : KP) : Ans := AR4 args fun x0 x1 x2 x3 =>
 BOX 184 x1 h4 fun x5 h6 =>
 NC x0 fun x7 =>
 FA n5 x7 fun x8 =>
 LD x8 h6 fun x9 =>
 FA n0 x5 fun x10 =>
 LD x10 h6 fun x11 =>
 FA n1 x5 fun x12 =>
 LD x12 h6 fun x13 =>
 OV (buildA Pr 65 [(n0, x11), (n1, x13), (n2, x2)]) fun x14 =>
 OV (lookupA Pr h6 56 x9 x14 false) fun x15 =>
 BOP Pr .shl 3 true (.int .i64 n1) x3 fun x16 =>
 BOP Pr .or 3 false x15 x16 fun x17 =>
 OVH (mapEntryA Pr h6 56 x9 x14) fun x18 h19 =>
 OV (lookupA Pr h19 56 x9 x14 false) fun x20 =>
 EQV x15 x20 <|
 EX n1 x18 fun x21 =>
 OSK (entryStoreA h19 x9 x21 x17) fun h22 =>
 kr (.tuple []) h22

theorem eqF212 : F212 = fun fu oR => compF Pr fu oR 212 4 := by kernel_rfl

def F213 (fu : Nat) (oR : Orc) (cl : CL) (args : List AV) (h2 : Heap) (kr : KR) (kp : KP) : Ans := AR2 args fun x0 x1 =>
 cl n265 [x0, x1] h2 (fun x3 h4 =>
 GEQ Pr 3 true x3 (.int .i64 n0) fun x7 =>
 kr x7 h4) kp

theorem eqF213 : F213 = fun fu oR => compF Pr fu oR 213 2 := by kernel_rfl

def F214 (fu : Nat) (oR : Orc) (cl : CL) (args : List AV) (h1 : Heap) (kr : KR) (kp : KP) : Ans := AR1 args fun x0 =>
 NEWC (.n (some (.int .i64 n0)) (.n (some (.int .i64 n0)) .e .e) (.n (some (.str n0 n0)) .e .e)) n3 44 h1 fun x2 h3 =>
 cl n266 [x0] h3 (fun x4 h5 =>
 IFB x4 (cl n191 [x0] h5 (fun x8 h9 =>
 EX n0 x8 fun x12 =>
 EX n1 x8 fun x13 =>
 OV (buildA Pr 44 [(n0, (.int .i64 n3)), (n1, x12), (n2, x0)]) fun x14 =>
 ST n3 x2 x14 h9 fun h15 =>
 LDN n3 x2 h15 fun x16 =>
 kr x16 h15) kp)
 (OV (buildA Pr 44 [(n0, (.int .i64 n2)), (n2, x0)]) fun x17 =>
 ST n3 x2 x17 h5 fun h18 =>
 LDN n3 x2 h18 fun x19 =>
 kr x19 h18)) kp

theorem eqF214 : F214 = fun fu oR => compF Pr fu oR 214 1 := by kernel_rfl

def F215 (fu : Nat) (oR : Orc) (cl : CL) (args : List AV) (h1 : Heap) (kr : KR) (kp : KP) : Ans := AR1 args fun x0 =>
 cl n185 [x0] h1 (fun x2 h3 =>
 OV (unOpA .not x2) fun x6 =>
 IFB x6 (kr (.int .i64 n0) h3)
 (BOP Pr .quo 3 true x0 (.int .i64 (nat_lit 1000000)) fun x7 =>
 BOP Pr .mul 3 true x7 (.int .i64 (nat_lit 1000000)) fun x8 =>
 kr x8 h3)) kp

theorem eqF215 : F215 = fun fu oR => compF Pr fu oR 215 1 := by kernel_rfl

def F216 (fu : Nat) (oR : Orc) (cl : CL) (args : List AV) (h1 : Heap) (kr : KR) (kp : KP) : Ans := AR1 args fun x0 =>
 BOX 44 x0 h1 fun x2 h3 =>
 FA n0 x2 fun x4 =>
 LD x4 h3 fun x5 =>
 EQL Pr 3 true x5 (.int .i64 n2) fun x6 =>
 IFB x6 (FA n2 x2 fun x7 =>
 LD x7 h3 fun x8 =>
 cl n191 [x8] h3 (fun x9 h10 =>
 EX n0 x9 fun x13 =>
 EX n1 x9 fun x14 =>
 kr x13 h10) kp)
 (FA n1 x2 fun x15 =>
 LD x15 h3 fun x16 =>
 kr x16 h3)

theorem eqF216 : F216 = fun fu oR => compF Pr fu oR 216 1 := by kernel_rfl

def B220x70 (x60 : AV) (x8 : AV) (h62 : Heap) (kr : KR) (x61 : AV) : Ans := OV (unOpA .not x60) fun x63 =>
 IFB x63 (OV (buildA Pr 44 []) fun x64 =>
 ST n3 x8 x64 h62 fun h65 =>
 LDN n3 x8 h65 fun x66 =>
 kr (.tuple [x66, (.int .i64 n1)]) h65)
 (OV (buildA Pr 44 [(n0, (.int .i64 n1)), (n1, x61)]) fun x67 =>
 ST n3 x8 x67 h62 fun h68 =>
 LDN n3 x8 h68 fun x69 =>
 kr (.tuple [x69, (.int .i64 n0)]) h68)
def B220x107 (x0 : AV) (cl : CL) (x34 : AV) (x39 : AV) (h55 : Heap) (j71 : AV → AV → Heap → Ans) (kp : KP) : Ans := EQL Pr 3 true x0 (.int .i64 n23) fun x93 =>
 IFB x93 (cl n272 [x34, x39] h55 (fun x94 h95 =>
 EX n0 x94 fun x98 =>
 EX n1 x94 fun x99 =>
 j71 x99 x98 h95) kp)
 (EQL Pr 3 true x0 (.int .i64 n24) fun x100 =>
 IFB x100 (cl n273 [x34, x39] h55 (fun x101 h102 =>
 EX n0 x101 fun x105 =>
 EX n1 x101 fun x106 =>
 j71 x106 x105 h102) kp)
 (j71 (.bool false) (.int .i64 n0) h55))
def B220x108 (x0 : AV) (cl : CL) (x34 : AV) (x39 : AV) (h55 : Heap) (j71 : AV → AV → Heap → Ans) (kp : KP) : Ans := EQL Pr 3 true x0 (.int .i64 n21) fun x79 =>
 IFB x79 (cl n270 [x34, x39] h55 (fun x80 h81 =>
 EX n0 x80 fun x84 =>
 EX n1 x80 fun x85 =>
 j71 x85 x84 h81) kp)
 (EQL Pr 3 true x0 (.int .i64 n22) fun x86 =>
 IFB x86 (cl n271 [x34, x39] h55 (fun x87 h88 =>
 EX n0 x87 fun x91 =>
 EX n1 x87 fun x92 =>
 j71 x92 x91 h88) kp)
 (B220x107 x0 cl x34 x39 h55 j71 kp))
def B220x109 (x43 : AV) (x54 : AV) (x8 : AV) (h55 : Heap) (kr : KR) (x0 : AV) (cl : CL) (x34 : AV) (x39 : AV) (kp : KP) : Ans := SEL x43 x54 (.bool false) fun x56 =>
 IFB x56 (OV (buildA Pr 44 []) fun x57 =>
 ST n3 x8 x57 h55 fun h58 =>
 LDN n3 x8 h58 fun x59 =>
 kr (.tuple [x59, (.int .i64 n2)]) h58)
 (JO (fun x60 x61 h62 =>
 B220x70 x60 x8 h62 kr x61) fun j71 =>
 EQL Pr 3 true x0 (.int .i64 n20) fun x72 =>
 IFB x72 (cl n269 [x34, x39] h55 (fun x73 h74 =>
 EX n0 x73 fun x77 =>
 EX n1 x73 fun x78 =>
 j71 x78 x77 h74) kp)
 (B220x108 x0 cl x34 x39 h55 j71 kp))
def B220x115 (x43 : AV) (x8 : AV) (kr : KR) (x0 : AV) (cl : CL) (x34 : AV) (x39 : AV) (kp : KP) (x48 : AV) (h49 : Heap) : Ans := JO (fun x50 h51 =>
 JO (fun x52 h53 =>
 JO (fun x54 h55 =>
 B220x109 x43 x54 x8 h55 kr x0 cl x34 x39 kp) fun j110 =>
 GW true x43 (SEL x48 (.bool true) x52 fun x111 =>
 j110 x111 h53)
 (j110 undefA h53)) fun j112 =>
 GW false x48 (EQL Pr 3 true x50 (.int .i64 n24) fun x113 =>
 j112 x113 h51)
 (j112 undefA h51)) fun j114 =>
 GW false x48 (j114 x0 h49)
 (j114 undefA h49)
def B220x120 (x4 : AV) (h27 : Heap) (x6 : AV) (cl : CL) (x8 : AV) (kr : KR) (x0 : AV) (kp : KP) : Ans := LDN n3 x4 h27 fun x32 =>
 LDN n3 x6 h27 fun x33 =>
 cl n216 [x32] h27 (fun x34 h35 =>
 LDN n3 x6 h35 fun x38 =>
 EQV x33 x38 <|
 cl n216 [x33] h35 (fun x39 h40 =>
 EQL Pr 3 true x39 (.int .i64 n0) fun x43 =>
 JO (fun x44 h45 =>
 JO (fun x46 h47 =>
 JO (fun x48 h49 =>
 B220x115 x43 x8 kr x0 cl x34 x39 kp x48 h49) fun j116 =>
 GW true x43 (j116 x46 h47)
 (j116 undefA h47)) fun j117 =>
 GW true x43 (EQL Pr 3 true x44 (.int .i64 n23) fun x118 =>
 j117 x118 h45)
 (j117 undefA h45)) fun j119 =>
 GW true x43 (j119 x0 h40)
 (j119 undefA h40)) kp) kp
def B220x123 (x21 : AV) (x8 : AV) (kr : KR) (x4 : AV) (x6 : AV) (cl : CL) (x0 : AV) (kp : KP) (x24 : AV) (h25 : Heap) : Ans := JO (fun x26 h27 =>
 SEL x21 (.bool true) x26 fun x28 =>
 IFB x28 (OV (buildA Pr 44 []) fun x29 =>
 ST n3 x8 x29 h27 fun h30 =>
 LDN n3 x8 h30 fun x31 =>
 kr (.tuple [x31, (.int .i64 n3)]) h30)
 (B220x120 x4 h27 x6 cl x8 kr x0 kp)) fun j121 =>
 GW false x21 (OV (unOpA .not x24) fun x122 =>
 j121 x122 h25)
 (j121 undefA h25)
def B220x131 (x14 : AV) (x19 : AV) (x8 : AV) (kr : KR) (x4 : AV) (x6 : AV) (cl : CL) (x0 : AV) (kp : KP) (h20 : Heap) : Ans := SEL x14 (.bool true) x19 fun x21 =>
 JO (fun x22 h23 =>
 JO (fun x24 h25 =>
 B220x123 x21 x8 kr x4 x6 cl x0 kp x24 h25) fun j124 =>
 GW false x21 (cl n232 [x22] h23 (fun x125 h126 =>
 j124 x125 h126) kp)
 (j124 undefA h23)) fun j129 =>
 GW false x21 (LDN n3 x6 h20 fun x130 =>
 j129 x130 h20)
 (j129 undefA h20)
def F220 (fu : Nat) (oR : Orc) (cl : CL) (args : List AV) (h3 : Heap) (kr : KR) (kp : KP) : Ans := AR3 args fun x0 x1 x2 =>
 BOX 44 x1 h3 fun x4 h5 =>
 BOX 44 x2 h5 fun x6 h7 =>
 NEWC (.n (some (.int .i64 n0)) (.n (some (.int .i64 n0)) .e .e) (.n (some (.str n0 n0)) .e .e)) n3 44 h7 fun x8 h9 =>
 cl n24 [x0, (.int .i64 n20), (.int .i64 n24)] h9 (fun x10 h11 =>
 OV (unOpA .not x10) fun x14 =>
 JO (fun x15 h16 =>
 JO (fun x17 h18 =>
 JO (fun x19 h20 =>
 B220x131 x14 x19 x8 kr x4 x6 cl x0 kp h20) fun j132 =>
 GW false x14 (OV (unOpA .not x17) fun x133 =>
 j132 x133 h18)
 (j132 undefA h18)) fun j134 =>
 GW false x14 (cl n232 [x15] h16 (fun x135 h136 =>
 j134 x135 h136) kp)
 (j134 undefA h16)) fun j139 =>
 GW false x14 (LDN n3 x4 h11 fun x140 =>
 j139 x140 h11)
 (j139 undefA h11)) kp

theorem eqF220 : F220 = fun fu oR => compF Pr fu oR 220 3 := by kernel_rfl

def F230 (fu : Nat) (oR : Orc) (cl : CL) (args : List AV) (h2 : Heap) (kr : KR) (kp : KP) : Ans := AR2 args fun x0 x1 =>
 BOX 44 x1 h2 fun x3 h4 =>
 JO (fun h5 =>
 NC x0 fun x6 =>
 FA n0 x6 fun x7 =>
 ST n1 x7 x3 h5 fun h8 =>
 kr (.tuple []) h8) fun j9 =>
 cl n264 [x0] h4 (fun x10 h11 =>
 IFB x10 (GEN (panA (.iface n85 (.int .i64 n7)) h11) cl (fun x14 h15 =>
 j9  h15) kp)
 (j9  h11)) kp

theorem eqF230 : F230 = fun fu oR => compF Pr fu oR 230 2 := by kernel_rfl

def B231x120 (x0 : AV) (x73 : AV) (x53 : AV) (h95 : Heap) (x11 : AV) (x13 : AV) (cl : CL) (x12 : AV) (j24 : AV → AV → AV → AV → Heap → Ans) (kp : KP) : Ans := SAT x0 x73 fun x97 =>
 FA n0 x53 fun x98 =>
 ST n1 x98 x97 h95 fun h99 =>
 OV (convV Pr h99 22 9 x11) fun x100 =>
 LDN n3 x53 h99 fun x101 =>
 BSL n249 n3 [(.int .u8 n0), (.bool false), (.int .i64 n0)] n1 [(n0, x101)] h99 fun x102 h103 =>
 NEWB h99 h103 fun b104 i105 h106 =>
 BSL n9 n1 [(.str n0 n0)] n1 [(n0, x100)] h106 fun x107 h108 =>
 LDN n3 x53 h108 fun x109 =>
 EQV x101 x109 <|
 GEN (builtinF .append Pr [48, 48] [x13, x107] h108) cl (fun x110 h111 =>
 LDN n3 x53 h111 fun x114 =>
 EQV x101 x114 <|
 SETB h111 i105 b104 fun h115 =>
 GEN (builtinF .append Pr [245, 245] [x12, x102] h115) cl (fun x116 h117 =>
 j24 x73 (.nilslice) x116 x110 h117) kp) kp
def B231x125 (x75 : AV) (kr : KR) (x0 : AV) (x73 : AV) (x53 : AV) (x11 : AV) (x13 : AV) (cl : CL) (x12 : AV) (j24 : AV → AV → AV → AV → Heap → Ans) (kp : KP) (x84 : AV) (x90 : AV) (h91 : Heap) : Ans := JO (fun x92 h93 =>
 JO (fun x94 h95 =>
 SEL x75 (.bool true) x94 fun x96 =>
 IFB x96 (kr (.tuple [(.nilslice), (.nilslice), (.bool false)]) h95)
 (B231x120 x0 x73 x53 h95 x11 x13 cl x12 j24 kp)) fun j121 =>
 GW false x75 (SEL x84 x92 (.bool false) fun x122 =>
 j121 x122 h93)
 (j121 undefA h93)) fun j123 =>
 GW true x84 (NEQ Pr 5 true x90 (.int .u8 n115) fun x124 =>
 j123 x124 h91)
 (j123 undefA h91)
def B231x130 (x75 : AV) (kr : KR) (x0 : AV) (x73 : AV) (x53 : AV) (x11 : AV) (x13 : AV) (cl : CL) (x12 : AV) (j24 : AV → AV → AV → AV → Heap → Ans) (kp : KP) (x84 : AV) (h85 : Heap) : Ans := JO (fun x86 h87 =>
 JO (fun x88 h89 =>
 JO (fun x90 h91 =>
 B231x125 x75 kr x0 x73 x53 x11 x13 cl x12 j24 kp x84 x90 h91) fun j126 =>
 GW true x84 (SAT x86 x88 fun x127 =>
 j126 x127 h89)
 (j126 undefA h89)) fun j128 =>
 GW true x84 (j128 x73 h87)
 (j128 undefA h87)) fun j129 =>
 GW true x84 (j129 x0 h85)
 (j129 undefA h85)
def B231x136 (x75 : AV) (kr : KR) (x0 : AV) (x73 : AV) (x53 : AV) (x11 : AV) (x13 : AV) (cl : CL) (x12 : AV) (j24 : AV → AV → AV → AV → Heap → Ans) (kp : KP) (x76 : AV) (x78 : AV) (h79 : Heap) : Ans := JO (fun x80 h81 =>
 JO (fun x82 h83 =>
 JO (fun x84 h85 =>
 B231x130 x75 kr x0 x73 x53 x11 x13 cl x12 j24 kp x84 h85) fun j131 =>
 GW false x75 (j131 x82 h83)
 (j131 undefA h83)) fun j132 =>
 GW false x75 (NEQ Pr 5 true x80 (.int .u8 n100) fun x133 =>
 j132 x133 h81)
 (j132 undefA h81)) fun j134 =>
 GW false x75 (SAT x76 x78 fun x135 =>
 j134 x135 h79)
 (j134 undefA h79)
def B231x139 (cl : CL) (x0 : AV) (x56 : AV) (h57 : Heap) (x53 : AV) (kr : KR) (x11 : AV) (x13 : AV) (x12 : AV) (j24 : AV → AV → AV → AV → Heap → Ans) (kp : KP) : Ans := cl n133 [x0, x56, (.func (.func 190) [] [])] h57 (fun x58 h59 =>
 OPV (builtinF .min Pr [3, 3] [x58, (.int .i64 n2)] h59) fun x62 =>
 ADD Pr 3 false x56 x62 fun x63 =>
 OV (sliceA Pr 9 x0 (some x56) (some x63) none) fun x64 =>
 cl n285 [x64] h59 (fun x65 h66 =>
 EX n0 x65 fun x69 =>
 EX n1 x65 fun x70 =>
 FA n2 x53 fun x71 =>
 ST n1 x71 x69 h66 fun h72 =>
 ADD Pr 3 false x56 x62 fun x73 =>
 LENT x0 fun x74 =>
 GEQ Pr 3 false x73 x74 fun x75 =>
 JO (fun x76 h77 =>
 JO (fun x78 h79 =>
 B231x136 x75 kr x0 x73 x53 x11 x13 cl x12 j24 kp x76 x78 h79) fun j137 =>
 GW false x75 (j137 x73 h77)
 (j137 undefA h77)) fun j138 =>
 GW false x75 (j138 x0 h72)
 (j138 undefA h72)) kp) kp
def B231x157 (x142 : AV) (x53 : AV) (x34 : AV) (j140 : AV → Heap → Ans) (x147 : AV) (h148 : Heap) : Ans := JO (fun x149 h150 =>
 SEL x142 x149 (.bool false) fun x151 =>
 IFB x151 (FA n1 x53 fun x152 =>
 ST n1 x152 (.bool true) h150 fun h153 =>
 ADD Pr 3 true x34 (.int .i64 n1) fun x154 =>
 j140 x154 h153)
 (j140 x34 h150)) fun j155 =>
 GW true x142 (EQL Pr 5 true x147 (.int .u8 n45) fun x156 =>
 j155 x156 h148)
 (j155 undefA h148)
def B231x162 (h44 : Heap) (cl : CL) (x0 : AV) (kr : KR) (x11 : AV) (x13 : AV) (x12 : AV) (j24 : AV → AV → AV → AV → Heap → Ans) (kp : KP) (x34 : AV) : Ans := OV (buildA Pr 249 []) fun x52 =>
 NEWC (.n (some (.int .u8 n0)) (.n (some (.bool false)) .e .e) (.n (some (.int .i64 n0)) .e .e)) n3 249 h44 fun x53 h54 =>
 ST n3 x53 x52 h54 fun h55 =>
 JO (fun x56 h57 =>
 B231x139 cl x0 x56 h57 x53 kr x11 x13 x12 j24 kp) fun j140 =>
 LENT x0 fun x141 =>
 LSS Pr 3 false x34 x141 fun x142 =>
 JO (fun x143 h144 =>
 JO (fun x145 h146 =>
 JO (fun x147 h148 =>
 B231x157 x142 x53 x34 j140 x147 h148) fun j158 =>
 GW true x142 (SAT x143 x145 fun x159 =>
 j158 x159 h146)
 (j158 undefA h146)) fun j160 =>
 GW true x142 (j160 x34 h144)
 (j160 undefA h144)) fun j161 =>
 GW true x142 (j161 x0 h55)
 (j161 undefA h55)
def B231x163 (x36 : AV) (x43 : AV) (h44 : Heap) (x11 : AV) (cl : CL) (j24 : AV → AV → AV → AV → Heap → Ans) (x34 : AV) (x12 : AV) (x13 : AV) (kp : KP) (x0 : AV) (kr : KR) : Ans := SEL x36 x43 (.bool false) fun x45 =>
 IFB x45 (BSL n5 n1 [(.int .u8 n0)] n1 [(n0, (.int .u8 n37))] h44 fun x46 h47 =>
 GEN (builtinF .append Pr [22, 22] [x11, x46] h47) cl (fun x48 h49 =>
 j24 x34 x48 x12 x13 h49) kp)
 (B231x162 h44 cl x0 kr x11 x13 x12 j24 kp x34)
def B231x169 (x36 : AV) (x11 : AV) (cl : CL) (j24 : AV → AV → AV → AV → Heap → Ans) (x34 : AV) (x12 : AV) (x13 : AV) (kp : KP) (x0 : AV) (kr : KR) (x37 : AV) (h38 : Heap) : Ans := JO (fun x39 h40 =>
 JO (fun x41 h42 =>
 JO (fun x43 h44 =>
 B231x163 x36 x43 h44 x11 cl j24 x34 x12 x13 kp x0 kr) fun j164 =>
 GW true x36 (EQL Pr 5 true x41 (.int .u8 n37) fun x165 =>
 j164 x165 h42)
 (j164 undefA h42)) fun j166 =>
 GW true x36 (SAT x37 x39 fun x167 =>
 j166 x167 h40)
 (j166 undefA h40)) fun j168 =>
 GW true x36 (j168 x34 h38)
 (j168 undefA h38)
def B231x171 (j15 : AV → AV → AV → AV → Heap → Ans) (x0 : AV) (x10 : AV) (h14 : Heap) (x11 : AV) (cl : CL) (x12 : AV) (x13 : AV) (kp : KP) (kr : KR) : Ans := JO (fun x18 x19 x20 x21 h22 =>
 ADD Pr 3 true x18 (.int .i64 n1) fun x23 =>
 j15 x23 x19 x20 x21 h22) fun j24 =>
 SAT x0 x10 fun x25 =>
 NEQ Pr 5 true x25 (.int .u8 n37) fun x26 =>
 IFB x26 (SAT x0 x10 fun x27 =>
 BSL n5 n1 [(.int .u8 n0)] n1 [(n0, x27)] h14 fun x28 h29 =>
 GEN (builtinF .append Pr [22, 22] [x11, x28] h29) cl (fun x30 h31 =>
 j24 x10 x30 x12 x13 h31) kp)
 (ADD Pr 3 true x10 (.int .i64 n1) fun x34 =>
 LENT x0 fun x35 =>
 LSS Pr 3 false x34 x35 fun x36 =>
 JO (fun x37 h38 =>
 B231x169 x36 x11 cl j24 x34 x12 x13 kp x0 kr x37 h38) fun j170 =>
 GW true x36 (j170 x0 h14)
 (j170 undefA h14))
def B231x179 (x0 : AV) (x10 : AV) (j15 : AV → AV → AV → AV → Heap → Ans) (h14 : Heap) (x11 : AV) (cl : CL) (x12 : AV) (x13 : AV) (kp : KP) (kr : KR) : Ans := LENT x0 fun x16 =>
 LSS Pr 3 false x10 x16 fun x17 =>
 IFB x17 (B231x171 j15 x0 x10 h14 x11 cl x12 x13 kp kr)
 (OV (convV Pr h14 22 9 x11) fun x172 =>
 BSL n9 n1 [(.str n0 n0)] n1 [(n0, x172)] h14 fun x173 h174 =>
 GEN (builtinF .append Pr [48, 48] [x13, x173] h174) cl (fun x175 h176 =>
 kr (.tuple [x175, x12, (.bool true)]) h176) kp)
def F231 (fu : Nat) (oR : Orc) (cl : CL) (args : List AV) (h1 : Heap) (kr : KR) (kp : KP) : Ans := AR1 args fun x0 =>
 BSL n9 n1 [] n0 [] h1 fun x2 h3 =>
 BSL n249 n3 [] n0 [] h3 fun x4 h5 =>
 BSL n5 n1 [] n0 [] h5 fun x6 h7 =>
 LENT x0 fun x8 =>
 GTR Pr 3 true x8 (.int .i64 n500) fun x9 =>
 IFB x9 (kr (.tuple [(.nilslice), (.nilslice), (.bool false)]) h7)
 (LP fu (fun _ _ _ _ _ => Ans.no) (fun j15 x10 x11 x12 x13 h14 =>
 B231x179 x0 x10 j15 h14 x11 cl x12 x13 kp kr) (.int .i64 n0) x6 x4 x2 h7)

theorem eqF231 : F231 = fun fu oR => compF Pr fu oR 231 1 := by kernel_rfl

def B232x23 (x2 : AV) (h3 : Heap) (kr : KR) : Ans := FA n2 x2 fun x7 =>
 LD x7 h3 fun x8 =>
 EQL Pr 9 true x8 (.str n0 n0) fun x9 =>
 JO (fun x10 h11 =>
 JO (fun x12 h13 =>
 JO (fun x14 h15 =>
 SEL x9 x14 (.bool false) fun x16 =>
 kr x16 h15) fun j17 =>
 GW true x9 (EQL Pr 3 true x12 (.int .i64 n0) fun x18 =>
 j17 x18 h13)
 (j17 undefA h13)) fun j19 =>
 GW true x9 (LD x10 h11 fun x20 =>
 j19 x20 h11)
 (j19 undefA h11)) fun j21 =>
 GW true x9 (FA n1 x2 fun x22 =>
 j21 x22 h3)
 (j21 undefA h3)
def B232x44 (x2 : AV) (h3 : Heap) (kr : KR) (cl : CL) (kp : KP) : Ans := FA n2 x2 fun x25 =>
 LD x25 h3 fun x26 =>
 EQL Pr 9 true x26 (.str n0 n0) fun x27 =>
 JO (fun x28 h29 =>
 JO (fun x30 h31 =>
 JO (fun x32 h33 =>
 SEL x27 x32 (.bool false) fun x34 =>
 kr x34 h33) fun j35 =>
 GW true x27 (cl n185 [x30] h31 (fun x36 h37 =>
 j35 x36 h37) kp)
 (j35 undefA h31)) fun j40 =>
 GW true x27 (LD x28 h29 fun x41 =>
 j40 x41 h29)
 (j40 undefA h29)) fun j42 =>
 GW true x27 (FA n1 x2 fun x43 =>
 j42 x43 h3)
 (j42 undefA h3)
def B232x63 (x2 : AV) (h3 : Heap) (kr : KR) : Ans := FA n2 x2 fun x46 =>
 LD x46 h3 fun x47 =>
 LENT x47 fun x48 =>
 LEQ Pr 3 true x48 (.int .i64 n500) fun x49 =>
 JO (fun x50 h51 =>
 JO (fun x52 h53 =>
 JO (fun x54 h55 =>
 SEL x49 x54 (.bool false) fun x56 =>
 kr x56 h55) fun j57 =>
 GW true x49 (EQL Pr 3 true x52 (.int .i64 n0) fun x58 =>
 j57 x58 h53)
 (j57 undefA h53)) fun j59 =>
 GW true x49 (LD x50 h51 fun x60 =>
 j59 x60 h51)
 (j59 undefA h51)) fun j61 =>
 GW true x49 (FA n1 x2 fun x62 =>
 j61 x62 h3)
 (j61 undefA h3)
def B232x98 (x83 : AV) (kr : KR) (x71 : AV) (x84 : AV) (h85 : Heap) : Ans := JO (fun x86 h87 =>
 JO (fun x88 h89 =>
 JO (fun x90 h91 =>
 SEL x83 x90 (.bool false) fun x92 =>
 kr x92 h91) fun j93 =>
 GW true x83 (EQL Pr 3 false x86 x88 fun x94 =>
 j93 x94 h89)
 (j93 undefA h89)) fun j95 =>
 GW true x83 (j95 x71 h87)
 (j95 undefA h87)) fun j96 =>
 GW true x83 (LD x84 h85 fun x97 =>
 j96 x97 h85)
 (j96 undefA h85)
def B232x108 (x76 : AV) (kr : KR) (x71 : AV) (x2 : AV) (cl : CL) (kp : KP) (x77 : AV) (h78 : Heap) : Ans := JO (fun x79 h80 =>
 JO (fun x81 h82 =>
 SEL x76 x81 (.bool false) fun x83 =>
 JO (fun x84 h85 =>
 B232x98 x83 kr x71 x84 h85) fun j99 =>
 GW true x83 (FA n1 x2 fun x100 =>
 j99 x100 h82)
 (j99 undefA h82)) fun j101 =>
 GW true x76 (cl n266 [x79] h80 (fun x102 h103 =>
 j101 x102 h103) kp)
 (j101 undefA h80)) fun j106 =>
 GW true x76 (LD x77 h78 fun x107 =>
 j106 x107 h78)
 (j106 undefA h78)
def B232x111 (x2 : AV) (h3 : Heap) (cl : CL) (kr : KR) (kp : KP) : Ans := FA n2 x2 fun x65 =>
 LD x65 h3 fun x66 =>
 cl n191 [x66] h3 (fun x67 h68 =>
 EX n0 x67 fun x71 =>
 EX n1 x67 fun x72 =>
 FA n2 x2 fun x73 =>
 LD x73 h68 fun x74 =>
 LENT x74 fun x75 =>
 LEQ Pr 3 true x75 (.int .i64 n500) fun x76 =>
 JO (fun x77 h78 =>
 B232x108 x76 kr x71 x2 cl kp x77 h78) fun j109 =>
 GW true x76 (FA n2 x2 fun x110 =>
 j109 x110 h68)
 (j109 undefA h68)) kp
def F232 (fu : Nat) (oR : Orc) (cl : CL) (args : List AV) (h1 : Heap) (kr : KR) (kp : KP) : Ans := AR1 args fun x0 =>
 BOX 44 x0 h1 fun x2 h3 =>
 FA n0 x2 fun x4 =>
 LD x4 h3 fun x5 =>
 EQL Pr 3 true x5 (.int .i64 n0) fun x6 =>
 IFB x6 (B232x23 x2 h3 kr)
 (EQL Pr 3 true x5 (.int .i64 n1) fun x24 =>
 IFB x24 (B232x44 x2 h3 kr cl kp)
 (EQL Pr 3 true x5 (.int .i64 n2) fun x45 =>
 IFB x45 (B232x63 x2 h3 kr)
 (EQL Pr 3 true x5 (.int .i64 n3) fun x64 =>
 IFB x64 (B232x111 x2 h3 cl kr kp)
 (kr (.bool false) h3))))

theorem eqF232 : F232 = fun fu oR => compF Pr fu oR 232 1 := by kernel_rfl

def B233x27 (x3 : AV) (h13 : Heap) (x12 : AV) (cl : CL) (kr : KR) (kp : KP) : Ans := FA n2 x3 fun x14 =>
 LD x14 h13 fun x15 =>
 LENT x12 fun x16 =>
 SUB Pr 3 false x15 x16 fun x17 =>
 OPV (builtinF .max Pr [3, 3] [(.int .i64 n0), x17] h13) fun x18 =>
 cl n286 [(.str n1 n32), x18] h13 (fun x19 h20 =>
 FA n1 x3 fun x23 =>
 LD x23 h20 fun x24 =>
 IFB x24 (ADD Pr 9 false x12 x19 fun x25 =>
 kr x25 h20)
 (ADD Pr 9 false x19 x12 fun x26 =>
 kr x26 h20)) kp
def F233 (fu : Nat) (oR : Orc) (cl : CL) (args : List AV) (h2 : Heap) (kr : KR) (kp : KP) : Ans := AR2 args fun x0 x1 =>
 BOX 249 x0 h2 fun x3 h4 =>
 BOX 44 x1 h4 fun x5 h6 =>
 LDN n3 x5 h6 fun x7 =>
 cl n146 [x7] h6 (fun x8 h9 =>
 JO (fun x12 h13 =>
 B233x27 x3 h13 x12 cl kr kp) fun j28 =>
 FA n0 x3 fun x29 =>
 LD x29 h9 fun x30 =>
 EQL Pr 5 true x30 (.int .u8 n100) fun x31 =>
 IFB x31 (LDN n3 x5 h9 fun x32 =>
 cl n216 [x32] h9 (fun x33 h34 =>
 cl n215 [x33] h34 (fun x37 h38 =>
 cl n127 [x37] h38 (fun x41 h42 =>
 j28 x41 h42) kp) kp) kp)
 (j28 x8 h9)) kp

theorem eqF233 : F233 = fun fu oR => compF Pr fu oR 233 2 := by kernel_rfl

def F235 (fu : Nat) (oR : Orc) (cl : CL) (args : List AV) (h0 : Heap) (kr : KR) (kp : KP) : Ans := AR0 args <|
 BSL n9 n1 [(.str n0 n0), (.str n0 n0), (.str n0 n0), (.str n0 n0), (.str n0 n0), (.str n0 n0), (.str n0 n0), (.str n0 n0), (.str n0 n0), (.str n0 n0), (.str n0 n0), (.str n0 n0), (.str n0 n0), (.str n0 n0), (.str n0 n0), (.str n0 n0), (.str n0 n0), (.str n0 n0), (.str n0 n0), (.str n0 n0), (.str n0 n0), (.str n0 n0)] n22 [(n0, (.str n5 (nat_lit 336236856642))), (n1, (.str n3 (nat_lit 4476485))), (n2, (.str n8 (nat_lit 7957695015192261990))), (n3, (.str n2 (nat_lit 26217))), (n4, (.str n4 (nat_lit 1702063205))), (n5, (.str n5 (nat_lit 435610544247))), (n6, (.str n3 (nat_lit 7499622))), (n7, (.str n2 (nat_lit 28265))), (n8, (.str n5 (nat_lit 461195539042))), (n9, (.str n8 (nat_lit 7310870969309884259))), (n10, (.str n4 (nat_lit 1954047342))), (n11, (.str n4 (nat_lit 1953069157))), (n12, (.str n6 (nat_lit 121437875889522))), (n13, (.str n6 (nat_lit 111550592214372))), (n14, (.str n5 (nat_lit 500068610672))), (n15, (.str n6 (nat_lit 112650254643824))), (n16, (.str n6 (nat_lit 114849160783212))), (n17, (.str n6 (nat_lit 125844477605235))), (n18, (.str n5 (nat_lit 517097156201))), (n19, (.str n5 (nat_lit 499984920691))), (n20, (.str n7 (nat_lit 32199680942501748))), (n21, (.str n3 (nat_lit 7630441)))] h0 fun x1 h2 =>
 kr x1 h2

theorem eqF235 : F235 = fun fu oR => compF Pr fu oR 235 0 := by kernel_rfl

def B236x24 (cl : CL) (x0 : AV) (h10 : Heap) (x6 : AV) (j8 : AV → Heap → Ans) (kp : KP) : Ans := cl n287 [x0] h10 (fun x13 h14 =>
 BSL n3 n1 [(.int .i64 n0), (.int .i64 n0)] n2 [(n0, x6), (n1, x13)] h14 fun x17 h18 =>
 OV (buildA Pr 108 [(n0, (.int .i64 n10)), (n4, x17)]) fun x19 =>
 cl n173 [x0, x19] h18 (fun x20 h21 =>
 j8 x20 h21) kp) kp
def F236 (fu : Nat) (oR : Orc) (cl : CL) (args : List AV) (h1 : Heap) (kr : KR) (kp : KP) : Ans := AR1 args fun x0 =>
 cl n287 [x0] h1 (fun x2 h3 =>
 LP fu (fun _ _ => Ans.no) (fun j8 x6 h7 =>
 cl n111 [x0, (.str n2 (nat_lit 31868))] h7 (fun x9 h10 =>
 IFB x9 (B236x24 cl x0 h10 x6 j8 kp)
 (kr x6 h10)) kp) x2 h3) kp

theorem eqF236 : F236 = fun fu oR => compF Pr fu oR 236 1 := by kernel_rfl

def B239x34 (x3 : AV) (h18 : Heap) (cl : CL) (x0 : AV) (j16 : Heap → Ans) (kp : KP) : Ans := FA n0 x3 fun x21 =>
 ST n1 x21 (.int .i64 n41) h18 fun h22 =>
 cl n113 [x0, (.str n1 n59)] h22 (fun x23 h24 =>
 OV (unOpA .not x23) fun x27 =>
 IFB x27 (cl n289 [x0] h24 (fun x28 h29 =>
 FA n4 x3 fun x32 =>
 ST n1 x32 x28 h29 fun h33 =>
 j16  h33) kp)
 (j16  h24)) kp
def B239x84 (x3 : AV) (h66 : Heap) (cl : CL) (x0 : AV) (j16 : Heap → Ans) (kp : KP) : Ans := FA n0 x3 fun x69 =>
 ST n1 x69 (.int .i64 n50) h66 fun h70 =>
 cl n113 [x0, (.str n1 n59)] h70 (fun x71 h72 =>
 OV (unOpA .not x71) fun x75 =>
 IFB x75 (cl n114 [x0] h72 (fun x76 h77 =>
 BSL n3 n1 [(.int .i64 n0)] n1 [(n0, x76)] h77 fun x80 h81 =>
 FA n4 x3 fun x82 =>
 ST n1 x82 x80 h81 fun h83 =>
 j16  h83) kp)
 (j16  h72)) kp
def B239x104 (x3 : AV) (h86 : Heap) (cl : CL) (x0 : AV) (j16 : Heap → Ans) (kp : KP) : Ans := FA n0 x3 fun x89 =>
 ST n1 x89 (.int .i64 n51) h86 fun h90 =>
 cl n113 [x0, (.str n1 n59)] h90 (fun x91 h92 =>
 OV (unOpA .not x91) fun x95 =>
 IFB x95 (cl n114 [x0] h92 (fun x96 h97 =>
 BSL n3 n1 [(.int .i64 n0)] n1 [(n0, x96)] h97 fun x100 h101 =>
 FA n4 x3 fun x102 =>
 ST n1 x102 x100 h101 fun h103 =>
 j16  h103) kp)
 (j16  h92)) kp
def B239x133 (x3 : AV) (h106 : Heap) (cl : CL) (x0 : AV) (j16 : Heap → Ans) (kp : KP) : Ans := FA n0 x3 fun x109 =>
 ST n1 x109 (.int .i64 n52) h106 fun h110 =>
 cl n170 [x0] h110 (fun x111 h112 =>
 FA n1 x3 fun x115 =>
 ST n1 x115 x111 h112 fun h116 =>
 cl n169 [x0, (.str n1 n91)] h116 (fun x117 h118 =>
 cl n114 [x0] h118 (fun x121 h122 =>
 BSL n3 n1 [(.int .i64 n0)] n1 [(n0, x121)] h122 fun x125 h126 =>
 FA n4 x3 fun x127 =>
 ST n1 x127 x125 h126 fun h128 =>
 cl n169 [x0, (.str n1 n93)] h128 (fun x129 h130 =>
 j16  h130) kp) kp) kp) kp
def B239x142 (cl : CL) (x0 : AV) (h86 : Heap) (x3 : AV) (j16 : Heap → Ans) (kp : KP) : Ans := cl n111 [x0, (.str n6 (nat_lit 111550592214372))] h86 (fun x105 h106 =>
 IFB x105 (B239x133 x3 h106 cl x0 j16 kp)
 (cl n114 [x0] h106 (fun x134 h135 =>
 BSL n3 n1 [(.int .i64 n0)] n1 [(n0, x134)] h135 fun x138 h139 =>
 FA n4 x3 fun x140 =>
 ST n1 x140 x138 h139 fun h141 =>
 j16  h141) kp)) kp
def B239x143 (cl : CL) (x0 : AV) (h54 : Heap) (x3 : AV) (j16 : Heap → Ans) (kp : KP) : Ans := cl n111 [x0, (.str n4 (nat_lit 1954047342))] h54 (fun x59 h60 =>
 IFB x59 (FA n0 x3 fun x63 =>
 ST n1 x63 (.int .i64 n49) h60 fun h64 =>
 j16  h64)
 (cl n111 [x0, (.str n4 (nat_lit 1953069157))] h60 (fun x65 h66 =>
 IFB x65 (B239x84 x3 h66 cl x0 j16 kp)
 (cl n111 [x0, (.str n6 (nat_lit 121437875889522))] h66 (fun x85 h86 =>
 IFB x85 (B239x104 x3 h86 cl x0 j16 kp)
 (B239x142 cl x0 h86 x3 j16 kp)) kp)) kp)) kp
def B239x144 (cl : CL) (x0 : AV) (h36 : Heap) (x3 : AV) (j16 : Heap → Ans) (kp : KP) : Ans := cl n111 [x0, (.str n5 (nat_lit 461195539042))] h36 (fun x47 h48 =>
 IFB x47 (FA n0 x3 fun x51 =>
 ST n1 x51 (.int .i64 n47) h48 fun h52 =>
 j16  h52)
 (cl n111 [x0, (.str n8 (nat_lit 7310870969309884259))] h48 (fun x53 h54 =>
 IFB x53 (FA n0 x3 fun x57 =>
 ST n1 x57 (.int .i64 n48) h54 fun h58 =>
 j16  h58)
 (B239x143 cl x0 h54 x3 j16 kp)) kp)) kp
def B239x145 (cl : CL) (x0 : AV) (h18 : Heap) (x3 : AV) (j16 : Heap → Ans) (kp : KP) : Ans := cl n111 [x0, (.str n6 (nat_lit 112650254643824))] h18 (fun x35 h36 =>
 IFB x35 (FA n0 x3 fun x39 =>
 ST n1 x39 (.int .i64 n42) h36 fun h40 =>
 cl n289 [x0] h40 (fun x41 h42 =>
 FA n4 x3 fun x45 =>
 ST n1 x45 x41 h42 fun h46 =>
 j16  h46) kp)
 (B239x144 cl x0 h36 x3 j16 kp)) kp
def F239 (fu : Nat) (oR : Orc) (cl : CL) (args : List AV) (h1 : Heap) (kr : KR) (kp : KP) : Ans := AR1 args fun x0 =>
 OV (buildA Pr 108 [(n0, (.int .i64 n40))]) fun x2 =>
 NEWC (.n (some (.int .i64 n0)) (.n (some (.str n0 n0)) (.n (some (.int .i64 n0)) .e .e) .e) (.n (some (.str n0 n0)) (.n (some (.nilslice)) .e .e) .e)) n5 108 h1 fun x3 h4 =>
 ST n5 x3 x2 h4 fun h5 =>
 JO (fun h6 =>
 cl n169 [x0, (.str n1 n59)] h6 (fun x7 h8 =>
 LDN n5 x3 h8 fun x11 =>
 cl n173 [x0, x11] h8 (fun x12 h13 =>
 kr x12 h13) kp) kp) fun j16 =>
 cl n111 [x0, (.str n5 (nat_lit 500068610672))] h5 (fun x17 h18 =>
 IFB x17 (B239x34 x3 h18 cl x0 j16 kp)
 (B239x145 cl x0 h18 x3 j16 kp)) kp

theorem eqF239 : F239 = fun fu oR => compF Pr fu oR 239 1 := by kernel_rfl

def F241 (fu : Nat) (oR : Orc) (cl : CL) (args : List AV) (h2 : Heap) (kr : KR) (kp : KP) : Ans := AR2 args fun x0 x1 =>
 GEN (callF Pr h2 290 [x0, x1]) cl (fun x3 h4 =>
 kr x3 h4) kp

theorem eqF241 : F241 = fun fu oR => compF Pr fu oR 241 2 := by kernel_rfl

def F246 (fu : Nat) (oR : Orc) (cl : CL) (args : List AV) (h1 : Heap) (kr : KR) (kp : KP) : Ans := AR1 args fun x0 =>
 cl n292 [x0, (.int .i64 n10)] h1 (fun x2 h3 =>
 kr x2 h3) kp

theorem eqF246 : F246 = fun fu oR => compF Pr fu oR 246 1 := by kernel_rfl

def B247x28 (x7 : AV) (x3 : AV) (j5 : AV → Heap → Ans) (kr : KR) (x16 : AV) (x18 : AV) (h19 : Heap) : Ans := JO (fun x20 h21 =>
 SEL x7 x20 (.bool false) fun x22 =>
 IFB x22 (LENT x3 fun x23 =>
 SUB Pr 3 true x23 (.int .i64 n1) fun x24 =>
 OV (sliceA Pr 9 x3 none (some x24) none) fun x25 =>
 j5 x25 h21)
 (kr x3 h21)) fun j26 =>
 GW true x7 (EQL Pr 5 false x16 x18 fun x27 =>
 j26 x27 h19)
 (j26 undefA h19)
def B247x34 (x7 : AV) (x3 : AV) (j5 : AV → Heap → Ans) (kr : KR) (x1 : AV) (x8 : AV) (x12 : AV) (h13 : Heap) : Ans := JO (fun x14 h15 =>
 JO (fun x16 h17 =>
 JO (fun x18 h19 =>
 B247x28 x7 x3 j5 kr x16 x18 h19) fun j29 =>
 GW true x7 (j29 x1 h17)
 (j29 undefA h17)) fun j30 =>
 GW true x7 (SAT x8 x14 fun x31 =>
 j30 x31 h15)
 (j30 undefA h15)) fun j32 =>
 GW true x7 (SUB Pr 3 true x12 (.int .i64 n1) fun x33 =>
 j32 x33 h13)
 (j32 undefA h13)
def B247x39 (x3 : AV) (j5 : AV → Heap → Ans) (kr : KR) (x1 : AV) (h4 : Heap) : Ans := LENT x3 fun x6 =>
 GTR Pr 3 true x6 (.int .i64 n0) fun x7 =>
 JO (fun x8 h9 =>
 JO (fun x10 h11 =>
 JO (fun x12 h13 =>
 B247x34 x7 x3 j5 kr x1 x8 x12 h13) fun j35 =>
 GW true x7 (LENT x10 fun x36 =>
 j35 x36 h11)
 (j35 undefA h11)) fun j37 =>
 GW true x7 (j37 x3 h9)
 (j37 undefA h9)) fun j38 =>
 GW true x7 (j38 x3 h4)
 (j38 undefA h4)
def F247 (fu : Nat) (oR : Orc) (cl : CL) (args : List AV) (h2 : Heap) (kr : KR) (kp : KP) : Ans := AR2 args fun x0 x1 =>
 LP fu (fun _ _ => Ans.no) (fun j5 x3 h4 =>
 B247x39 x3 j5 kr x1 h4) x0 h2

theorem eqF247 : F247 = fun fu oR => compF Pr fu oR 247 2 := by kernel_rfl

def F252 (fu : Nat) (oR : Orc) (cl : CL) (args : List AV) (h0 : Heap) (kr : KR) (kp : KP) : Ans := AR0 args <|
 BSL n9 n1 [(.str n0 n0), (.str n0 n0), (.str n0 n0), (.str n0 n0), (.str n0 n0), (.str n0 n0), (.str n0 n0), (.str n0 n0), (.str n0 n0), (.str n0 n0), (.str n0 n0), (.str n0 n0), (.str n0 n0), (.str n0 n0), (.str n0 n0), (.str n0 n0), (.str n0 n0), (.str n0 n0), (.str n0 n0), (.str n0 n0), (.str n0 n0), (.str n0 n0)] n22 [(n0, (.str n5 (nat_lit 336236856642))), (n1, (.str n3 (nat_lit 4476485))), (n2, (.str n8 (nat_lit 7957695015192261990))), (n3, (.str n2 (nat_lit 26217))), (n4, (.str n4 (nat_lit 1702063205))), (n5, (.str n5 (nat_lit 435610544247))), (n6, (.str n3 (nat_lit 7499622))), (n7, (.str n2 (nat_lit 28265))), (n8, (.str n5 (nat_lit 461195539042))), (n9, (.str n8 (nat_lit 7310870969309884259))), (n10, (.str n4 (nat_lit 1954047342))), (n11, (.str n4 (nat_lit 1953069157))), (n12, (.str n6 (nat_lit 121437875889522))), (n13, (.str n6 (nat_lit 111550592214372))), (n14, (.str n5 (nat_lit 500068610672))), (n15, (.str n6 (nat_lit 112650254643824))), (n16, (.str n6 (nat_lit 114849160783212))), (n17, (.str n6 (nat_lit 125844477605235))), (n18, (.str n5 (nat_lit 517097156201))), (n19, (.str n5 (nat_lit 499984920691))), (n20, (.str n7 (nat_lit 32199680942501748))), (n21, (.str n3 (nat_lit 7630441)))] h0 fun x1 h2 =>
 kr x1 h2

theorem eqF252 : F252 = fun fu oR => compF Pr fu oR 252 0 := by kernel_rfl

def B253x24 (x5 : AV) (kr : KR) (x1 : AV) (x6 : AV) (x10 : AV) (h11 : Heap) : Ans := JO (fun x12 h13 =>
 JO (fun x14 h15 =>
 JO (fun x16 h17 =>
 SEL x5 x16 (.bool false) fun x18 =>
 kr x18 h17) fun j19 =>
 GW true x5 (EQL Pr 9 false x12 x14 fun x20 =>
 j19 x20 h15)
 (j19 undefA h15)) fun j21 =>
 GW true x5 (j21 x1 h13)
 (j21 undefA h13)) fun j22 =>
 GW true x5 (OV (sliceA Pr 9 x6 none (some x10) none) fun x23 =>
 j22 x23 h11)
 (j22 undefA h11)
def F253 (fu : Nat) (oR : Orc) (cl : CL) (args : List AV) (h2 : Heap) (kr : KR) (kp : KP) : Ans := AR2 args fun x0 x1 =>
 LENT x0 fun x3 =>
 LENT x1 fun x4 =>
 GEQ Pr 3 false x3 x4 fun x5 =>
 JO (fun x6 h7 =>
 JO (fun x8 h9 =>
 JO (fun x10 h11 =>
 B253x24 x5 kr x1 x6 x10 h11) fun j25 =>
 GW true x5 (LENT x8 fun x26 =>
 j25 x26 h9)
 (j25 undefA h9)) fun j27 =>
 GW true x5 (j27 x1 h7)
 (j27 undefA h7)) fun j28 =>
 GW true x5 (j28 x0 h2)
 (j28 undefA h2)

theorem eqF253 : F253 = fun fu oR => compF Pr fu oR 253 2 := by kernel_rfl

def B254x31 (x0 : AV) (h4 : Heap) (x1 : AV) (x3 : AV) (kr : KR) : Ans := NC x0 fun x20 =>
 FA n0 x20 fun x21 =>
 LD x21 h4 fun x22 =>
 NC x0 fun x23 =>
 FA n1 x23 fun x24 =>
 LD x24 h4 fun x25 =>
 ADD Pr 3 false x25 x1 fun x26 =>
 SA n4 x22 x26 fun x27 =>
 LDN n4 x27 h4 fun x28 =>
 ST n4 x3 x28 h4 fun h29 =>
 LDN n4 x3 h29 fun x30 =>
 kr x30 h29
def F254 (fu : Nat) (oR : Orc) (cl : CL) (args : List AV) (h2 : Heap) (kr : KR) (kp : KP) : Ans := AR2 args fun x0 x1 =>
 NEWC (.n (some (.int .i64 n0)) (.n (some (.str n0 n0)) (.n (some (.int .i64 n0)) .e .e) .e) (.n (some (.int .i64 n0)) .e .e)) n4 130 h2 fun x3 h4 =>
 NC x0 fun x5 =>
 FA n1 x5 fun x6 =>
 LD x6 h4 fun x7 =>
 ADD Pr 3 false x7 x1 fun x8 =>
 NC x0 fun x9 =>
 FA n0 x9 fun x10 =>
 LD x10 h4 fun x11 =>
 LENS x11 fun x12 =>
 GEQ Pr 3 false x8 x12 fun x13 =>
 IFB x13 (NC x0 fun x14 =>
 FA n2 x14 fun x15 =>
 LD x15 h4 fun x16 =>
 OV (buildA Pr 130 [(n3, x16)]) fun x17 =>
 ST n4 x3 x17 h4 fun h18 =>
 LDN n4 x3 h18 fun x19 =>
 kr x19 h18)
 (B254x31 x0 h4 x1 x3 kr)

theorem eqF254 : F254 = fun fu oR => compF Pr fu oR 254 2 := by kernel_rfl

def B255x27 (x8 : AV) (kr : KR) (cl : CL) (x9 : AV) (kp : KP) (x4 : AV) (h10 : Heap) : Ans := JO (fun x11 h12 =>
 JO (fun x13 h14 =>
 JO (fun x15 h16 =>
 SEL x8 x15 (.bool false) fun x17 =>
 kr x17 h16) fun j18 =>
 GW true x8 (cl n213 [x9, x13] h14 (fun x19 h20 =>
 j18 x19 h20) kp)
 (j18 undefA h14)) fun j23 =>
 GW true x8 (LD x11 h12 fun x24 =>
 j23 x24 h12)
 (j23 undefA h12)) fun j25 =>
 GW true x8 (FA n1 x4 fun x26 =>
 j25 x26 h10)
 (j25 undefA h10)
def F255 (fu : Nat) (oR : Orc) (cl : CL) (args : List AV) (h3 : Heap) (kr : KR) (kp : KP) : Ans := AR3 args fun x0 x1 x2 =>
 BOX 130 x0 h3 fun x4 h5 =>
 FA n0 x4 fun x6 =>
 LD x6 h5 fun x7 =>
 EQL Pr 3 false x7 x1 fun x8 =>
 JO (fun x9 h10 =>
 B255x27 x8 kr cl x9 kp x4 h10) fun j28 =>
 GW true x8 (j28 x2 h5)
 (j28 undefA h5)

theorem eqF255 : F255 = fun fu oR => compF Pr fu oR 255 3 := by kernel_rfl

def B257x22 (x0 : AV) (h3 : Heap) (x1 : AV) (cl : CL) (kr : KR) (kp : KP) : Ans := NC x0 fun x4 =>
 FA n3 x4 fun x5 =>
 LD x5 h3 fun x6 =>
 ADD Pr 3 true x6 (.int .i64 n1) fun x7 =>
 NC x0 fun x8 =>
 FA n3 x8 fun x9 =>
 ST n1 x9 x7 h3 fun h10 =>
 GEN (callV Pr (some x1) [] h10) cl (fun x11 h12 =>
 NC x0 fun x15 =>
 FA n3 x15 fun x16 =>
 LD x16 h12 fun x17 =>
 SUB Pr 3 true x17 (.int .i64 n1) fun x18 =>
 NC x0 fun x19 =>
 FA n3 x19 fun x20 =>
 ST n1 x20 x18 h12 fun h21 =>
 kr x11 h21) kp
def F257 (fu : Nat) (oR : Orc) (cl : CL) (args : List AV) (h2 : Heap) (kr : KR) (kp : KP) : Ans := AR2 args fun x0 x1 =>
 JO (fun h3 =>
 B257x22 x0 h3 x1 cl kr kp) fun j23 =>
 NC x0 fun x24 =>
 FA n3 x24 fun x25 =>
 LD x25 h2 fun x26 =>
 EQL Pr 3 true x26 (.int .i64 n40) fun x27 =>
 IFB x27 (cl n256 [x0] h2 (fun x28 h29 =>
 j23  h29) kp)
 (j23  h2)

theorem eqF257 : F257 = fun fu oR => compF Pr fu oR 257 2 := by kernel_rfl

def B258x42 (x0 : AV) (h27 : Heap) (cl : CL) (x3 : AV) (x26 : AV) (kr : KR) (kp : KP) : Ans := LD x0 h27 fun x28 =>
 LD x0 h27 fun x29 =>
 cl n204 [x29] h27 (fun x30 h31 =>
 LD x0 h31 fun x34 =>
 EQV x28 x34 <|
 BSL n3 n1 [(.int .i64 n0), (.int .i64 n0)] n2 [(n0, x3), (n1, x30)] h31 fun x35 h36 =>
 LD x0 h36 fun x37 =>
 EQV x28 x37 <|
 cl n260 [x28, x26, x35] h36 (fun x38 h39 =>
 kr x38 h39) kp) kp
def B258x51 (x0 : AV) (cl : CL) (x3 : AV) (kr : KR) (kp : KP) (h23 : Heap) : Ans := JO (fun x26 h27 =>
 B258x42 x0 h27 cl x3 x26 kr kp) fun j43 =>
 LD x0 h23 fun x44 =>
 cl n200 [x44] h23 (fun x45 h46 =>
 OV (fieldA Pr 130 x45 1) fun x49 =>
 EQL Pr 9 true x49 (.str n2 (nat_lit 15659)) fun x50 =>
 IFB x50 (j43 (.int .i64 n8) h46)
 (j43 (.int .i64 n7) h46)) kp
def B258x52 (x0 : AV) (h18 : Heap) (cl : CL) (x3 : AV) (kr : KR) (kp : KP) (j16 : Heap → Ans) : Ans := LD x0 h18 fun x19 =>
 BSL n9 n1 [(.str n0 n0), (.str n0 n0)] n2 [(n0, (.str n1 n61)), (n1, (.str n2 (nat_lit 15659)))] h18 fun x20 h21 =>
 cl n203 [x19, x20] h21 (fun x22 h23 =>
 IFB x22 (B258x51 x0 cl x3 kr kp h23)
 (j16  h23)) kp
def F258 (fu : Nat) (oR : Orc) (cl : CL) (args : List AV) (h1 : Heap) (kr : KR) (kp : KP) : Ans := AR1 args fun x0 =>
 LD x0 h1 fun x2 =>
 cl n259 [x2] h1 (fun x3 h4 =>
 LD x0 h4 fun x7 =>
 NC x7 fun x8 =>
 FA n4 x8 fun x9 =>
 FA n0 x9 fun x10 =>
 LD x10 h4 fun x11 =>
 SA n5 x11 x3 fun x12 =>
 FA n0 x12 fun x13 =>
 LD x13 h4 fun x14 =>
 JO (fun h15 =>
 kr x3 h15) fun j16 =>
 JO (fun x17 h18 =>
 IFB x17 (B258x52 x0 h18 cl x3 kr kp j16)
 (j16  h18)) fun j53 =>
 EQL Pr 3 true x14 (.int .i64 n3) fun x54 =>
 IFB x54 (j53 x54 h4)
 (EQL Pr 3 true x14 (.int .i64 n4) fun x55 =>
 IFB x55 (j53 x55 h4)
 (EQL Pr 3 true x14 (.int .i64 n5) fun x56 =>
 j53 x56 h4))) kp

theorem eqF258 : F258 = fun fu oR => compF Pr fu oR 258 1 := by kernel_rfl

def B259x38 (x0 : AV) (h9 : Heap) (cl : CL) (x2 : AV) (kr : KR) (kp : KP) : Ans := NC x0 fun x13 =>
 FA n1 x13 fun x14 =>
 LD x14 h9 fun x15 =>
 ADD Pr 3 true x15 (.int .i64 n1) fun x16 =>
 NC x0 fun x17 =>
 FA n1 x17 fun x18 =>
 ST n1 x18 x16 h9 fun h19 =>
 cl n204 [x0] h19 (fun x20 h21 =>
 cl n202 [x0, (.str n1 n58)] h21 (fun x24 h25 =>
 cl n204 [x0] h25 (fun x28 h29 =>
 BSL n3 n1 [(.int .i64 n0), (.int .i64 n0), (.int .i64 n0)] n3 [(n0, x2), (n1, x20), (n2, x28)] h29 fun x32 h33 =>
 cl n260 [x0, (.int .i64 n9), x32] h33 (fun x34 h35 =>
 kr x34 h35) kp) kp) kp) kp
def F259 (fu : Nat) (oR : Orc) (cl : CL) (args : List AV) (h1 : Heap) (kr : KR) (kp : KP) : Ans := AR1 args fun x0 =>
 cl n296 [x0] h1 (fun x2 h3 =>
 BSL n9 n1 [(.str n0 n0)] n1 [(n0, (.str n1 n63))] h3 fun x6 h7 =>
 cl n203 [x0, x6] h7 (fun x8 h9 =>
 OV (unOpA .not x8) fun x12 =>
 IFB x12 (kr x2 h9)
 (B259x38 x0 h9 cl x2 kr kp)) kp) kp

theorem eqF259 : F259 = fun fu oR => compF Pr fu oR 259 1 := by kernel_rfl

def F260 (fu : Nat) (oR : Orc) (cl : CL) (args : List AV) (h3 : Heap) (kr : KR) (kp : KP) : Ans := AR3 args fun x0 x1 x2 =>
 OV (buildA Pr 108 [(n0, x1), (n4, x2)]) fun x4 =>
 cl n297 [x0, x4] h3 (fun x5 h6 =>
 kr x5 h6) kp

theorem eqF260 : F260 = fun fu oR => compF Pr fu oR 260 3 := by kernel_rfl

def F261 (fu : Nat) (oR : Orc) (cl : CL) (args : List AV) (h1 : Heap) (kr : KR) (kp : KP) : Ans := AR1 args fun x0 =>
 cl n257 [x0, (.func (.func 298) [x0] [])] h1 (fun x2 h3 =>
 kr x2 h3) kp

theorem eqF261 : F261 = fun fu oR => compF Pr fu oR 261 1 := by kernel_rfl

def B264x59 (x33 : AV) (x0 : AV) (j7 : Heap → Ans) (cl : CL) (x40 : AV) (h41 : Heap) (kp : KP) : Ans := JO (fun x42 h43 =>
 SEL x33 x42 (.bool false) fun x44 =>
 IFB x44 (NC x0 fun x45 =>
 FA n2 x45 fun x46 =>
 LD x46 h43 fun x47 =>
 NC x47 fun x48 =>
 FA n1 x48 fun x49 =>
 LD x49 h43 fun x50 =>
 NC x0 fun x51 =>
 FA n1 x51 fun x52 =>
 ST n1 x52 x50 h43 fun h53 =>
 j7  h53)
 (j7  h43)) fun j54 =>
 GW true x33 (cl n264 [x40] h41 (fun x55 h56 =>
 j54 x55 h56) kp)
 (j54 undefA h41)
def B264x66 (x33 : AV) (x0 : AV) (j7 : Heap → Ans) (cl : CL) (kp : KP) (x34 : AV) (h35 : Heap) : Ans := JO (fun x36 h37 =>
 JO (fun x38 h39 =>
 JO (fun x40 h41 =>
 B264x59 x33 x0 j7 cl x40 h41 kp) fun j60 =>
 GW true x33 (LD x38 h39 fun x61 =>
 j60 x61 h39)
 (j60 undefA h39)) fun j62 =>
 GW true x33 (FA n2 x36 fun x63 =>
 j62 x63 h37)
 (j62 undefA h37)) fun j64 =>
 GW true x33 (NC x34 fun x65 =>
 j64 x65 h35)
 (j64 undefA h35)
def B264x72 (x22 : AV) (x0 : AV) (j7 : Heap → Ans) (cl : CL) (kp : KP) (x27 : AV) (h28 : Heap) : Ans := JO (fun x29 h30 =>
 JO (fun x31 h32 =>
 SEL x22 x31 (.bool false) fun x33 =>
 JO (fun x34 h35 =>
 B264x66 x33 x0 j7 cl kp x34 h35) fun j67 =>
 GW true x33 (j67 x0 h32)
 (j67 undefA h32)) fun j68 =>
 GW true x22 (NEQ Pr 230 true x29 (.nilp) fun x69 =>
 j68 x69 h30)
 (j68 undefA h30)) fun j70 =>
 GW true x22 (LD x27 h28 fun x71 =>
 j70 x71 h28)
 (j70 undefA h28)
def B264x78 (x11 : AV) (x20 : AV) (x0 : AV) (j7 : Heap → Ans) (cl : CL) (kp : KP) (h21 : Heap) : Ans := SEL x11 x20 (.bool false) fun x22 =>
 JO (fun x23 h24 =>
 JO (fun x25 h26 =>
 JO (fun x27 h28 =>
 B264x72 x22 x0 j7 cl kp x27 h28) fun j73 =>
 GW true x22 (FA n2 x25 fun x74 =>
 j73 x74 h26)
 (j73 undefA h26)) fun j75 =>
 GW true x22 (NC x23 fun x76 =>
 j75 x76 h24)
 (j75 undefA h24)) fun j77 =>
 GW true x22 (j77 x0 h21)
 (j77 undefA h21)
def B264x85 (x11 : AV) (x0 : AV) (j7 : Heap → Ans) (cl : CL) (kp : KP) (x14 : AV) (h15 : Heap) : Ans := JO (fun x16 h17 =>
 JO (fun x18 h19 =>
 JO (fun x20 h21 =>
 B264x78 x11 x20 x0 j7 cl kp h21) fun j79 =>
 GW true x11 (EQL Pr 270 true x18 (.nilp) fun x80 =>
 j79 x80 h19)
 (j79 undefA h19)) fun j81 =>
 GW true x11 (LD x16 h17 fun x82 =>
 j81 x82 h17)
 (j81 undefA h17)) fun j83 =>
 GW true x11 (FA n0 x14 fun x84 =>
 j83 x84 h15)
 (j83 undefA h15)
def F264 (fu : Nat) (oR : Orc) (cl : CL) (args : List AV) (h1 : Heap) (kr : KR) (kp : KP) : Ans := AR1 args fun x0 =>
 JO (fun h2 =>
 NC x0 fun x3 =>
 FA n1 x3 fun x4 =>
 LD x4 h2 fun x5 =>
 NEQ Pr 189 true x5 (.nilmap) fun x6 =>
 kr x6 h2) fun j7 =>
 NC x0 fun x8 =>
 FA n1 x8 fun x9 =>
 LD x9 h1 fun x10 =>
 EQL Pr 189 true x10 (.nilmap) fun x11 =>
 JO (fun x12 h13 =>
 JO (fun x14 h15 =>
 B264x85 x11 x0 j7 cl kp x14 h15) fun j86 =>
 GW true x11 (NC x12 fun x87 =>
 j86 x87 h13)
 (j86 undefA h13)) fun j88 =>
 GW true x11 (j88 x0 h1)
 (j88 undefA h1)

theorem eqF264 : F264 = fun fu oR => compF Pr fu oR 264 1 := by kernel_rfl

def F265 (fu : Nat) (oR : Orc) (cl : CL) (args : List AV) (h2 : Heap) (kr : KR) (kp : KP) : Ans := AR2 args fun x0 x1 =>
 LENS x0 fun x3 =>
 LP fu (fun _ _ => Ans.no) (fun j6 x4 h5 =>
 LSS Pr 3 false x4 x3 fun x7 =>
 IFB x7 (SA n1 x0 x4 fun x8 =>
 LD x8 h5 fun x9 =>
 EQL Pr 9 false x1 x9 fun x10 =>
 IFB x10 (kr x4 h5)
 (ADD Pr 3 true x4 (.int .i64 n1) fun x11 =>
 j6 x11 h5))
 (kr (.int .i64 (nat_lit 18446744073709551615)) h5)) (.int .i64 n0) h2

theorem eqF265 : F265 = fun fu oR => compF Pr fu oR 265 2 := by kernel_rfl

def B266x31 (x8 : AV) (kr : KR) (x13 : AV) (x17 : AV) (x7 : AV) (h18 : Heap) : Ans := JO (fun x19 h20 =>
 JO (fun x21 h22 =>
 JO (fun x23 h24 =>
 SEL x8 x23 (.bool false) fun x25 =>
 kr x25 h24) fun j26 =>
 GW true x8 (EQL Pr 3 false x13 x21 fun x27 =>
 j26 x27 h22)
 (j26 undefA h22)) fun j28 =>
 GW true x8 (SUB Pr 3 false x17 x19 fun x29 =>
 j28 x29 h20)
 (j28 undefA h20)) fun j30 =>
 GW true x8 (j30 x7 h18)
 (j30 undefA h18)
def B266x40 (x8 : AV) (kr : KR) (x7 : AV) (x0 : AV) (cl : CL) (x9 : AV) (x11 : AV) (h12 : Heap) (kp : KP) : Ans := JO (fun x13 h14 =>
 JO (fun x15 h16 =>
 JO (fun x17 h18 =>
 B266x31 x8 kr x13 x17 x7 h18) fun j32 =>
 GW true x8 (LENT x15 fun x33 =>
 j32 x33 h16)
 (j32 undefA h16)) fun j34 =>
 GW true x8 (j34 x0 h14)
 (j34 undefA h14)) fun j35 =>
 GW true x8 (cl n133 [x9, x11, (.func (.func 132) [] [])] h12 (fun x36 h37 =>
 j35 x36 h37) kp)
 (j35 undefA h12)
def F266 (fu : Nat) (oR : Orc) (cl : CL) (args : List AV) (h1 : Heap) (kr : KR) (kp : KP) : Ans := AR1 args fun x0 =>
 cl n191 [x0] h1 (fun x2 h3 =>
 EX n0 x2 fun x6 =>
 EX n1 x2 fun x7 =>
 GTR Pr 3 true x7 (.int .i64 n0) fun x8 =>
 JO (fun x9 h10 =>
 JO (fun x11 h12 =>
 B266x40 x8 kr x7 x0 cl x9 x11 h12 kp) fun j41 =>
 GW true x8 (j41 x7 h10)
 (j41 undefA h10)) fun j42 =>
 GW true x8 (j42 x0 h3)
 (j42 undefA h3)) kp

theorem eqF266 : F266 = fun fu oR => compF Pr fu oR 266 1 := by kernel_rfl

def F269 (fu : Nat) (oR : Orc) (cl : CL) (args : List AV) (h2 : Heap) (kr : KR) (kp : KP) : Ans := AR2 args fun x0 x1 =>
 cl n306 [x0, x1] h2 (fun x3 h4 =>
 OV (unOpA .not x3) fun x7 =>
 IFB x7 (kr (.tuple [(.int .i64 n0), (.bool false)]) h4)
 (ADD Pr 3 false x0 x1 fun x8 =>
 cl n307 [x8] h4 (fun x9 h10 =>
 EX n0 x9 fun x13 =>
 EX n1 x9 fun x14 =>
 kr (.tuple [x13, x14]) h10) kp)) kp

theorem eqF269 : F269 = fun fu oR => compF Pr fu oR 269 2 := by kernel_rfl

def F285 (fu : Nat) (oR : Orc) (cl : CL) (args : List AV) (h1 : Heap) (kr : KR) (kp : KP) : Ans := AR1 args fun x0 =>
 cl n313 [x0] h1 (fun x2 h3 =>
 EX n0 x2 fun x6 =>
 EX n1 x2 fun x7 =>
 NEQ Pr 167 true x7 (.niliface) fun x8 =>
 IFB x8 (cl n314 [(.str n4 (nat_lit 1768911937)), x0, (.int .i64 n0), (.int .i64 n0), x7] h3 (fun x9 h10 =>
 kr (.tuple [x6, x9]) h10) kp)
 (kr (.tuple [x6, (.niliface)]) h3)) kp

theorem eqF285 : F285 = fun fu oR => compF Pr fu oR 285 1 := by kernel_rfl

def B286x59 (cl : CL) (x23 : AV) (h36 : Heap) (x16 : AV) (x21 : AV) (j34 : Heap → Ans) (kp : KP) : Ans := cl n123 [x23] h36 (fun x40 h41 =>
 SUB Pr 3 false x16 x40 fun x44 =>
 cl n123 [x23] h41 (fun x45 h46 =>
 OPV (builtinF .min Pr [3, 3, 3] [x44, x45, x21] h46) fun x49 =>
 cl n58 [x23] h46 (fun x50 h51 =>
 OV (sliceA Pr 9 x50 none (some x49) none) fun x54 =>
 cl n122 [x23, x54] h51 (fun x55 h56 =>
 j34  h56) kp) kp) kp) kp
def B286x64 (h22 : Heap) (cl : CL) (x16 : AV) (x0 : AV) (fu : Nat) (x21 : AV) (kp : KP) (kr : KR) : Ans := NEWC (.n (some (.nilp)) (.n (some (.nilslice)) .e .e) .e) n2 100 h22 fun x23 h24 =>
 cl n130 [x23, x16] h24 (fun x25 h26 =>
 cl n122 [x23, x0] h26 (fun x29 h30 =>
 LP fu (fun _ => Ans.no) (fun j34 h33 =>
 cl n123 [x23] h33 (fun x35 h36 =>
 LSS Pr 3 false x35 x16 fun x39 =>
 IFB x39 (B286x59 cl x23 h36 x16 x21 j34 kp)
 (cl n58 [x23] h36 (fun x60 h61 =>
 kr x60 h61) kp)) kp)  h30) kp) kp
def B286x73 (cl : CL) (x16 : AV) (x0 : AV) (fu : Nat) (kp : KP) (kr : KR) (h20 : Heap) : Ans := JO (fun x21 h22 =>
 B286x64 h22 cl x16 x0 fu x21 kp kr) fun j65 =>
 GTR Pr 3 true x16 (.int .i64 n8192) fun x66 =>
 IFB x66 (LENT x0 fun x67 =>
 BOP Pr .quo 3 true (.int .i64 n8192) x67 fun x68 =>
 LENT x0 fun x69 =>
 BOP Pr .mul 3 false x68 x69 fun x70 =>
 EQL Pr 3 true x70 (.int .i64 n0) fun x71 =>
 IFB x71 (LENT x0 fun x72 =>
 j65 x72 h20)
 (j65 x70 h20))
 (j65 x16 h20)
def B286x84 (x16 : AV) (kr : KR) (h81 : Heap) : Ans := OV (sliceA Pr 9 (.str n128 (nat_lit 22559286398272199626406967100097565284617750323981886402940245478617433826572669883320279507125651579120955467277978774294436363145338556548122030511620282274857147410179198152320278538195588281656857468496941900403218909156701224341824390342378319957753789576104947230111026941299415379430319225678334009376)) none (some x16) none) fun x83 =>
 kr x83 h81
def B286x92 (x16 : AV) (kr : KR) (h89 : Heap) : Ans := OV (sliceA Pr 9 (.str n128 (nat_lit 31723996497570280724634797484512201181493711393099527754134720204305766318617817023419143056895447533138843625859657651351551135673132345145796605406966021949017863545564497401700391694337546021079955815073824547442026591001611096730690548918969512440591266591397582042343631636202302877323886411110157200685)) none (some x16) none) fun x91 =>
 kr x91 h89
def B286x107 (x16 : AV) (kr : KR) (h104 : Heap) : Ans := OV (sliceA Pr 9 (.str n128 (nat_lit 43003639696706380537838281034560983823802586555090470955604842943614483231904151965079282810458273322699321359498647038498769317245801623419857620662776163086446437250654096477860530963435340161908384549322295497643636045579961708901602744090158672419468161379450055657399145106852010567039046023949324205373)) none (some x16) none) fun x106 =>
 kr x106 h104
def B286x115 (x108 : AV) (x111 : AV) (x16 : AV) (kr : KR) (h112 : Heap) (j74 : Heap → Ans) : Ans := SEL x108 x111 (.bool false) fun x113 =>
 IFB x113 (OV (sliceA Pr 9 (.str n64 (nat_lit 473216750468562250573200882289618098616918793667966825096125698013709318708478128593007328170596591565530536171287742971308960569833408351050599376685321)) none (some x16) none) fun x114 =>
 kr x114 h112)
 (j74  h112)
def B286x121 (x108 : AV) (x16 : AV) (kr : KR) (j74 : Heap → Ans) (cl : CL) (x109 : AV) (h110 : Heap) (kp : KP) : Ans := JO (fun x111 h112 =>
 B286x115 x108 x111 x16 kr h112 j74) fun j116 =>
 GW true x108 (cl n198 [(.str n64 (nat_lit 473216750468562250573200882289618098616918793667966825096125698013709318708478128593007328170596591565530536171287742971308960569833408351050599376685321)), x109] h110 (fun x117 h118 =>
 j116 x117 h118) kp)
 (j116 undefA h110)
def B286x128 (cl : CL) (x101 : AV) (h102 : Heap) (j123 : AV → Heap → Ans) (kp : KP) : Ans := cl n198 [(.str n128 (nat_lit 43003639696706380537838281034560983823802586555090470955604842943614483231904151965079282810458273322699321359498647038498769317245801623419857620662776163086446437250654096477860530963435340161908384549322295497643636045579961708901602744090158672419468161379450055657399145106852010567039046023949324205373)), x101] h102 (fun x124 h125 =>
 j123 x124 h125) kp
def B286x129 (x100 : AV) (x16 : AV) (kr : KR) (j74 : Heap → Ans) (cl : CL) (kp : KP) (x0 : AV) (x101 : AV) (h102 : Heap) : Ans := JO (fun x103 h104 =>
 SEL x100 x103 (.bool false) fun x105 =>
 IFB x105 (B286x107 x16 kr h104)
 (LEQ Pr 3 true x16 (.int .i64 n64) fun x108 =>
 JO (fun x109 h110 =>
 B286x121 x108 x16 kr j74 cl x109 h110 kp) fun j122 =>
 GW true x108 (j122 x0 h104)
 (j122 undefA h104))) fun j123 =>
 GW true x100 (B286x128 cl x101 h102 j123 kp)
 (j123 undefA h102)
def B286x131 (x93 : AV) (x96 : AV) (x16 : AV) (kr : KR) (h97 : Heap) (j74 : Heap → Ans) (cl : CL) (kp : KP) (x0 : AV) : Ans := SEL x93 x96 (.bool false) fun x98 =>
 IFB x98 (OV (sliceA Pr 9 (.str n64 (nat_lit 2523822669165665336390404705544629859290233566229156400512670389406449699778550019162705750243181821682829526246867962513647789705778177872269863342321712)) none (some x16) none) fun x99 =>
 kr x99 h97)
 (LEQ Pr 3 true x16 (.int .i64 n128) fun x100 =>
 JO (fun x101 h102 =>
 B286x129 x100 x16 kr j74 cl kp x0 x101 h102) fun j130 =>
 GW true x100 (j130 x0 h97)
 (j130 undefA h97))
def B286x137 (x93 : AV) (x16 : AV) (kr : KR) (j74 : Heap → Ans) (cl : CL) (kp : KP) (x0 : AV) (x94 : AV) (h95 : Heap) : Ans := JO (fun x96 h97 =>
 B286x131 x93 x96 x16 kr h97 j74 cl kp x0) fun j132 =>
 GW true x93 (cl n198 [(.str n64 (nat_lit 2523822669165665336390404705544629859290233566229156400512670389406449699778550019162705750243181821682829526246867962513647789705778177872269863342321712)), x94] h95 (fun x133 h134 =>
 j132 x133 h134) kp)
 (j132 undefA h95)
def B286x144 (cl : CL) (x86 : AV) (h87 : Heap) (j139 : AV → Heap → Ans) (kp : KP) : Ans := cl n198 [(.str n128 (nat_lit 31723996497570280724634797484512201181493711393099527754134720204305766318617817023419143056895447533138843625859657651351551135673132345145796605406966021949017863545564497401700391694337546021079955815073824547442026591001611096730690548918969512440591266591397582042343631636202302877323886411110157200685)), x86] h87 (fun x140 h141 =>
 j139 x140 h141) kp
def B286x145 (x85 : AV) (x16 : AV) (kr : KR) (j74 : Heap → Ans) (cl : CL) (kp : KP) (x0 : AV) (x86 : AV) (h87 : Heap) : Ans := JO (fun x88 h89 =>
 SEL x85 x88 (.bool false) fun x90 =>
 IFB x90 (B286x92 x16 kr h89)
 (LEQ Pr 3 true x16 (.int .i64 n64) fun x93 =>
 JO (fun x94 h95 =>
 B286x137 x93 x16 kr j74 cl kp x0 x94 h95) fun j138 =>
 GW true x93 (j138 x0 h89)
 (j138 undefA h89))) fun j139 =>
 GW true x85 (B286x144 cl x86 h87 j139 kp)
 (j139 undefA h87)
def B286x152 (cl : CL) (x78 : AV) (h79 : Heap) (j147 : AV → Heap → Ans) (kp : KP) : Ans := cl n198 [(.str n128 (nat_lit 22559286398272199626406967100097565284617750323981886402940245478617433826572669883320279507125651579120955467277978774294436363145338556548122030511620282274857147410179198152320278538195588281656857468496941900403218909156701224341824390342378319957753789576104947230111026941299415379430319225678334009376)), x78] h79 (fun x148 h149 =>
 j147 x148 h149) kp
def B286x153 (x77 : AV) (x16 : AV) (kr : KR) (j74 : Heap → Ans) (cl : CL) (kp : KP) (x0 : AV) (x78 : AV) (h79 : Heap) : Ans := JO (fun x80 h81 =>
 SEL x77 x80 (.bool false) fun x82 =>
 IFB x82 (B286x84 x16 kr h81)
 (LEQ Pr 3 true x16 (.int .i64 n128) fun x85 =>
 JO (fun x86 h87 =>
 B286x145 x85 x16 kr j74 cl kp x0 x86 h87) fun j146 =>
 GW true x85 (j146 x0 h81)
 (j146 undefA h81))) fun j147 =>
 GW true x77 (B286x152 cl x78 h79 j147 kp)
 (j147 undefA h79)
def B286x161 (x19 : AV) (j155 : AV → Heap → Ans) (h15 : Heap) : Ans := EQL Pr 5 true x19 (.int .u8 n45) fun x157 =>
 IFB x157 (j155 x157 h15)
 (EQL Pr 5 true x19 (.int .u8 n48) fun x158 =>
 IFB x158 (j155 x158 h15)
 (EQL Pr 5 true x19 (.int .u8 n61) fun x159 =>
 IFB x159 (j155 x159 h15)
 (EQL Pr 5 true x19 (.int .u8 n9) fun x160 =>
 j155 x160 h15)))
def B286x162 (x0 : AV) (cl : CL) (x16 : AV) (fu : Nat) (kp : KP) (kr : KR) (h15 : Heap) : Ans := SAT x0 (.int .i64 n0) fun x19 =>
 JO (fun h20 =>
 B286x73 cl x16 x0 fu kp kr h20) fun j74 =>
 JO (fun x75 h76 =>
 IFB x75 (LEQ Pr 3 true x16 (.int .i64 n128) fun x77 =>
 JO (fun x78 h79 =>
 B286x153 x77 x16 kr j74 cl kp x0 x78 h79) fun j154 =>
 GW true x77 (j154 x0 h76)
 (j154 undefA h76))
 (j74  h76)) fun j155 =>
 EQL Pr 5 true x19 (.int .u8 n32) fun x156 =>
 IFB x156 (j155 x156 h15)
 (B286x161 x19 j155 h15)
def B286x176 (x164 : AV) (cl : CL) (j163 : Heap → Ans) (kp : KP) (x165 : AV) (h166 : Heap) : Ans := JO (fun x167 h168 =>
 SEL x164 (.bool true) x167 fun x169 =>
 IFB x169 (GEN (panA (.iface n9 (.str n38 (nat_lit 15205868538892748611404032008587509992881420136446891654521229512433839121896133884415997043))) h168) cl (fun x170 h171 =>
 j163  h171) kp)
 (j163  h168)) fun j174 =>
 GW false x164 (GTR Pr 121 true x165 (.int .u64 (nat_lit 9223372036854775807)) fun x175 =>
 j174 x175 h166)
 (j174 undefA h166)
def B286x178 (x0 : AV) (h5 : Heap) (x1 : AV) (cl : CL) (kr : KR) (fu : Nat) (kp : KP) : Ans := LENT x0 fun x6 =>
 OV (convV Pr h5 3 121 x6) fun x7 =>
 OV (convV Pr h5 3 121 x1) fun x8 =>
 cl n315 [x7, x8] h5 (fun x9 h10 =>
 EX n0 x9 fun x13 =>
 EX n1 x9 fun x14 =>
 JO (fun h15 =>
 OV (convV Pr h15 121 3 x14) fun x16 =>
 LENT x0 fun x17 =>
 EQL Pr 3 true x17 (.int .i64 n0) fun x18 =>
 IFB x18 (kr (.str n0 n0) h15)
 (B286x162 x0 cl x16 fu kp kr h15)) fun j163 =>
 GTR Pr 121 true x13 (.int .u64 n0) fun x164 =>
 JO (fun x165 h166 =>
 B286x176 x164 cl j163 kp x165 h166) fun j177 =>
 GW false x164 (j177 x14 h10)
 (j177 undefA h10)) kp
def B286x185 (x0 : AV) (x1 : AV) (cl : CL) (kr : KR) (fu : Nat) (kp : KP) (h2 : Heap) : Ans := JO (fun h5 =>
 B286x178 x0 h5 x1 cl kr fu kp) fun j179 =>
 LSS Pr 3 true x1 (.int .i64 n0) fun x180 =>
 IFB x180 (GEN (panA (.iface n9 (.str n30 (nat_lit 803580537721259243851759705503370192090912361681467747059054990345794675))) h2) cl (fun x181 h182 =>
 j179  h182) kp)
 (j179  h2)
def F286 (fu : Nat) (oR : Orc) (cl : CL) (args : List AV) (h2 : Heap) (kr : KR) (kp : KP) : Ans := AR2 args fun x0 x1 =>
 EQL Pr 3 true x1 (.int .i64 n0) fun x3 =>
 IFB x3 (kr (.str n0 n0) h2)
 (EQL Pr 3 true x1 (.int .i64 n1) fun x4 =>
 IFB x4 (kr x0 h2)
 (B286x185 x0 x1 cl kr fu kp h2))

theorem eqF286 : F286 = fun fu oR => compF Pr fu oR 286 2 := by kernel_rfl

def B287x24 (cl : CL) (x0 : AV) (h10 : Heap) (x6 : AV) (j8 : AV → Heap → Ans) (kp : KP) : Ans := cl n316 [x0] h10 (fun x13 h14 =>
 BSL n3 n1 [(.int .i64 n0), (.int .i64 n0)] n2 [(n0, x6), (n1, x13)] h14 fun x17 h18 =>
 OV (buildA Pr 108 [(n0, (.int .i64 n11)), (n4, x17)]) fun x19 =>
 cl n173 [x0, x19] h18 (fun x20 h21 =>
 j8 x20 h21) kp) kp
def F287 (fu : Nat) (oR : Orc) (cl : CL) (args : List AV) (h1 : Heap) (kr : KR) (kp : KP) : Ans := AR1 args fun x0 =>
 cl n316 [x0] h1 (fun x2 h3 =>
 LP fu (fun _ _ => Ans.no) (fun j8 x6 h7 =>
 cl n111 [x0, (.str n2 n9766)] h7 (fun x9 h10 =>
 IFB x9 (B287x24 cl x0 h10 x6 j8 kp)
 (kr x6 h10)) kp) x2 h3) kp

theorem eqF287 : F287 = fun fu oR => compF Pr fu oR 287 1 := by kernel_rfl

def B289x25 (cl : CL) (x0 : AV) (h9 : Heap) (x8 : AV) (j10 : AV → Heap → Ans) (kp : KP) (kr : KR) : Ans := cl n111 [x0, (.str n1 n44)] h9 (fun x11 h12 =>
 IFB x11 (cl n114 [x0] h12 (fun x15 h16 =>
 BSL n3 n1 [(.int .i64 n0)] n1 [(n0, x15)] h16 fun x19 h20 =>
 GEN (builtinF .append Pr [106, 106] [x8, x19] h20) cl (fun x21 h22 =>
 j10 x21 h22) kp) kp)
 (kr x8 h12)) kp
def F289 (fu : Nat) (oR : Orc) (cl : CL) (args : List AV) (h1 : Heap) (kr : KR) (kp : KP) : Ans := AR1 args fun x0 =>
 cl n114 [x0] h1 (fun x2 h3 =>
 BSL n3 n1 [(.int .i64 n0)] n1 [(n0, x2)] h3 fun x6 h7 =>
 LP fu (fun _ _ => Ans.no) (fun j10 x8 h9 =>
 B289x25 cl x0 h9 x8 j10 kp kr) x6 h7) kp

theorem eqF289 : F289 = fun fu oR => compF Pr fu oR 289 1 := by kernel_rfl

def B292x38 (cl : CL) (x17 : AV) (h18 : Heap) (x14 : AV) (x0 : AV) (kr : KR) (kp : KP) : Ans := cl n318 [x17] h18 (fun x19 h20 =>
 ADD Pr 3 true (.int .i64 n1) x19 fun x23 =>
 OV (sliceA Pr 311 x14 (some (.int .i64 n1)) (some x23) none) fun x24 =>
 cl n319 [x24, x17] h20 (fun x25 h26 =>
 LSS Pr 2 true x0 (.int .i64 n0) fun x29 =>
 IFB x29 (RA n24 n1 x14 (.int .i64 n0) fun x30 =>
 ST n1 x30 (.int .u8 n45) h26 fun h31 =>
 ADD Pr 3 true (.int .i64 n1) x19 fun x32 =>
 OV (sliceA Pr 311 x14 none (some x32) none) fun x33 =>
 OV (convV Pr h31 22 9 x33) fun x34 =>
 kr x34 h31)
 (ADD Pr 3 true (.int .i64 n1) x19 fun x35 =>
 OV (sliceA Pr 311 x14 (some (.int .i64 n1)) (some x35) none) fun x36 =>
 OV (convV Pr h26 22 9 x36) fun x37 =>
 kr x37 h26)) kp) kp
def B292x42 (h8 : Heap) (x0 : AV) (cl : CL) (kr : KR) (kp : KP) : Ans := NEWC (.n (some (.int .u8 n0)) (.n (some (.int .u8 n0)) (.n (some (.int .u8 n0)) (.n (some (.int .u8 n0)) (.n (some (.int .u8 n0)) .e .e) (.n (some (.int .u8 n0)) .e .e)) (.n (some (.int .u8 n0)) (.n (some (.int .u8 n0)) .e .e) .e)) (.n (some (.int .u8 n0)) (.n (some (.int .u8 n0)) (.n (some (.int .u8 n0)) .e .e) .e) (.n (some (.int .u8 n0)) (.n (some (.int .u8 n0)) .e .e) .e))) (.n (some (.int .u8 n0)) (.n (some (.int .u8 n0)) (.n (some (.int .u8 n0)) (.n (some (.int .u8 n0)) .e .e) .e) (.n (some (.int .u8 n0)) (.n (some (.int .u8 n0)) .e .e) .e)) (.n (some (.int .u8 n0)) (.n (some (.int .u8 n0)) (.n (some (.int .u8 n0)) .e .e) .e) (.n (some (.int .u8 n0)) (.n (some (.int .u8 n0)) .e .e) .e)))) n24 311 h8 fun x14 h15 =>
 OV (convV Pr h15 2 158 x0) fun x16 =>
 JO (fun x17 h18 =>
 B292x38 cl x17 h18 x14 x0 kr kp) fun j39 =>
 LSS Pr 2 true x0 (.int .i64 n0) fun x40 =>
 IFB x40 (OV (unOpA .neg x16) fun x41 =>
 j39 x41 h15)
 (j39 x16 h15)
def B292x46 (x0 : AV) (cl : CL) (kr : KR) (kp : KP) (h2 : Heap) : Ans := LEQ Pr 2 true (.int .i64 n0) x0 fun x4 =>
 JO (fun x5 h6 =>
 JO (fun x7 h8 =>
 SEL x4 x7 (.bool false) fun x9 =>
 IFB x9 (cl n317 [x0] h8 (fun x10 h11 =>
 kr x10 h11) kp)
 (B292x42 h8 x0 cl kr kp)) fun j43 =>
 GW true x4 (LSS Pr 2 true x5 (.int .i64 n100) fun x44 =>
 j43 x44 h6)
 (j43 undefA h6)) fun j45 =>
 GW true x4 (j45 x0 h2)
 (j45 undefA h2)
def F292 (fu : Nat) (oR : Orc) (cl : CL) (args : List AV) (h2 : Heap) (kr : KR) (kp : KP) : Ans := AR2 args fun x0 x1 =>
 EQL Pr 3 true x1 (.int .i64 n10) fun x3 =>
 IFB x3 (B292x46 x0 cl kr kp h2)
 (OV (convV Pr h2 2 158 x0) fun x47 =>
 LSS Pr 2 true x0 (.int .i64 n0) fun x48 =>
 cl n320 [(.nilslice), x47, x1, x48, (.bool false)] h2 (fun x49 h50 =>
 EX n0 x49 fun x53 =>
 EX n1 x49 fun x54 =>
 kr x54 h50) kp)

theorem eqF292 : F292 = fun fu oR => compF Pr fu oR 292 2 := by kernel_rfl

def F296 (fu : Nat) (oR : Orc) (cl : CL) (args : List AV) (h1 : Heap) (kr : KR) (kp : KP) : Ans := AR1 args fun x0 =>
 BSL n9 n1 [(.str n0 n0)] n1 [(n0, (.str n2 (nat_lit 31868)))] h1 fun x2 h3 =>
 BSL n3 n1 [(.int .i64 n0)] n1 [(n0, (.int .i64 n10))] h3 fun x4 h5 =>
 cl n323 [x0, (.func (.func 324) [x0] []), x2, x4] h5 (fun x6 h7 =>
 kr x6 h7) kp

theorem eqF296 : F296 = fun fu oR => compF Pr fu oR 296 1 := by kernel_rfl

def F297 (fu : Nat) (oR : Orc) (cl : CL) (args : List AV) (h2 : Heap) (kr : KR) (kp : KP) : Ans := AR2 args fun x0 x1 =>
 BOX 108 x1 h2 fun x3 h4 =>
 NC x0 fun x5 =>
 FA n4 x5 fun x6 =>
 FA n0 x6 fun x7 =>
 LD x7 h4 fun x8 =>
 LDN n5 x3 h4 fun x9 =>
 BSL n108 n5 [(.int .i64 n0), (.str n0 n0), (.str n0 n0), (.int .i64 n0), (.nilslice)] n1 [(n0, x9)] h4 fun x10 h11 =>
 LD x7 h11 fun x12 =>
 EQV x8 x12 <|
 GEN (builtinF .append Pr [30, 30] [x8, x10] h11) cl (fun x13 h14 =>
 NC x0 fun x17 =>
 FA n4 x17 fun x18 =>
 FA n0 x18 fun x19 =>
 ST n1 x19 x13 h14 fun h20 =>
 NC x0 fun x21 =>
 FA n4 x21 fun x22 =>
 FA n0 x22 fun x23 =>
 LD x23 h20 fun x24 =>
 LENS x24 fun x25 =>
 SUB Pr 3 true x25 (.int .i64 n1) fun x26 =>
 kr x26 h20) kp

theorem eqF297 : F297 = fun fu oR => compF Pr fu oR 297 2 := by kernel_rfl

def B298x71 (x0 : AV) (h51 : Heap) (cl : CL) (x37 : AV) (j47 : AV → Heap → Ans) (kp : KP) : Ans := NC x0 fun x54 =>
 FA n1 x54 fun x55 =>
 LD x55 h51 fun x56 =>
 ADD Pr 3 true x56 (.int .i64 n1) fun x57 =>
 NC x0 fun x58 =>
 FA n1 x58 fun x59 =>
 ST n1 x59 x57 h51 fun h60 =>
 cl n261 [x0] h60 (fun x61 h62 =>
 BSL n3 n1 [(.int .i64 n0)] n1 [(n0, x61)] h62 fun x65 h66 =>
 GEN (builtinF .append Pr [106, 106] [x37, x65] h66) cl (fun x67 h68 =>
 j47 x67 h68) kp) kp
def B298x72 (x0 : AV) (h15 : Heap) (cl : CL) (kr : KR) (kp : KP) : Ans := NC x0 fun x18 =>
 FA n1 x18 fun x19 =>
 LD x19 h15 fun x20 =>
 ADD Pr 3 true x20 (.int .i64 n1) fun x21 =>
 NC x0 fun x22 =>
 FA n1 x22 fun x23 =>
 ST n1 x23 x21 h15 fun h24 =>
 cl n325 [x0] h24 (fun x25 h26 =>
 BSL n3 n1 [(.int .i64 n0)] n1 [(n0, x25)] h26 fun x29 h30 =>
 cl n261 [x0] h30 (fun x31 h32 =>
 BSL n3 n1 [(.int .i64 n0)] n1 [(n0, x31)] h32 fun x35 h36 =>
 GEN (builtinF .append Pr [106, 106] [x29, x35] h36) cl (fun x37 h38 =>
 JO (fun x41 h42 =>
 cl n260 [x0, (.int .i64 n43), x41] h42 (fun x43 h44 =>
 kr x43 h44) kp) fun j47 =>
 BSL n9 n1 [(.str n0 n0)] n1 [(n0, (.str n4 (nat_lit 1702063205)))] h38 fun x48 h49 =>
 cl n199 [x0, x48] h49 (fun x50 h51 =>
 IFB x50 (B298x71 x0 h51 cl x37 j47 kp)
 (j47 x37 h51)) kp) kp) kp) kp
def B298x100 (x0 : AV) (h76 : Heap) (cl : CL) (kr : KR) (kp : KP) : Ans := NC x0 fun x79 =>
 FA n1 x79 fun x80 =>
 LD x80 h76 fun x81 =>
 ADD Pr 3 true x81 (.int .i64 n1) fun x82 =>
 NC x0 fun x83 =>
 FA n1 x83 fun x84 =>
 ST n1 x84 x82 h76 fun h85 =>
 cl n325 [x0] h85 (fun x86 h87 =>
 cl n261 [x0] h87 (fun x90 h91 =>
 BSL n3 n1 [(.int .i64 n0), (.int .i64 n0)] n2 [(n0, x86), (n1, x90)] h91 fun x94 h95 =>
 cl n260 [x0, (.int .i64 n44), x94] h95 (fun x96 h97 =>
 kr x96 h97) kp) kp) kp
def B298x127 (cl : CL) (x0 : AV) (h104 : Heap) (kr : KR) (kp : KP) : Ans := cl n327 [x0] h104 (fun x111 h112 =>
 NEWC (.n (some (.int .i64 n0)) (.n (some (.str n0 n0)) (.n (some (.int .i64 n0)) .e .e) .e) (.n (some (.str n0 n0)) (.n (some (.nilslice)) .e .e) .e)) n5 108 h112 fun x115 h116 =>
 ST n5 x115 x111 h116 fun h117 =>
 cl n202 [x0, (.str n1 n59)] h117 (fun x118 h119 =>
 LDN n5 x115 h119 fun x122 =>
 cl n297 [x0, x122] h119 (fun x123 h124 =>
 kr x123 h124) kp) kp) kp
def B298x128 (h76 : Heap) (cl : CL) (x0 : AV) (kr : KR) (kp : KP) : Ans := BSL n9 n1 [(.str n0 n0)] n1 [(n0, (.str n3 (nat_lit 7499622)))] h76 fun x101 h102 =>
 cl n199 [x0, x101] h102 (fun x103 h104 =>
 IFB x103 (cl n326 [x0] h104 (fun x107 h108 =>
 kr x107 h108) kp)
 (B298x127 cl x0 h104 kr kp)) kp
def B298x129 (h5 : Heap) (cl : CL) (x0 : AV) (kr : KR) (kp : KP) : Ans := BSL n9 n1 [(.str n0 n0)] n1 [(n0, (.str n2 (nat_lit 26217)))] h5 fun x12 h13 =>
 cl n199 [x0, x12] h13 (fun x14 h15 =>
 IFB x14 (B298x72 x0 h15 cl kr kp)
 (BSL n9 n1 [(.str n0 n0)] n1 [(n0, (.str n5 (nat_lit 435610544247)))] h15 fun x73 h74 =>
 cl n199 [x0, x73] h74 (fun x75 h76 =>
 IFB x75 (B298x100 x0 h76 cl kr kp)
 (B298x128 h76 cl x0 kr kp)) kp)) kp
def F298 (fu : Nat) (oR : Orc) (cl : CL) (args : List AV) (h1 : Heap) (kr : KR) (kp : KP) : Ans := AR1 args fun x0 =>
 BSL n9 n1 [(.str n0 n0)] n1 [(n0, (.str n1 n123))] h1 fun x2 h3 =>
 cl n203 [x0, x2] h3 (fun x4 h5 =>
 IFB x4 (cl n205 [x0] h5 (fun x8 h9 =>
 kr x8 h9) kp)
 (B298x129 h5 cl x0 kr kp)) kp

theorem eqF298 : F298 = fun fu oR => compF Pr fu oR 298 1 := by kernel_rfl

def F306 (fu : Nat) (oR : Orc) (cl : CL) (args : List AV) (h2 : Heap) (kr : KR) (kp : KP) : Ans := AR2 args fun x0 x1 =>
 cl n185 [x0] h2 (fun x3 h4 =>
 JO (fun x7 h8 =>
 JO (fun x9 h10 =>
 SEL x3 x9 (.bool false) fun x11 =>
 kr x11 h10) fun j12 =>
 GW true x3 (cl n185 [x7] h8 (fun x13 h14 =>
 j12 x13 h14) kp)
 (j12 undefA h8)) fun j17 =>
 GW true x3 (j17 x1 h4)
 (j17 undefA h4)) kp

theorem eqF306 : F306 = fun fu oR => compF Pr fu oR 306 2 := by kernel_rfl

def F307 (fu : Nat) (oR : Orc) (cl : CL) (args : List AV) (h1 : Heap) (kr : KR) (kp : KP) : Ans := AR1 args fun x0 =>
 cl n185 [x0] h1 (fun x2 h3 =>
 OV (unOpA .not x2) fun x6 =>
 IFB x6 (kr (.tuple [(.int .i64 n0), (.bool false)]) h3)
 (kr (.tuple [x0, (.bool true)]) h3)) kp

theorem eqF307 : F307 = fun fu oR => compF Pr fu oR 307 1 := by kernel_rfl

def F308 (fu : Nat) (oR : Orc) (cl : CL) (args : List AV) (h2 : Heap) (kr : KR) (kp : KP) : Ans := AR2 args fun x0 x1 =>
 BOP Pr .and 158 true x0 (.int .u64 (nat_lit 4294967295)) fun x3 =>
 BOP Pr .shr 158 true x0 (.int .u64 n32) fun x4 =>
 BOP Pr .and 158 true x1 (.int .u64 (nat_lit 4294967295)) fun x5 =>
 BOP Pr .shr 158 true x1 (.int .u64 n32) fun x6 =>
 BOP Pr .mul 158 false x3 x5 fun x7 =>
 BOP Pr .mul 158 false x4 x5 fun x8 =>
 BOP Pr .shr 158 true x7 (.int .u64 n32) fun x9 =>
 ADD Pr 158 false x8 x9 fun x10 =>
 BOP Pr .and 158 true x10 (.int .u64 (nat_lit 4294967295)) fun x11 =>
 BOP Pr .shr 158 true x10 (.int .u64 n32) fun x12 =>
 BOP Pr .mul 158 false x3 x6 fun x13 =>
 ADD Pr 158 false x11 x13 fun x14 =>
 BOP Pr .mul 158 false x4 x6 fun x15 =>
 ADD Pr 158 false x15 x12 fun x16 =>
 BOP Pr .shr 158 true x14 (.int .u64 n32) fun x17 =>
 ADD Pr 158 false x16 x17 fun x18 =>
 BOP Pr .mul 158 false x0 x1 fun x19 =>
 kr (.tuple [x18, x19]) h2

theorem eqF308 : F308 = fun fu oR => compF Pr fu oR 308 2 := by kernel_rfl

def B313x51 (x35 : AV) (x38 : AV) (h40 : Heap) (kr : KR) (x39 : AV) (j41 : AV → AV → Heap → Ans) : Ans := SA n1 x35 x38 fun x43 =>
 LD x43 h40 fun x44 =>
 SUB Pr 5 true x44 (.int .u8 n48) fun x45 =>
 GTR Pr 5 true x45 (.int .u8 n9) fun x46 =>
 IFB x46 (kr (.tuple [(.int .i64 n0), (.iface n327 (.int .i64 n2))]) h40)
 (BOP Pr .mul 3 true x39 (.int .i64 n10) fun x47 =>
 OV (convV Pr h40 5 3 x45) fun x48 =>
 ADD Pr 3 false x47 x48 fun x49 =>
 ADD Pr 3 true x38 (.int .i64 n1) fun x50 =>
 j41 x50 x49 h40)
def B313x58 (x38 : AV) (x37 : AV) (x35 : AV) (h40 : Heap) (kr : KR) (x39 : AV) (j41 : AV → AV → Heap → Ans) (x0 : AV) : Ans := LSS Pr 3 false x38 x37 fun x42 =>
 IFB x42 (B313x51 x35 x38 h40 kr x39 j41)
 (JO (fun x52 h53 =>
 kr (.tuple [x52, (.niliface)]) h53) fun j54 =>
 SAT x0 (.int .i64 n0) fun x55 =>
 EQL Pr 5 true x55 (.int .u8 n45) fun x56 =>
 IFB x56 (OV (unOpA .neg x39) fun x57 =>
 j54 x57 h40)
 (j54 x39 h40))
def B313x72 (x61 : AV) (x66 : AV) (x0 : AV) (kr : KR) (h67 : Heap) (j59 : AV → Heap → Ans) : Ans := SEL x61 (.bool true) x66 fun x68 =>
 IFB x68 (OV (sliceA Pr 9 x0 (some (.int .i64 n1)) none none) fun x69 =>
 LENT x69 fun x70 =>
 LSS Pr 3 true x70 (.int .i64 n1) fun x71 =>
 IFB x71 (kr (.tuple [(.int .i64 n0), (.iface n327 (.int .i64 n2))]) h67)
 (j59 x69 h67))
 (j59 x0 h67)
def B313x78 (fu : Nat) (kr : KR) (x0 : AV) (h31 : Heap) : Ans := JO (fun x33 h34 =>
 OVH (convB Pr h34 22 x33) fun x35 h36 =>
 LENS x35 fun x37 =>
 LP fu (fun _ _ _ => Ans.no) (fun j41 x38 x39 h40 =>
 B313x58 x38 x37 x35 h40 kr x39 j41 x0) (.int .i64 n0) (.int .i64 n0) h36) fun j59 =>
 SAT x0 (.int .i64 n0) fun x60 =>
 EQL Pr 5 true x60 (.int .u8 n45) fun x61 =>
 JO (fun x62 h63 =>
 JO (fun x64 h65 =>
 JO (fun x66 h67 =>
 B313x72 x61 x66 x0 kr h67 j59) fun j73 =>
 GW false x61 (EQL Pr 5 true x64 (.int .u8 n43) fun x74 =>
 j73 x74 h65)
 (j73 undefA h65)) fun j75 =>
 GW false x61 (SAT x62 (.int .i64 n0) fun x76 =>
 j75 x76 h63)
 (j75 undefA h63)) fun j77 =>
 GW false x61 (j77 x0 h31)
 (j77 undefA h31)
def B313x87 (x15 : AV) (fu : Nat) (kr : KR) (x0 : AV) (cl : CL) (kp : KP) (x16 : AV) (x28 : AV) (h29 : Heap) : Ans := JO (fun x30 h31 =>
 SEL x15 (.bool true) x30 fun x32 =>
 IFB x32 (B313x78 fu kr x0 h31)
 (cl n334 [x0, (.int .i64 n10), (.int .i64 n0)] h31 (fun x79 h80 =>
 EX n0 x79 fun x83 =>
 EX n1 x79 fun x84 =>
 kr (.tuple [x83, x84]) h80) kp)) fun j85 =>
 GW false x15 (SEL x16 x28 (.bool false) fun x86 =>
 j85 x86 h29)
 (j85 undefA h29)
def B313x93 (x15 : AV) (fu : Nat) (kr : KR) (x0 : AV) (cl : CL) (kp : KP) (x16 : AV) (x22 : AV) (x2 : AV) (h23 : Heap) : Ans := JO (fun x24 h25 =>
 JO (fun x26 h27 =>
 JO (fun x28 h29 =>
 B313x87 x15 fu kr x0 cl kp x16 x28 h29) fun j88 =>
 GW true x16 (SEL x22 x26 (.bool false) fun x89 =>
 j88 x89 h27)
 (j88 undefA h27)) fun j90 =>
 GW true x22 (LSS Pr 3 true x24 (.int .i64 n19) fun x91 =>
 j90 x91 h25)
 (j90 undefA h25)) fun j92 =>
 GW true x22 (j92 x2 h23)
 (j92 undefA h23)
def B313x98 (x15 : AV) (fu : Nat) (kr : KR) (x0 : AV) (cl : CL) (kp : KP) (x16 : AV) (x2 : AV) (h17 : Heap) : Ans := JO (fun x18 h19 =>
 JO (fun x20 h21 =>
 JO (fun x22 h23 =>
 B313x93 x15 fu kr x0 cl kp x16 x22 x2 h23) fun j94 =>
 GW true x16 (j94 x20 h21)
 (j94 undefA h21)) fun j95 =>
 GW true x16 (LSS Pr 3 true (.int .i64 n0) x18 fun x96 =>
 j95 x96 h19)
 (j95 undefA h19)) fun j97 =>
 GW true x16 (j97 x2 h17)
 (j97 undefA h17)
def B313x104 (fu : Nat) (kr : KR) (x0 : AV) (cl : CL) (kp : KP) (x2 : AV) (x7 : AV) (x9 : AV) (h10 : Heap) : Ans := JO (fun x11 h12 =>
 JO (fun x13 h14 =>
 SEL (.bool false) x13 (.bool false) fun x15 =>
 JO (fun x16 h17 =>
 B313x98 x15 fu kr x0 cl kp x16 x2 h17) fun j99 =>
 GW false x15 (j99 (.bool true) h14)
 (j99 undefA h14)) fun j100 =>
 GW true (.bool false) (SEL x7 x11 (.bool false) fun x101 =>
 j100 x101 h12)
 (j100 undefA h12)) fun j102 =>
 GW true x7 (LSS Pr 3 true x9 (.int .i64 n10) fun x103 =>
 j102 x103 h10)
 (j102 undefA h10)
def B313x109 (fu : Nat) (kr : KR) (x0 : AV) (cl : CL) (kp : KP) (x2 : AV) (x3 : AV) (h4 : Heap) : Ans := JO (fun x5 h6 =>
 JO (fun x7 h8 =>
 JO (fun x9 h10 =>
 B313x104 fu kr x0 cl kp x2 x7 x9 h10) fun j105 =>
 GW true x7 (j105 x2 h8)
 (j105 undefA h8)) fun j106 =>
 GW true (.bool false) (j106 x5 h6)
 (j106 undefA h6)) fun j107 =>
 GW true (.bool false) (LSS Pr 3 true (.int .i64 n0) x3 fun x108 =>
 j107 x108 h4)
 (j107 undefA h4)
def F313 (fu : Nat) (oR : Orc) (cl : CL) (args : List AV) (h1 : Heap) (kr : KR) (kp : KP) : Ans := AR1 args fun x0 =>
 LENT x0 fun x2 =>
 JO (fun x3 h4 =>
 B313x109 fu kr x0 cl kp x2 x3 h4) fun j110 =>
 GW true (.bool false) (j110 x2 h1)
 (j110 undefA h1)

theorem eqF313 : F313 = fun fu oR => compF Pr fu oR 313 1 := by kernel_rfl

def B314x26 (x4 : AV) (cl : CL) (x0 : AV) (x1 : AV) (x2 : AV) (h5 : Heap) (kr : KR) (kp : KP) (x3 : AV) : Ans := EQL Pr 167 false x4 (.iface n327 (.int .i64 n3)) fun x16 =>
 IFB x16 (cl n337 [x0, x1, x2] h5 (fun x17 h18 =>
 kr (.iface n330 x17) h18) kp)
 (EQL Pr 167 false x4 (.iface n327 (.int .i64 n4)) fun x21 =>
 IFB x21 (cl n338 [x0, x1, x3] h5 (fun x22 h23 =>
 kr (.iface n330 x22) h23) kp)
 (kr x4 h5))
def F314 (fu : Nat) (oR : Orc) (cl : CL) (args : List AV) (h5 : Heap) (kr : KR) (kp : KP) : Ans := AR5 args fun x0 x1 x2 x3 x4 =>
 EQL Pr 167 false x4 (.iface n327 (.int .i64 n2)) fun x6 =>
 IFB x6 (cl n335 [x0, x1] h5 (fun x7 h8 =>
 kr (.iface n330 x7) h8) kp)
 (EQL Pr 167 false x4 (.iface n327 (.int .i64 n1)) fun x11 =>
 IFB x11 (cl n336 [x0, x1] h5 (fun x12 h13 =>
 kr (.iface n330 x12) h13) kp)
 (B314x26 x4 cl x0 x1 x2 h5 kr kp x3))

theorem eqF314 : F314 = fun fu oR => compF Pr fu oR 314 5 := by kernel_rfl

def F315 (fu : Nat) (oR : Orc) (cl : CL) (args : List AV) (h2 : Heap) (kr : KR) (kp : KP) : Ans := AR2 args fun x0 x1 =>
 IFB (.bool false) (OV (convV Pr h2 121 156 x0) fun x3 =>
 OV (convV Pr h2 121 156 x1) fun x4 =>
 cl n339 [x3, x4] h2 (fun x5 h6 =>
 EX n0 x5 fun x9 =>
 EX n1 x5 fun x10 =>
 OV (convV Pr h6 156 121 x9) fun x11 =>
 OV (convV Pr h6 156 121 x10) fun x12 =>
 kr (.tuple [x11, x12]) h6) kp)
 (cl n308 [x0, x1] h2 (fun x13 h14 =>
 EX n0 x13 fun x17 =>
 EX n1 x13 fun x18 =>
 kr (.tuple [x17, x18]) h14) kp)

theorem eqF315 : F315 = fun fu oR => compF Pr fu oR 315 2 := by kernel_rfl

def B316x24 (cl : CL) (x0 : AV) (h10 : Heap) (x6 : AV) (j8 : AV → Heap → Ans) (kp : KP) : Ans := cl n170 [x0] h10 (fun x13 h14 =>
 BSL n3 n1 [(.int .i64 n0)] n1 [(n0, x6)] h14 fun x17 h18 =>
 OV (buildA Pr 108 [(n0, (.int .i64 n6)), (n1, x13), (n4, x17)]) fun x19 =>
 cl n173 [x0, x19] h18 (fun x20 h21 =>
 j8 x20 h21) kp) kp
def F316 (fu : Nat) (oR : Orc) (cl : CL) (args : List AV) (h1 : Heap) (kr : KR) (kp : KP) : Ans := AR1 args fun x0 =>
 cl n340 [x0] h1 (fun x2 h3 =>
 LP fu (fun _ _ => Ans.no) (fun j8 x6 h7 =>
 cl n111 [x0, (.str n2 (nat_lit 28265))] h7 (fun x9 h10 =>
 IFB x9 (B316x24 cl x0 h10 x6 j8 kp)
 (kr x6 h10)) kp) x2 h3) kp

theorem eqF316 : F316 = fun fu oR => compF Pr fu oR 316 1 := by kernel_rfl

def B317x9 (x0 : AV) (kr : KR) (h1 : Heap) : Ans := BOP Pr .mul 3 true x0 (.int .i64 n2) fun x5 =>
 BOP Pr .mul 3 true x0 (.int .i64 n2) fun x6 =>
 ADD Pr 3 true x6 (.int .i64 n2) fun x7 =>
 OV (sliceA Pr 9 (.str n200 (nat_lit 9938655150514779720929161263213647789093395803754561035662628441001274968862597953692946393464194303251501229616933063375291039650253924995779037586872666250072396106842829501851083234932712366962979930255066872747696324303968523733872590022915936937156789320557469720923390131174387415513794469201054844961267015441141542819553679203788501627738430154234325528792480477051962324423099068299719245009424585859096469223093538032153047611602695245052081125123941502624659711709950000)) (some x5) (some x7) none) fun x8 =>
 kr x8 h1
def F317 (fu : Nat) (oR : Orc) (cl : CL) (args : List AV) (h1 : Heap) (kr : KR) (kp : KP) : Ans := AR1 args fun x0 =>
 LSS Pr 3 true x0 (.int .i64 n10) fun x2 =>
 IFB x2 (ADD Pr 3 true x0 (.int .i64 n1) fun x3 =>
 OV (sliceA Pr 9 (.str n36 (nat_lit 237927390410950444456928663707796224754864904193074819559483181009558347043374296609072)) (some x0) (some x3) none) fun x4 =>
 kr x4 h1)
 (B317x9 x0 kr h1)

theorem eqF317 : F317 = fun fu oR => compF Pr fu oR 317 1 := by kernel_rfl

def F318 (fu : Nat) (oR : Orc) (cl : CL) (args : List AV) (h1 : Heap) (kr : KR) (kp : KP) : Ans := AR1 args fun x0 =>
 cl n102 [x0] h1 (fun x2 h3 =>
 cl n341 [x2] h3 (fun x6 h7 =>
 RA n20 n1 (.ptr n5 n0) x6 fun x10 =>
 LD x10 h7 fun x11 =>
 GEQ Pr 158 false x0 x11 fun x12 =>
 cl n342 [x12] h7 (fun x13 h14 =>
 ADD Pr 3 false x6 x13 fun x17 =>
 kr x17 h14) kp) kp) kp

theorem eqF318 : F318 = fun fu oR => compF Pr fu oR 318 1 := by kernel_rfl

def B319x59 (x5 : AV) (h6 : Heap) (x4 : AV) (x0 : AV) (j7 : AV → AV → Heap → Ans) : Ans := BOP Pr .rem 158 true x5 (.int .u64 (nat_lit 100000000)) fun x9 =>
 OV (convV Pr h6 158 156 x9) fun x10 =>
 BOP Pr .quo 158 true x5 (.int .u64 (nat_lit 100000000)) fun x11 =>
 BOP Pr .quo 156 true x10 (.int .u32 (nat_lit 10000)) fun x12 =>
 BOP Pr .rem 156 true x10 (.int .u32 (nat_lit 10000)) fun x13 =>
 BOP Pr .quo 156 true x13 (.int .u32 n100) fun x14 =>
 BOP Pr .mul 156 true x14 (.int .u32 n2) fun x15 =>
 BOP Pr .rem 156 true x13 (.int .u32 n100) fun x16 =>
 BOP Pr .mul 156 true x16 (.int .u32 n2) fun x17 =>
 BOP Pr .quo 156 true x12 (.int .u32 n100) fun x18 =>
 BOP Pr .mul 156 true x18 (.int .u32 n2) fun x19 =>
 BOP Pr .rem 156 true x12 (.int .u32 n100) fun x20 =>
 BOP Pr .mul 156 true x20 (.int .u32 n2) fun x21 =>
 SUB Pr 3 true x4 (.int .i64 n1) fun x22 =>
 SUB Pr 3 true x4 (.int .i64 n2) fun x23 =>
 ADD Pr 156 true x17 (.int .u32 n1) fun x24 =>
 SAT (.str n200 (nat_lit 9938655150514779720929161263213647789093395803754561035662628441001274968862597953692946393464194303251501229616933063375291039650253924995779037586872666250072396106842829501851083234932712366962979930255066872747696324303968523733872590022915936937156789320557469720923390131174387415513794469201054844961267015441141542819553679203788501627738430154234325528792480477051962324423099068299719245009424585859096469223093538032153047611602695245052081125123941502624659711709950000)) x24 fun x25 =>
 SAT (.str n200 (nat_lit 9938655150514779720929161263213647789093395803754561035662628441001274968862597953692946393464194303251501229616933063375291039650253924995779037586872666250072396106842829501851083234932712366962979930255066872747696324303968523733872590022915936937156789320557469720923390131174387415513794469201054844961267015441141542819553679203788501627738430154234325528792480477051962324423099068299719245009424585859096469223093538032153047611602695245052081125123941502624659711709950000)) x17 fun x26 =>
 SA n1 x0 x22 fun x27 =>
 ST n1 x27 x25 h6 fun h28 =>
 SA n1 x0 x23 fun x29 =>
 ST n1 x29 x26 h28 fun h30 =>
 SUB Pr 3 true x4 (.int .i64 n3) fun x31 =>
 SUB Pr 3 true x4 (.int .i64 n4) fun x32 =>
 ADD Pr 156 true x15 (.int .u32 n1) fun x33 =>
 SAT (.str n200 (nat_lit 9938655150514779720929161263213647789093395803754561035662628441001274968862597953692946393464194303251501229616933063375291039650253924995779037586872666250072396106842829501851083234932712366962979930255066872747696324303968523733872590022915936937156789320557469720923390131174387415513794469201054844961267015441141542819553679203788501627738430154234325528792480477051962324423099068299719245009424585859096469223093538032153047611602695245052081125123941502624659711709950000)) x33 fun x34 =>
 SAT (.str n200 (nat_lit 9938655150514779720929161263213647789093395803754561035662628441001274968862597953692946393464194303251501229616933063375291039650253924995779037586872666250072396106842829501851083234932712366962979930255066872747696324303968523733872590022915936937156789320557469720923390131174387415513794469201054844961267015441141542819553679203788501627738430154234325528792480477051962324423099068299719245009424585859096469223093538032153047611602695245052081125123941502624659711709950000)) x15 fun x35 =>
 SA n1 x0 x31 fun x36 =>
 ST n1 x36 x34 h30 fun h37 =>
 SA n1 x0 x32 fun x38 =>
 ST n1 x38 x35 h37 fun h39 =>
 SUB Pr 3 true x4 (.int .i64 n5) fun x40 =>
 SUB Pr 3 true x4 (.int .i64 n6) fun x41 =>
 ADD Pr 156 true x21 (.int .u32 n1) fun x42 =>
 SAT (.str n200 (nat_lit 9938655150514779720929161263213647789093395803754561035662628441001274968862597953692946393464194303251501229616933063375291039650253924995779037586872666250072396106842829501851083234932712366962979930255066872747696324303968523733872590022915936937156789320557469720923390131174387415513794469201054844961267015441141542819553679203788501627738430154234325528792480477051962324423099068299719245009424585859096469223093538032153047611602695245052081125123941502624659711709950000)) x42 fun x43 =>
 SAT (.str n200 (nat_lit 9938655150514779720929161263213647789093395803754561035662628441001274968862597953692946393464194303251501229616933063375291039650253924995779037586872666250072396106842829501851083234932712366962979930255066872747696324303968523733872590022915936937156789320557469720923390131174387415513794469201054844961267015441141542819553679203788501627738430154234325528792480477051962324423099068299719245009424585859096469223093538032153047611602695245052081125123941502624659711709950000)) x21 fun x44 =>
 SA n1 x0 x40 fun x45 =>
 ST n1 x45 x43 h39 fun h46 =>
 SA n1 x0 x41 fun x47 =>
 ST n1 x47 x44 h46 fun h48 =>
 SUB Pr 3 true x4 (.int .i64 n7) fun x49 =>
 SUB Pr 3 true x4 (.int .i64 n8) fun x50 =>
 ADD Pr 156 true x19 (.int .u32 n1) fun x51 =>
 SAT (.str n200 (nat_lit 9938655150514779720929161263213647789093395803754561035662628441001274968862597953692946393464194303251501229616933063375291039650253924995779037586872666250072396106842829501851083234932712366962979930255066872747696324303968523733872590022915936937156789320557469720923390131174387415513794469201054844961267015441141542819553679203788501627738430154234325528792480477051962324423099068299719245009424585859096469223093538032153047611602695245052081125123941502624659711709950000)) x51 fun x52 =>
 SAT (.str n200 (nat_lit 9938655150514779720929161263213647789093395803754561035662628441001274968862597953692946393464194303251501229616933063375291039650253924995779037586872666250072396106842829501851083234932712366962979930255066872747696324303968523733872590022915936937156789320557469720923390131174387415513794469201054844961267015441141542819553679203788501627738430154234325528792480477051962324423099068299719245009424585859096469223093538032153047611602695245052081125123941502624659711709950000)) x19 fun x53 =>
 SA n1 x0 x49 fun x54 =>
 ST n1 x54 x52 h48 fun h55 =>
 SA n1 x0 x50 fun x56 =>
 ST n1 x56 x53 h55 fun h57 =>
 SUB Pr 3 true x4 (.int .i64 n8) fun x58 =>
 j7 x58 x11 h57
def B319x87 (x61 : AV) (x62 : AV) (x0 : AV) (h63 : Heap) (j72 : AV → AV → Heap → Ans) : Ans := BOP Pr .rem 156 true x61 (.int .u32 n100) fun x74 =>
 BOP Pr .mul 156 true x74 (.int .u32 n2) fun x75 =>
 BOP Pr .quo 156 true x61 (.int .u32 n100) fun x76 =>
 SUB Pr 3 true x62 (.int .i64 n1) fun x77 =>
 SUB Pr 3 true x62 (.int .i64 n2) fun x78 =>
 ADD Pr 156 true x75 (.int .u32 n1) fun x79 =>
 SAT (.str n200 (nat_lit 9938655150514779720929161263213647789093395803754561035662628441001274968862597953692946393464194303251501229616933063375291039650253924995779037586872666250072396106842829501851083234932712366962979930255066872747696324303968523733872590022915936937156789320557469720923390131174387415513794469201054844961267015441141542819553679203788501627738430154234325528792480477051962324423099068299719245009424585859096469223093538032153047611602695245052081125123941502624659711709950000)) x79 fun x80 =>
 SAT (.str n200 (nat_lit 9938655150514779720929161263213647789093395803754561035662628441001274968862597953692946393464194303251501229616933063375291039650253924995779037586872666250072396106842829501851083234932712366962979930255066872747696324303968523733872590022915936937156789320557469720923390131174387415513794469201054844961267015441141542819553679203788501627738430154234325528792480477051962324423099068299719245009424585859096469223093538032153047611602695245052081125123941502624659711709950000)) x75 fun x81 =>
 SA n1 x0 x77 fun x82 =>
 ST n1 x82 x80 h63 fun h83 =>
 SA n1 x0 x78 fun x84 =>
 ST n1 x84 x81 h83 fun h85 =>
 SUB Pr 3 true x62 (.int .i64 n2) fun x86 =>
 j72 x76 x86 h85
def B319x88 (x0 : AV) (kr : KR) (x62 : AV) (x61 : AV) (h63 : Heap) : Ans := JO (fun x64 x65 h66 =>
 GTR Pr 3 true x65 (.int .i64 n0) fun x67 =>
 IFB x67 (ADD Pr 156 true (.int .u32 n48) x64 fun x68 =>
 OV (convV Pr h66 156 5 x68) fun x69 =>
 SA n1 x0 (.int .i64 n0) fun x70 =>
 ST n1 x70 x69 h66 fun h71 =>
 kr (.tuple []) h71)
 (kr (.tuple []) h66)) fun j72 =>
 GEQ Pr 3 true x62 (.int .i64 n2) fun x73 =>
 IFB x73 (B319x87 x61 x62 x0 h63 j72)
 (j72 x61 x62 h63)
def B319x116 (x60 : AV) (x4 : AV) (x0 : AV) (h6 : Heap) (j89 : AV → AV → Heap → Ans) : Ans := BOP Pr .rem 156 true x60 (.int .u32 (nat_lit 10000)) fun x91 =>
 BOP Pr .quo 156 true x60 (.int .u32 (nat_lit 10000)) fun x92 =>
 BOP Pr .quo 156 true x91 (.int .u32 n100) fun x93 =>
 BOP Pr .mul 156 true x93 (.int .u32 n2) fun x94 =>
 BOP Pr .rem 156 true x91 (.int .u32 n100) fun x95 =>
 BOP Pr .mul 156 true x95 (.int .u32 n2) fun x96 =>
 SUB Pr 3 true x4 (.int .i64 n1) fun x97 =>
 SUB Pr 3 true x4 (.int .i64 n2) fun x98 =>
 ADD Pr 156 true x96 (.int .u32 n1) fun x99 =>
 SAT (.str n200 (nat_lit 9938655150514779720929161263213647789093395803754561035662628441001274968862597953692946393464194303251501229616933063375291039650253924995779037586872666250072396106842829501851083234932712366962979930255066872747696324303968523733872590022915936937156789320557469720923390131174387415513794469201054844961267015441141542819553679203788501627738430154234325528792480477051962324423099068299719245009424585859096469223093538032153047611602695245052081125123941502624659711709950000)) x99 fun x100 =>
 SAT (.str n200 (nat_lit 9938655150514779720929161263213647789093395803754561035662628441001274968862597953692946393464194303251501229616933063375291039650253924995779037586872666250072396106842829501851083234932712366962979930255066872747696324303968523733872590022915936937156789320557469720923390131174387415513794469201054844961267015441141542819553679203788501627738430154234325528792480477051962324423099068299719245009424585859096469223093538032153047611602695245052081125123941502624659711709950000)) x96 fun x101 =>
 SA n1 x0 x97 fun x102 =>
 ST n1 x102 x100 h6 fun h103 =>
 SA n1 x0 x98 fun x104 =>
 ST n1 x104 x101 h103 fun h105 =>
 SUB Pr 3 true x4 (.int .i64 n3) fun x106 =>
 SUB Pr 3 true x4 (.int .i64 n4) fun x107 =>
 ADD Pr 156 true x94 (.int .u32 n1) fun x108 =>
 SAT (.str n200 (nat_lit 9938655150514779720929161263213647789093395803754561035662628441001274968862597953692946393464194303251501229616933063375291039650253924995779037586872666250072396106842829501851083234932712366962979930255066872747696324303968523733872590022915936937156789320557469720923390131174387415513794469201054844961267015441141542819553679203788501627738430154234325528792480477051962324423099068299719245009424585859096469223093538032153047611602695245052081125123941502624659711709950000)) x108 fun x109 =>
 SAT (.str n200 (nat_lit 9938655150514779720929161263213647789093395803754561035662628441001274968862597953692946393464194303251501229616933063375291039650253924995779037586872666250072396106842829501851083234932712366962979930255066872747696324303968523733872590022915936937156789320557469720923390131174387415513794469201054844961267015441141542819553679203788501627738430154234325528792480477051962324423099068299719245009424585859096469223093538032153047611602695245052081125123941502624659711709950000)) x94 fun x110 =>
 SA n1 x0 x106 fun x111 =>
 ST n1 x111 x109 h105 fun h112 =>
 SA n1 x0 x107 fun x113 =>
 ST n1 x113 x110 h112 fun h114 =>
 SUB Pr 3 true x4 (.int .i64 n4) fun x115 =>
 j89 x92 x115 h114
def F319 (fu : Nat) (oR : Orc) (cl : CL) (args : List AV) (h2 : Heap) (kr : KR) (kp : KP) : Ans := AR2 args fun x0 x1 =>
 LENS x0 fun x3 =>
 LP fu (fun _ _ _ => Ans.no) (fun j7 x4 x5 h6 =>
 GEQ Pr 3 true x4 (.int .i64 n8) fun x8 =>
 IFB x8 (B319x59 x5 h6 x4 x0 j7)
 (OV (convV Pr h6 158 156 x5) fun x60 =>
 JO (fun x61 x62 h63 =>
 B319x88 x0 kr x62 x61 h63) fun j89 =>
 GEQ Pr 3 true x4 (.int .i64 n4) fun x90 =>
 IFB x90 (B319x116 x60 x4 x0 h6 j89)
 (j89 x60 x4 h6))) x3 x1 h2

theorem eqF319 : F319 = fun fu oR => compF Pr fu oR 319 2 := by kernel_rfl

def B323x37 (cl : CL) (x0 : AV) (h13 : Heap) (x2 : AV) (x3 : AV) (x1 : AV) (x9 : AV) (j11 : AV → Heap → Ans) (kp : KP) : Ans := cl n200 [x0] h13 (fun x16 h17 =>
 OV (fieldA Pr 130 x16 1) fun x20 =>
 cl n265 [x2, x20] h17 (fun x21 h22 =>
 SA n1 x3 x21 fun x25 =>
 LD x25 h22 fun x26 =>
 GEN (callV Pr (some x1) [] h22) cl (fun x27 h28 =>
 BSL n3 n1 [(.int .i64 n0), (.int .i64 n0)] n2 [(n0, x9), (n1, x27)] h28 fun x31 h32 =>
 cl n260 [x0, x26, x31] h32 (fun x33 h34 =>
 j11 x33 h34) kp) kp) kp) kp
def F323 (fu : Nat) (oR : Orc) (cl : CL) (args : List AV) (h4 : Heap) (kr : KR) (kp : KP) : Ans := AR4 args fun x0 x1 x2 x3 =>
 GEN (callV Pr (some x1) [] h4) cl (fun x5 h6 =>
 LP fu (fun _ _ => Ans.no) (fun j11 x9 h10 =>
 cl n203 [x0, x2] h10 (fun x12 h13 =>
 IFB x12 (B323x37 cl x0 h13 x2 x3 x1 x9 j11 kp)
 (kr x9 h13)) kp) x5 h6) kp

theorem eqF323 : F323 = fun fu oR => compF Pr fu oR 323 4 := by kernel_rfl

def F324 (fu : Nat) (oR : Orc) (cl : CL) (args : List AV) (h1 : Heap) (kr : KR) (kp : KP) : Ans := AR1 args fun x0 =>
 BSL n9 n1 [(.str n0 n0)] n1 [(n0, (.str n2 n9766))] h1 fun x2 h3 =>
 BSL n3 n1 [(.int .i64 n0)] n1 [(n0, (.int .i64 n11))] h3 fun x4 h5 =>
 cl n323 [x0, (.func (.func 346) [x0] []), x2, x4] h5 (fun x6 h7 =>
 kr x6 h7) kp

theorem eqF324 : F324 = fun fu oR => compF Pr fu oR 324 1 := by kernel_rfl

def F325 (fu : Nat) (oR : Orc) (cl : CL) (args : List AV) (h1 : Heap) (kr : KR) (kp : KP) : Ans := AR1 args fun x0 =>
 cl n202 [x0, (.str n1 n40)] h1 (fun x2 h3 =>
 cl n204 [x0] h3 (fun x6 h7 =>
 cl n202 [x0, (.str n1 n41)] h7 (fun x10 h11 =>
 kr x6 h11) kp) kp) kp

theorem eqF325 : F325 = fun fu oR => compF Pr fu oR 325 1 := by kernel_rfl

def B327x33 (x0 : AV) (h7 : Heap) (cl : CL) (x2 : AV) (kr : KR) (kp : KP) : Ans := NC x0 fun x10 =>
 FA n1 x10 fun x11 =>
 LD x11 h7 fun x12 =>
 ADD Pr 3 true x12 (.int .i64 n1) fun x13 =>
 NC x0 fun x14 =>
 FA n1 x14 fun x15 =>
 ST n1 x15 x13 h7 fun h16 =>
 BSL n9 n1 [(.str n0 n0)] n1 [(n0, (.str n1 n59))] h16 fun x17 h18 =>
 cl n203 [x0, x17] h18 (fun x19 h20 =>
 IFB x19 (OV (buildA Pr 108 [(n0, (.int .i64 n41))]) fun x23 =>
 ST n5 x2 x23 h20 fun h24 =>
 LDN n5 x2 h24 fun x25 =>
 kr x25 h24)
 (cl n347 [x0] h20 (fun x26 h27 =>
 OV (buildA Pr 108 [(n0, (.int .i64 n41)), (n4, x26)]) fun x30 =>
 ST n5 x2 x30 h27 fun h31 =>
 LDN n5 x2 h31 fun x32 =>
 kr x32 h31) kp)) kp
def B327x54 (x0 : AV) (h37 : Heap) (cl : CL) (x2 : AV) (kr : KR) (kp : KP) : Ans := NC x0 fun x40 =>
 FA n1 x40 fun x41 =>
 LD x41 h37 fun x42 =>
 ADD Pr 3 true x42 (.int .i64 n1) fun x43 =>
 NC x0 fun x44 =>
 FA n1 x44 fun x45 =>
 ST n1 x45 x43 h37 fun h46 =>
 cl n347 [x0] h46 (fun x47 h48 =>
 OV (buildA Pr 108 [(n0, (.int .i64 n42)), (n4, x47)]) fun x51 =>
 ST n5 x2 x51 h48 fun h52 =>
 LDN n5 x2 h52 fun x53 =>
 kr x53 h52) kp
def B327x71 (x0 : AV) (h58 : Heap) (x2 : AV) (kr : KR) : Ans := NC x0 fun x61 =>
 FA n1 x61 fun x62 =>
 LD x62 h58 fun x63 =>
 ADD Pr 3 true x63 (.int .i64 n1) fun x64 =>
 NC x0 fun x65 =>
 FA n1 x65 fun x66 =>
 ST n1 x66 x64 h58 fun h67 =>
 OV (buildA Pr 108 [(n0, (.int .i64 n47))]) fun x68 =>
 ST n5 x2 x68 h67 fun h69 =>
 LDN n5 x2 h69 fun x70 =>
 kr x70 h69
def B327x88 (x0 : AV) (h75 : Heap) (x2 : AV) (kr : KR) : Ans := NC x0 fun x78 =>
 FA n1 x78 fun x79 =>
 LD x79 h75 fun x80 =>
 ADD Pr 3 true x80 (.int .i64 n1) fun x81 =>
 NC x0 fun x82 =>
 FA n1 x82 fun x83 =>
 ST n1 x83 x81 h75 fun h84 =>
 OV (buildA Pr 108 [(n0, (.int .i64 n48))]) fun x85 =>
 ST n5 x2 x85 h84 fun h86 =>
 LDN n5 x2 h86 fun x87 =>
 kr x87 h86
def B327x105 (x0 : AV) (h92 : Heap) (x2 : AV) (kr : KR) : Ans := NC x0 fun x95 =>
 FA n1 x95 fun x96 =>
 LD x96 h92 fun x97 =>
 ADD Pr 3 true x97 (.int .i64 n1) fun x98 =>
 NC x0 fun x99 =>
 FA n1 x99 fun x100 =>
 ST n1 x100 x98 h92 fun h101 =>
 OV (buildA Pr 108 [(n0, (.int .i64 n49))]) fun x102 =>
 ST n5 x2 x102 h101 fun h103 =>
 LDN n5 x2 h103 fun x104 =>
 kr x104 h103
def B327x137 (x113 : AV) (x2 : AV) (kr : KR) (h116 : Heap) (cl : CL) (x0 : AV) (kp : KP) : Ans := JO (fun h117 =>
 LDN n5 x113 h117 fun x118 =>
 ST n5 x2 x118 h117 fun h119 =>
 LDN n5 x2 h119 fun x120 =>
 kr x120 h119) fun j121 =>
 BSL n9 n1 [(.str n0 n0)] n1 [(n0, (.str n1 n59))] h116 fun x122 h123 =>
 cl n203 [x0, x122] h123 (fun x124 h125 =>
 OV (unOpA .not x124) fun x128 =>
 IFB x128 (cl n204 [x0] h125 (fun x129 h130 =>
 BSL n3 n1 [(.int .i64 n0)] n1 [(n0, x129)] h130 fun x133 h134 =>
 FA n4 x113 fun x135 =>
 ST n1 x135 x133 h134 fun h136 =>
 j121  h136) kp)
 (j121  h125)) kp
def B327x147 (h109 : Heap) (x2 : AV) (kr : KR) (cl : CL) (x0 : AV) (kp : KP) : Ans := OV (buildA Pr 108 [(n0, (.int .i64 n50))]) fun x112 =>
 NEWC (.n (some (.int .i64 n0)) (.n (some (.str n0 n0)) (.n (some (.int .i64 n0)) .e .e) .e) (.n (some (.str n0 n0)) (.n (some (.nilslice)) .e .e) .e)) n5 108 h109 fun x113 h114 =>
 ST n5 x113 x112 h114 fun h115 =>
 JO (fun h116 =>
 B327x137 x113 x2 kr h116 cl x0 kp) fun j138 =>
 cl n200 [x0] h115 (fun x139 h140 =>
 OV (fieldA Pr 130 x139 1) fun x143 =>
 EQL Pr 9 true x143 (.str n6 (nat_lit 121437875889522)) fun x144 =>
 IFB x144 (FA n0 x113 fun x145 =>
 ST n1 x145 (.int .i64 n51) h140 fun h146 =>
 j138  h146)
 (j138  h140)) kp
def B327x190 (x0 : AV) (h151 : Heap) (cl : CL) (x2 : AV) (kr : KR) (kp : KP) : Ans := NC x0 fun x154 =>
 FA n1 x154 fun x155 =>
 LD x155 h151 fun x156 =>
 ADD Pr 3 true x156 (.int .i64 n1) fun x157 =>
 NC x0 fun x158 =>
 FA n1 x158 fun x159 =>
 ST n1 x159 x157 h151 fun h160 =>
 BSL n3 n1 [(.int .i64 n0)] n1 [(n0, (.int .i64 n4))] h160 fun x161 h162 =>
 cl n201 [x0, x161] h162 (fun x163 h164 =>
 OV (buildA Pr 108 [(n0, (.int .i64 n52)), (n1, x163)]) fun x167 =>
 NEWC (.n (some (.int .i64 n0)) (.n (some (.str n0 n0)) (.n (some (.int .i64 n0)) .e .e) .e) (.n (some (.str n0 n0)) (.n (some (.nilslice)) .e .e) .e)) n5 108 h164 fun x168 h169 =>
 ST n5 x168 x167 h169 fun h170 =>
 cl n202 [x0, (.str n1 n91)] h170 (fun x171 h172 =>
 cl n204 [x0] h172 (fun x175 h176 =>
 BSL n3 n1 [(.int .i64 n0)] n1 [(n0, x175)] h176 fun x179 h180 =>
 FA n4 x168 fun x181 =>
 ST n1 x181 x179 h180 fun h182 =>
 cl n202 [x0, (.str n1 n93)] h182 (fun x183 h184 =>
 LDN n5 x168 h184 fun x187 =>
 ST n5 x2 x187 h184 fun h188 =>
 LDN n5 x2 h188 fun x189 =>
 kr x189 h188) kp) kp) kp) kp
def B327x200 (cl : CL) (x0 : AV) (h151 : Heap) (x2 : AV) (kr : KR) (kp : KP) : Ans := cl n204 [x0] h151 (fun x191 h192 =>
 BSL n3 n1 [(.int .i64 n0)] n1 [(n0, x191)] h192 fun x195 h196 =>
 OV (buildA Pr 108 [(n0, (.int .i64 n40)), (n4, x195)]) fun x197 =>
 ST n5 x2 x197 h196 fun h198 =>
 LDN n5 x2 h198 fun x199 =>
 kr x199 h198) kp
def B327x201 (h92 : Heap) (cl : CL) (x0 : AV) (x2 : AV) (kr : KR) (kp : KP) : Ans := BSL n9 n1 [(.str n0 n0), (.str n0 n0)] n2 [(n0, (.str n4 (nat_lit 1953069157))), (n1, (.str n6 (nat_lit 121437875889522)))] h92 fun x106 h107 =>
 cl n199 [x0, x106] h107 (fun x108 h109 =>
 IFB x108 (B327x147 h109 x2 kr cl x0 kp)
 (BSL n9 n1 [(.str n0 n0)] n1 [(n0, (.str n6 (nat_lit 111550592214372)))] h109 fun x148 h149 =>
 cl n199 [x0, x148] h149 (fun x150 h151 =>
 IFB x150 (B327x190 x0 h151 cl x2 kr kp)
 (B327x200 cl x0 h151 x2 kr kp)) kp)) kp
def B327x202 (h58 : Heap) (cl : CL) (x0 : AV) (x2 : AV) (kr : KR) (kp : KP) : Ans := BSL n9 n1 [(.str n0 n0)] n1 [(n0, (.str n8 (nat_lit 7310870969309884259)))] h58 fun x72 h73 =>
 cl n199 [x0, x72] h73 (fun x74 h75 =>
 IFB x74 (B327x88 x0 h75 x2 kr)
 (BSL n9 n1 [(.str n0 n0)] n1 [(n0, (.str n4 (nat_lit 1954047342)))] h75 fun x89 h90 =>
 cl n199 [x0, x89] h90 (fun x91 h92 =>
 IFB x91 (B327x105 x0 h92 x2 kr)
 (B327x201 h92 cl x0 x2 kr kp)) kp)) kp
def B327x203 (h7 : Heap) (cl : CL) (x0 : AV) (x2 : AV) (kr : KR) (kp : KP) : Ans := BSL n9 n1 [(.str n0 n0)] n1 [(n0, (.str n6 (nat_lit 112650254643824)))] h7 fun x34 h35 =>
 cl n199 [x0, x34] h35 (fun x36 h37 =>
 IFB x36 (B327x54 x0 h37 cl x2 kr kp)
 (BSL n9 n1 [(.str n0 n0)] n1 [(n0, (.str n5 (nat_lit 461195539042)))] h37 fun x55 h56 =>
 cl n199 [x0, x55] h56 (fun x57 h58 =>
 IFB x57 (B327x71 x0 h58 x2 kr)
 (B327x202 h58 cl x0 x2 kr kp)) kp)) kp
def F327 (fu : Nat) (oR : Orc) (cl : CL) (args : List AV) (h1 : Heap) (kr : KR) (kp : KP) : Ans := AR1 args fun x0 =>
 NEWC (.n (some (.int .i64 n0)) (.n (some (.str n0 n0)) (.n (some (.int .i64 n0)) .e .e) .e) (.n (some (.str n0 n0)) (.n (some (.nilslice)) .e .e) .e)) n5 108 h1 fun x2 h3 =>
 BSL n9 n1 [(.str n0 n0)] n1 [(n0, (.str n5 (nat_lit 500068610672)))] h3 fun x4 h5 =>
 cl n199 [x0, x4] h5 (fun x6 h7 =>
 IFB x6 (B327x33 x0 h7 cl x2 kr kp)
 (B327x203 h7 cl x0 x2 kr kp)) kp

theorem eqF327 : F327 = fun fu oR => compF Pr fu oR 327 1 := by kernel_rfl

def B334x52 (x6 : AV) (x42 : AV) (h43 : Heap) (x27 : AV) (kr : KR) (x13 : AV) : Ans := SEL x6 x42 (.bool false) fun x44 =>
 IFB x44 (OV (convV Pr h43 158 2 x27) fun x45 =>
 OV (unOpA .neg x45) fun x46 =>
 kr (.tuple [x46, (.iface n327 (.int .i64 n1))]) h43)
 (OV (convV Pr h43 158 2 x13) fun x47 =>
 JO (fun x48 h49 =>
 kr (.tuple [x48, (.niliface)]) h49) fun j50 =>
 IFB x6 (OV (unOpA .neg x47) fun x51 =>
 j50 x51 h43)
 (j50 x47 h43))
def B334x57 (x28 : AV) (x33 : AV) (x27 : AV) (h34 : Heap) (kr : KR) (x6 : AV) (x13 : AV) : Ans := SEL x28 x33 (.bool false) fun x35 =>
 IFB x35 (SUB Pr 158 true x27 (.int .u64 n1) fun x36 =>
 OV (convV Pr h34 158 2 x36) fun x37 =>
 kr (.tuple [x37, (.iface n327 (.int .i64 n1))]) h34)
 (JO (fun x38 h39 =>
 JO (fun x40 h41 =>
 JO (fun x42 h43 =>
 B334x52 x6 x42 h43 x27 kr x13) fun j53 =>
 GW true x6 (GTR Pr 158 false x38 x40 fun x54 =>
 j53 x54 h41)
 (j53 undefA h41)) fun j55 =>
 GW true x6 (j55 x27 h39)
 (j55 undefA h39)) fun j56 =>
 GW true x6 (j56 x13 h34)
 (j56 undefA h34))
def B334x62 (x23 : AV) (h24 : Heap) (x6 : AV) (kr : KR) (x13 : AV) : Ans := SUB Pr 3 true x23 (.int .i64 n1) fun x25 =>
 OV (convV Pr h24 3 121 x25) fun x26 =>
 BOP Pr .shl 158 true (.int .u64 n1) x26 fun x27 =>
 OV (unOpA .not x6) fun x28 =>
 JO (fun x29 h30 =>
 JO (fun x31 h32 =>
 JO (fun x33 h34 =>
 B334x57 x28 x33 x27 h34 kr x6 x13) fun j58 =>
 GW true x28 (GEQ Pr 158 false x29 x31 fun x59 =>
 j58 x59 h32)
 (j58 undefA h32)) fun j60 =>
 GW true x28 (j60 x27 h30)
 (j60 undefA h30)) fun j61 =>
 GW true x28 (j61 x13 h24)
 (j61 undefA h24)
def B334x67 (x15 : AV) (kr : KR) (x14 : AV) (x6 : AV) (x13 : AV) (x2 : AV) (x16 : AV) (x18 : AV) (h19 : Heap) : Ans := JO (fun x20 h21 =>
 SEL x15 x20 (.bool false) fun x22 =>
 IFB x22 (kr (.tuple [(.int .i64 n0), x14]) h21)
 (JO (fun x23 h24 =>
 B334x62 x23 h24 x6 kr x13) fun j63 =>
 EQL Pr 3 true x2 (.int .i64 n0) fun x64 =>
 IFB x64 (j63 (.int .i64 n64) h21)
 (j63 x2 h21))) fun j65 =>
 GW true x15 (NEQ Pr 167 false x16 x18 fun x66 =>
 j65 x66 h19)
 (j65 undefA h19)
def B334x70 (cl : CL) (x7 : AV) (x1 : AV) (x2 : AV) (h8 : Heap) (kr : KR) (x6 : AV) (kp : KP) : Ans := cl n355 [x7, x1, x2] h8 (fun x9 h10 =>
 EX n0 x9 fun x13 =>
 EX n1 x9 fun x14 =>
 NEQ Pr 167 true x14 (.niliface) fun x15 =>
 JO (fun x16 h17 =>
 JO (fun x18 h19 =>
 B334x67 x15 kr x14 x6 x13 x2 x16 x18 h19) fun j68 =>
 GW true x15 (j68 (.iface n327 (.int .i64 n1)) h17)
 (j68 undefA h17)) fun j69 =>
 GW true x15 (j69 x14 h10)
 (j69 undefA h10)) kp
def B334x76 (x0 : AV) (cl : CL) (x1 : AV) (x2 : AV) (kr : KR) (kp : KP) (h3 : Heap) : Ans := SAT x0 (.int .i64 n0) fun x5 =>
 JO (fun x6 x7 h8 =>
 B334x70 cl x7 x1 x2 h8 kr x6 kp) fun j71 =>
 EQL Pr 5 true x5 (.int .u8 n43) fun x72 =>
 IFB x72 (OV (sliceA Pr 9 x0 (some (.int .i64 n1)) none none) fun x73 =>
 j71 (.bool false) x73 h3)
 (EQL Pr 5 true x5 (.int .u8 n45) fun x74 =>
 IFB x74 (OV (sliceA Pr 9 x0 (some (.int .i64 n1)) none none) fun x75 =>
 j71 (.bool true) x75 h3)
 (j71 (.bool false) x0 h3))
def F334 (fu : Nat) (oR : Orc) (cl : CL) (args : List AV) (h3 : Heap) (kr : KR) (kp : KP) : Ans := AR3 args fun x0 x1 x2 =>
 EQL Pr 9 true x0 (.str n0 n0) fun x4 =>
 IFB x4 (kr (.tuple [(.int .i64 n0), (.iface n327 (.int .i64 n2))]) h3)
 (B334x76 x0 cl x1 x2 kr kp h3)

theorem eqF334 : F334 = fun fu oR => compF Pr fu oR 334 3 := by kernel_rfl

def F335 (fu : Nat) (oR : Orc) (cl : CL) (args : List AV) (h2 : Heap) (kr : KR) (kp : KP) : Ans := AR2 args fun x0 x1 =>
 LD (.ptr n6 n0) h2 fun x3 =>
 cl n356 [x1] h2 (fun x4 h5 =>
 LD (.ptr n6 n0) h5 fun x8 =>
 EQV x3 x8 <|
 OV (buildA Pr 346 [(n0, x0), (n1, x4), (n2, x3)]) fun x9 =>
 BOX 346 x9 h5 fun x10 h11 =>
 kr x10 h11) kp

theorem eqF335 : F335 = fun fu oR => compF Pr fu oR 335 2 := by kernel_rfl

def B340x46 (x0 : AV) (h27 : Heap) (cl : CL) (x6 : AV) (x26 : AV) (j8 : AV → Heap → Ans) (kp : KP) : Ans := NC x0 fun x28 =>
 FA n1 x28 fun x29 =>
 LD x29 h27 fun x30 =>
 ADD Pr 3 true x30 (.int .i64 n1) fun x31 =>
 NC x0 fun x32 =>
 FA n1 x32 fun x33 =>
 ST n1 x33 x31 h27 fun h34 =>
 cl n358 [x0] h34 (fun x35 h36 =>
 BSL n3 n1 [(.int .i64 n0), (.int .i64 n0)] n2 [(n0, x6), (n1, x35)] h36 fun x39 h40 =>
 OV (buildA Pr 108 [(n0, x26), (n4, x39)]) fun x41 =>
 cl n173 [x0, x41] h40 (fun x42 h43 =>
 j8 x42 h43) kp) kp
def B340x54 (x12 : AV) (x0 : AV) (cl : CL) (x6 : AV) (j8 : AV → Heap → Ans) (kp : KP) (kr : KR) (x17 : AV) (x21 : AV) (h22 : Heap) : Ans := JO (fun x23 h24 =>
 SEL x12 x23 (.bool false) fun x25 =>
 IFB x25 (JO (fun x26 h27 =>
 B340x46 x0 h27 cl x6 x26 j8 kp) fun j47 =>
 cl n113 [x0, (.str n2 (nat_lit 32289))] h24 (fun x48 h49 =>
 IFB x48 (j47 (.int .i64 n14) h49)
 (j47 (.int .i64 n13) h49)) kp)
 (kr x6 h24)) fun j52 =>
 GW true x12 (SEL x17 (.bool true) x21 fun x53 =>
 j52 x53 h22)
 (j52 undefA h22)
def B340x62 (x12 : AV) (x0 : AV) (cl : CL) (x6 : AV) (j8 : AV → Heap → Ans) (kp : KP) (kr : KR) (x15 : AV) (h16 : Heap) : Ans := JO (fun x17 h18 =>
 JO (fun x19 h20 =>
 JO (fun x21 h22 =>
 B340x54 x12 x0 cl x6 j8 kp kr x17 x21 h22) fun j55 =>
 GW false x17 (cl n113 [x19, (.str n2 (nat_lit 32289))] h20 (fun x56 h57 =>
 j55 x56 h57) kp)
 (j55 undefA h20)) fun j60 =>
 GW false x17 (j60 x0 h18)
 (j60 undefA h18)) fun j61 =>
 GW true x12 (j61 x15 h16)
 (j61 undefA h16)
def B340x69 (x0 : AV) (h7 : Heap) (cl : CL) (x6 : AV) (j8 : AV → Heap → Ans) (kp : KP) (kr : KR) : Ans := NC x0 fun x9 =>
 FA n5 x9 fun x10 =>
 LD x10 h7 fun x11 =>
 OV (unOpA .not x11) fun x12 =>
 JO (fun x13 h14 =>
 JO (fun x15 h16 =>
 B340x62 x12 x0 cl x6 j8 kp kr x15 h16) fun j63 =>
 GW true x12 (cl n113 [x13, (.str n1 n126)] h14 (fun x64 h65 =>
 j63 x64 h65) kp)
 (j63 undefA h14)) fun j68 =>
 GW true x12 (j68 x0 h7)
 (j68 undefA h7)
def F340 (fu : Nat) (oR : Orc) (cl : CL) (args : List AV) (h1 : Heap) (kr : KR) (kp : KP) : Ans := AR1 args fun x0 =>
 cl n358 [x0] h1 (fun x2 h3 =>
 LP fu (fun _ _ => Ans.no) (fun j8 x6 h7 =>
 B340x69 x0 h7 cl x6 j8 kp kr) x2 h3) kp

theorem eqF340 : F340 = fun fu oR => compF Pr fu oR 340 1 := by kernel_rfl

def F341 (fu : Nat) (oR : Orc) (cl : CL) (args : List AV) (h1 : Heap) (kr : KR) (kp : KP) : Ans := AR1 args fun x0 =>
 BOP Pr .mul 3 true x0 (.int .i64 (nat_lit 78913)) fun x2 =>
 BOP Pr .shr 3 true x2 (.int .u64 n18) fun x3 =>
 kr x3 h1

theorem eqF341 : F341 = fun fu oR => compF Pr fu oR 341 1 := by kernel_rfl

def F342 (fu : Nat) (oR : Orc) (cl : CL) (args : List AV) (h1 : Heap) (kr : KR) (kp : KP) : Ans := AR1 args fun x0 =>
 IFB x0 (kr (.int .i64 n1) h1)
 (kr (.int .i64 n0) h1)

theorem eqF342 : F342 = fun fu oR => compF Pr fu oR 342 1 := by kernel_rfl

def B346x35 (x0 : AV) (h12 : Heap) (cl : CL) (x6 : AV) (j8 : AV → Heap → Ans) (kp : KP) : Ans := NC x0 fun x15 =>
 FA n1 x15 fun x16 =>
 LD x16 h12 fun x17 =>
 ADD Pr 3 true x17 (.int .i64 n1) fun x18 =>
 NC x0 fun x19 =>
 FA n1 x19 fun x20 =>
 ST n1 x20 x18 h12 fun h21 =>
 BSL n3 n1 [(.int .i64 n0)] n1 [(n0, (.int .i64 n4))] h21 fun x22 h23 =>
 cl n201 [x0, x22] h23 (fun x24 h25 =>
 BSL n3 n1 [(.int .i64 n0)] n1 [(n0, x6)] h25 fun x28 h29 =>
 OV (buildA Pr 108 [(n0, (.int .i64 n6)), (n1, x24), (n4, x28)]) fun x30 =>
 cl n297 [x0, x30] h29 (fun x31 h32 =>
 j8 x31 h32) kp) kp
def F346 (fu : Nat) (oR : Orc) (cl : CL) (args : List AV) (h1 : Heap) (kr : KR) (kp : KP) : Ans := AR1 args fun x0 =>
 cl n361 [x0] h1 (fun x2 h3 =>
 LP fu (fun _ _ => Ans.no) (fun j8 x6 h7 =>
 BSL n9 n1 [(.str n0 n0)] n1 [(n0, (.str n2 (nat_lit 28265)))] h7 fun x9 h10 =>
 cl n199 [x0, x9] h10 (fun x11 h12 =>
 IFB x11 (B346x35 x0 h12 cl x6 j8 kp)
 (kr x6 h12)) kp) x2 h3) kp

theorem eqF346 : F346 = fun fu oR => compF Pr fu oR 346 1 := by kernel_rfl

def B347x34 (x0 : AV) (h14 : Heap) (cl : CL) (x8 : AV) (j10 : AV → Heap → Ans) (kp : KP) : Ans := NC x0 fun x17 =>
 FA n1 x17 fun x18 =>
 LD x18 h14 fun x19 =>
 ADD Pr 3 true x19 (.int .i64 n1) fun x20 =>
 NC x0 fun x21 =>
 FA n1 x21 fun x22 =>
 ST n1 x22 x20 h14 fun h23 =>
 cl n204 [x0] h23 (fun x24 h25 =>
 BSL n3 n1 [(.int .i64 n0)] n1 [(n0, x24)] h25 fun x28 h29 =>
 GEN (builtinF .append Pr [106, 106] [x8, x28] h29) cl (fun x30 h31 =>
 j10 x30 h31) kp) kp
def F347 (fu : Nat) (oR : Orc) (cl : CL) (args : List AV) (h1 : Heap) (kr : KR) (kp : KP) : Ans := AR1 args fun x0 =>
 cl n204 [x0] h1 (fun x2 h3 =>
 BSL n3 n1 [(.int .i64 n0)] n1 [(n0, x2)] h3 fun x6 h7 =>
 LP fu (fun _ _ => Ans.no) (fun j10 x8 h9 =>
 BSL n9 n1 [(.str n0 n0)] n1 [(n0, (.str n1 n44))] h9 fun x11 h12 =>
 cl n203 [x0, x11] h12 (fun x13 h14 =>
 IFB x13 (B347x34 x0 h14 cl x8 j10 kp)
 (kr x8 h14)) kp) x6 h7) kp

theorem eqF347 : F347 = fun fu oR => compF Pr fu oR 347 1 := by kernel_rfl

def F356 (fu : Nat) (oR : Orc) (cl : CL) (args : List AV) (h1 : Heap) (kr : KR) (kp : KP) : Ans := AR1 args fun x0 =>
 LENT x0 fun x2 =>
 EQL Pr 3 true x2 (.int .i64 n0) fun x3 =>
 IFB x3 (kr (.str n0 n0) h1)
 (LENT x0 fun x4 =>
 OVH (makeSliceA Pr h1 22 x4 x4) fun x5 h6 =>
 GEN (builtinF .copy Pr [22, 9] [x5, x0] h6) cl (fun x7 h8 =>
 SA n1 x5 (.int .i64 n0) fun x11 =>
 LENS x5 fun x12 =>
 GEN (builtinF .unsafeString Pr [137, 3] [x11, x12] h8) cl (fun x13 h14 =>
 kr x13 h14) kp) kp)

theorem eqF356 : F356 = fun fu oR => compF Pr fu oR 356 1 := by kernel_rfl

def B358x30 (cl : CL) (x0 : AV) (h15 : Heap) (x8 : AV) (x2 : AV) (kr : KR) (kp : KP) : Ans := cl n369 [x0] h15 (fun x18 h19 =>
 ADD Pr 3 true (.int .i64 n15) x8 fun x22 =>
 BSL n3 n1 [(.int .i64 n0), (.int .i64 n0)] n2 [(n0, x2), (n1, x18)] h19 fun x23 h24 =>
 OV (buildA Pr 108 [(n0, x22), (n4, x23)]) fun x25 =>
 cl n173 [x0, x25] h24 (fun x26 h27 =>
 kr x26 h27) kp) kp
def F358 (fu : Nat) (oR : Orc) (cl : CL) (args : List AV) (h1 : Heap) (kr : KR) (kp : KP) : Ans := AR1 args fun x0 =>
 cl n369 [x0] h1 (fun x2 h3 =>
 BSL n9 n1 [(.str n0 n0), (.str n0 n0), (.str n0 n0), (.str n0 n0)] n4 [(n0, (.str n1 n60)), (n1, (.str n2 (nat_lit 15676))), (n2, (.str n2 (nat_lit 15677))), (n3, (.str n2 (nat_lit 15649)))] h3 fun x6 h7 =>
 LP fu (fun _ _ => Ans.no) (fun j10 x8 h9 =>
 LSS Pr 3 true x8 (.int .i64 n4) fun x11 =>
 IFB x11 (SA n1 x6 x8 fun x12 =>
 LD x12 h9 fun x13 =>
 cl n111 [x0, x13] h9 (fun x14 h15 =>
 IFB x14 (B358x30 cl x0 h15 x8 x2 kr kp)
 (ADD Pr 3 true x8 (.int .i64 n1) fun x31 =>
 j10 x31 h15)) kp)
 (kr x2 h9)) (.int .i64 n0) h7) kp

theorem eqF358 : F358 = fun fu oR => compF Pr fu oR 358 1 := by kernel_rfl

def F361 (fu : Nat) (oR : Orc) (cl : CL) (args : List AV) (h1 : Heap) (kr : KR) (kp : KP) : Ans := AR1 args fun x0 =>
 BSL n9 n1 [(.str n0 n0), (.str n0 n0)] n2 [(n0, (.str n1 n126)), (n1, (.str n2 (nat_lit 32289)))] h1 fun x2 h3 =>
 BSL n3 n1 [(.int .i64 n0), (.int .i64 n0)] n2 [(n0, (.int .i64 n13)), (n1, (.int .i64 n14))] h3 fun x4 h5 =>
 cl n323 [x0, (.func (.func 370) [x0] []), x2, x4] h5 (fun x6 h7 =>
 kr x6 h7) kp

theorem eqF361 : F361 = fun fu oR => compF Pr fu oR 361 1 := by kernel_rfl

def B369x29 (cl : CL) (x0 : AV) (h16 : Heap) (x6 : AV) (j8 : AV → Heap → Ans) (kp : KP) : Ans := cl n372 [x0] h16 (fun x18 h19 =>
 BSL n3 n1 [(.int .i64 n0), (.int .i64 n0)] n2 [(n0, x6), (n1, x18)] h19 fun x22 h23 =>
 OV (buildA Pr 108 [(n0, (.int .i64 n19)), (n4, x22)]) fun x24 =>
 cl n173 [x0, x24] h23 (fun x25 h26 =>
 j8 x25 h26) kp) kp
def B369x36 (x0 : AV) (h7 : Heap) (cl : CL) (x6 : AV) (j8 : AV → Heap → Ans) (kp : KP) (kr : KR) : Ans := NC x0 fun x9 =>
 FA n5 x9 fun x10 =>
 LD x10 h7 fun x11 =>
 OV (unOpA .not x11) fun x12 =>
 JO (fun x13 h14 =>
 JO (fun x15 h16 =>
 SEL x12 x15 (.bool false) fun x17 =>
 IFB x17 (B369x29 cl x0 h16 x6 j8 kp)
 (kr x6 h16)) fun j30 =>
 GW true x12 (cl n373 [x13] h14 (fun x31 h32 =>
 j30 x31 h32) kp)
 (j30 undefA h14)) fun j35 =>
 GW true x12 (j35 x0 h7)
 (j35 undefA h7)
def F369 (fu : Nat) (oR : Orc) (cl : CL) (args : List AV) (h1 : Heap) (kr : KR) (kp : KP) : Ans := AR1 args fun x0 =>
 cl n372 [x0] h1 (fun x2 h3 =>
 LP fu (fun _ _ => Ans.no) (fun j8 x6 h7 =>
 B369x36 x0 h7 cl x6 j8 kp kr) x2 h3) kp

theorem eqF369 : F369 = fun fu oR => compF Pr fu oR 369 1 := by kernel_rfl

def B370x33 (cl : CL) (x0 : AV) (h9 : Heap) (x6 : AV) (x2 : AV) (kr : KR) (kp : KP) : Ans := cl n200 [x0] h9 (fun x13 h14 =>
 OV (fieldA Pr 130 x13 1) fun x17 =>
 cl n265 [x6, x17] h14 (fun x18 h19 =>
 ADD Pr 3 true (.int .i64 n15) x18 fun x22 =>
 cl n374 [x0] h19 (fun x23 h24 =>
 BSL n3 n1 [(.int .i64 n0), (.int .i64 n0)] n2 [(n0, x2), (n1, x23)] h24 fun x27 h28 =>
 cl n260 [x0, x22, x27] h28 (fun x29 h30 =>
 kr x29 h30) kp) kp) kp) kp
def F370 (fu : Nat) (oR : Orc) (cl : CL) (args : List AV) (h1 : Heap) (kr : KR) (kp : KP) : Ans := AR1 args fun x0 =>
 cl n374 [x0] h1 (fun x2 h3 =>
 BSL n9 n1 [(.str n0 n0), (.str n0 n0), (.str n0 n0), (.str n0 n0)] n4 [(n0, (.str n1 n60)), (n1, (.str n2 (nat_lit 15676))), (n2, (.str n2 (nat_lit 15677))), (n3, (.str n2 (nat_lit 15649)))] h3 fun x6 h7 =>
 cl n203 [x0, x6] h7 (fun x8 h9 =>
 OV (unOpA .not x8) fun x12 =>
 IFB x12 (kr x2 h9)
 (B370x33 cl x0 h9 x6 x2 kr kp)) kp) kp

theorem eqF370 : F370 = fun fu oR => compF Pr fu oR 370 1 := by kernel_rfl
end
end Go.Ev
