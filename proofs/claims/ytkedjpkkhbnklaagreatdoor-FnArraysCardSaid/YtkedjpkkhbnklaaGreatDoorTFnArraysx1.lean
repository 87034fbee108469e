import Derived.Test.YtkedjpkkhbnklaaGreatDoorTFnArraysx0
set_option linter.all false
namespace Go.Ev
noncomputable section

def B130x22 (x0 : AV) (h7 : Heap) (x1 : AV) (cl : CL) (kr : KR) (kp : KP) : Ans := NC x0 fun x8 =>
 FA n1 x8 fun x9 =>
 LD x9 h7 fun x10 =>
 OPV (builtinF .cap Pr [22] [x10] h7) fun x11 =>
 NC x0 fun x12 =>
 FA n1 x12 fun x13 =>
 LD x13 h7 fun x14 =>
 LENS x14 fun x15 =>
 SUB Pr 3 false x11 x15 fun x16 =>
 LSS Pr 3 false x16 x1 fun x17 =>
 IFB x17 (cl n189 [x0, x1] h7 (fun x18 h19 =>
 kr (.tuple []) h19) kp)
 (kr (.tuple []) h7)
def F130 (fu : Nat) (oR : Orc) (cl : CL) (args : List AV) (h2 : Heap) (kr : KR) (kp : KP) : Ans := AR2 args fun x0 x1 =>
 cl n184 [x0] h2 (fun x3 h4 =>
 JO (fun h7 =>
 B130x22 x0 h7 x1 cl kr kp) fun j23 =>
 LSS Pr 3 true x1 (.int .i64 n0) fun x24 =>
 IFB x24 (GEN (panA (.iface n9 (.str n36 (nat_lit 226187813140227768008177986391742176399534891738691412630441701833056540972817830802547))) h4) cl (fun x25 h26 =>
 j23  h26) kp)
 (j23  h4)) kp

theorem eqF130 : F130 = fun fu oR => compF Pr fu oR 130 2 := by kernel_rfl

def F131 (fu : Nat) (oR : Orc) (cl : CL) (args : List AV) (h5 : Heap) (kr : KR) (kp : KP) : Ans := AR5 args fun x0 x1 x2 x3 x4 =>
 BSL n9 n1 [(.str n0 n0)] n1 [(n0, x2)] h5 fun x6 h7 =>
 cl n80 [x0, x6] h7 (fun x8 h9 =>
 JO (fun h12 =>
 BSL n9 n1 [(.str n0 n0)] n1 [(n0, (.str n1 n59))] h12 fun x13 h14 =>
 cl n80 [x0, x13] h14 (fun x15 h16 =>
 kr (.tuple []) h16) kp) fun j19 =>
 cl n125 [x0, x1, x3, x4] h9 (fun x20 h21 =>
 LENS x20 fun x24 =>
 GTR Pr 3 true x24 (.int .i64 n0) fun x25 =>
 IFB x25 (BSL n9 n1 [(.str n0 n0)] n1 [(n0, (.str n1 n32))] h21 fun x26 h27 =>
 cl n80 [x0, x26] h27 (fun x28 h29 =>
 cl n126 [x0, x20, (.str n2 n8236)] h29 (fun x32 h33 =>
 j19  h33) kp) kp)
 (j19  h21)) kp) kp

theorem eqF131 : F131 = fun fu oR => compF Pr fu oR 131 5 := by kernel_rfl

def B132x18 (x2 : AV) (kr : KR) (x0 : AV) (x3 : AV) (h4 : Heap) : Ans := JO (fun x5 h6 =>
 SEL x2 (.bool true) x5 fun x7 =>
 JO (fun x8 h9 =>
 JO (fun x10 h11 =>
 SEL x7 (.bool true) x10 fun x12 =>
 kr x12 h11) fun j13 =>
 GW false x7 (EQL Pr 5 true x8 (.int .u8 n10) fun x14 =>
 j13 x14 h9)
 (j13 undefA h9)) fun j15 =>
 GW false x7 (j15 x0 h6)
 (j15 undefA h6)) fun j16 =>
 GW false x2 (EQL Pr 5 true x3 (.int .u8 n9) fun x17 =>
 j16 x17 h4)
 (j16 undefA h4)
def F132 (fu : Nat) (oR : Orc) (cl : CL) (args : List AV) (h1 : Heap) (kr : KR) (kp : KP) : Ans := AR1 args fun x0 =>
 EQL Pr 5 true x0 (.int .u8 n32) fun x2 =>
 JO (fun x3 h4 =>
 B132x18 x2 kr x0 x3 h4) fun j19 =>
 GW false x2 (j19 x0 h1)
 (j19 undefA h1)

theorem eqF132 : F132 = fun fu oR => compF Pr fu oR 132 1 := by kernel_rfl

def B133x33 (x9 : AV) (x4 : AV) (j6 : AV → Heap → Ans) (kr : KR) (x10 : AV) (cl : CL) (kp : KP) (x12 : AV) (x18 : AV) (h19 : Heap) : Ans := JO (fun x20 h21 =>
 JO (fun x22 h23 =>
 SEL x9 x22 (.bool false) fun x24 =>
 IFB x24 (ADD Pr 3 true x4 (.int .i64 n1) fun x25 =>
 j6 x25 h23)
 (kr x4 h23)) fun j26 =>
 GW true x9 (GEN (callV Pr (some x10) [x20] h21) cl (fun x27 h28 =>
 j26 x27 h28) kp)
 (j26 undefA h21)) fun j31 =>
 GW true x9 (SAT x12 x18 fun x32 =>
 j31 x32 h19)
 (j31 undefA h19)
def B133x39 (x9 : AV) (x4 : AV) (j6 : AV → Heap → Ans) (kr : KR) (x10 : AV) (cl : CL) (kp : KP) (x1 : AV) (x0 : AV) (h11 : Heap) : Ans := JO (fun x12 h13 =>
 JO (fun x14 h15 =>
 JO (fun x16 h17 =>
 JO (fun x18 h19 =>
 B133x33 x9 x4 j6 kr x10 cl kp x12 x18 h19) fun j34 =>
 GW true x9 (ADD Pr 3 false x14 x16 fun x35 =>
 j34 x35 h17)
 (j34 undefA h17)) fun j36 =>
 GW true x9 (j36 x4 h15)
 (j36 undefA h15)) fun j37 =>
 GW true x9 (j37 x1 h13)
 (j37 undefA h13)) fun j38 =>
 GW true x9 (j38 x0 h11)
 (j38 undefA h11)
def F133 (fu : Nat) (oR : Orc) (cl : CL) (args : List AV) (h3 : Heap) (kr : KR) (kp : KP) : Ans := AR3 args fun x0 x1 x2 =>
 LP fu (fun _ _ => Ans.no) (fun j6 x4 h5 =>
 ADD Pr 3 false x1 x4 fun x7 =>
 LENT x0 fun x8 =>
 LSS Pr 3 false x7 x8 fun x9 =>
 JO (fun x10 h11 =>
 B133x39 x9 x4 j6 kr x10 cl kp x1 x0 h11) fun j40 =>
 GW true x9 (j40 x2 h5)
 (j40 undefA h5)) (.int .i64 n0) h3

theorem eqF133 : F133 = fun fu oR => compF Pr fu oR 133 3 := by kernel_rfl

def B135x28 (x0 : AV) (x16 : AV) (cl : CL) (h17 : Heap) (x5 : AV) (kr : KR) (kp : KP) : Ans := OV (sliceA Pr 9 x0 none (some x16) none) fun x18 =>
 cl n191 [x18] h17 (fun x19 h20 =>
 EX n0 x19 fun x23 =>
 EX n1 x19 fun x24 =>
 OV (buildA Pr 130 [(n0, (.int .i64 n1)), (n2, x23)]) fun x25 =>
 ST n4 x5 x25 h20 fun h26 =>
 LDN n4 x5 h26 fun x27 =>
 kr (.tuple [x27, x16]) h26) kp
def B135x65 (x41 : AV) (x12 : AV) (cl : CL) (x0 : AV) (j29 : AV → Heap → Ans) (kp : KP) (x48 : AV) (h49 : Heap) : Ans := JO (fun x50 h51 =>
 SEL x41 x50 (.bool false) fun x52 =>
 IFB x52 (ADD Pr 3 true x12 (.int .i64 n1) fun x53 =>
 cl n133 [x0, x53, (.func (.func 190) [] [])] h51 (fun x54 h55 =>
 ADD Pr 3 true (.int .i64 n1) x54 fun x58 =>
 ADD Pr 3 false x12 x58 fun x59 =>
 j29 x59 h55) kp)
 (j29 x12 h51)) fun j60 =>
 GW true x41 (cl n190 [x48] h49 (fun x61 h62 =>
 j60 x61 h62) kp)
 (j60 undefA h49)
def B135x71 (x41 : AV) (x12 : AV) (cl : CL) (x0 : AV) (j29 : AV → Heap → Ans) (kp : KP) (x42 : AV) (h43 : Heap) : Ans := JO (fun x44 h45 =>
 JO (fun x46 h47 =>
 JO (fun x48 h49 =>
 B135x65 x41 x12 cl x0 j29 kp x48 h49) fun j66 =>
 GW true x41 (SAT x42 x46 fun x67 =>
 j66 x67 h47)
 (j66 undefA h47)) fun j68 =>
 GW true x41 (ADD Pr 3 true x44 (.int .i64 n1) fun x69 =>
 j68 x69 h45)
 (j68 undefA h45)) fun j70 =>
 GW true x41 (j70 x12 h43)
 (j70 undefA h43)
def B135x77 (x32 : AV) (x12 : AV) (cl : CL) (x0 : AV) (j29 : AV → Heap → Ans) (kp : KP) (x33 : AV) (x35 : AV) (h36 : Heap) : Ans := JO (fun x37 h38 =>
 JO (fun x39 h40 =>
 SEL x32 x39 (.bool false) fun x41 =>
 JO (fun x42 h43 =>
 B135x71 x41 x12 cl x0 j29 kp x42 h43) fun j72 =>
 GW true x41 (j72 x0 h40)
 (j72 undefA h40)) fun j73 =>
 GW true x32 (EQL Pr 5 true x37 (.int .u8 n46) fun x74 =>
 j73 x74 h38)
 (j73 undefA h38)) fun j75 =>
 GW true x32 (SAT x33 x35 fun x76 =>
 j75 x76 h36)
 (j75 undefA h36)
def B135x80 (cl : CL) (x0 : AV) (h9 : Heap) (x5 : AV) (kr : KR) (kp : KP) : Ans := cl n133 [x0, (.int .i64 n0), (.func (.func 190) [] [])] h9 (fun x12 h13 =>
 JO (fun x16 h17 =>
 B135x28 x0 x16 cl h17 x5 kr kp) fun j29 =>
 ADD Pr 3 true x12 (.int .i64 n1) fun x30 =>
 LENT x0 fun x31 =>
 LSS Pr 3 false x30 x31 fun x32 =>
 JO (fun x33 h34 =>
 JO (fun x35 h36 =>
 B135x77 x32 x12 cl x0 j29 kp x33 x35 h36) fun j78 =>
 GW true x32 (j78 x12 h34)
 (j78 undefA h34)) fun j79 =>
 GW true x32 (j79 x0 h13)
 (j79 undefA h13)) kp
def B135x108 (cl : CL) (x0 : AV) (h97 : Heap) (x5 : AV) (kr : KR) (kp : KP) : Ans := cl n194 [x0] h97 (fun x99 h100 =>
 EX n0 x99 fun x103 =>
 EX n1 x99 fun x104 =>
 OV (buildA Pr 130 [(n0, (.int .i64 n3)), (n1, x103)]) fun x105 =>
 ST n4 x5 x105 h100 fun h106 =>
 LDN n4 x5 h106 fun x107 =>
 kr (.tuple [x107, x104]) h106) kp
def B135x155 (x141 : AV) (x120 : AV) (j127 : Heap → Ans) (x146 : AV) (h147 : Heap) : Ans := JO (fun x148 h149 =>
 SEL x141 x148 (.bool false) fun x150 =>
 IFB x150 (FA n0 x120 fun x151 =>
 ST n1 x151 (.int .i64 n5) h149 fun h152 =>
 j127  h152)
 (j127  h149)) fun j153 =>
 GW true x141 (EQL Pr 5 true x146 (.int .u8 n40) fun x154 =>
 j153 x154 h147)
 (j153 undefA h147)
def B135x160 (x0 : AV) (x113 : AV) (x120 : AV) (j127 : Heap → Ans) (h135 : Heap) : Ans := LENT x0 fun x140 =>
 LSS Pr 3 false x113 x140 fun x141 =>
 JO (fun x142 h143 =>
 JO (fun x144 h145 =>
 JO (fun x146 h147 =>
 B135x155 x141 x120 j127 x146 h147) fun j156 =>
 GW true x141 (SAT x142 x144 fun x157 =>
 j156 x157 h145)
 (j156 undefA h145)) fun j158 =>
 GW true x141 (j158 x113 h143)
 (j158 undefA h143)) fun j159 =>
 GW true x141 (j159 x0 h135)
 (j159 undefA h135)
def B135x161 (cl : CL) (x0 : AV) (h110 : Heap) (x5 : AV) (kr : KR) (kp : KP) : Ans := cl n133 [x0, (.int .i64 n0), (.func (.func 196) [] [])] h110 (fun x113 h114 =>
 OPV (builtinF .min Pr [3, 3] [x113, (.int .i64 n40)] h114) fun x117 =>
 OV (sliceA Pr 9 x0 none (some x117) none) fun x118 =>
 OV (buildA Pr 130 [(n0, (.int .i64 n4)), (n1, x118)]) fun x119 =>
 NEWC (.n (some (.int .i64 n0)) (.n (some (.str n0 n0)) (.n (some (.int .i64 n0)) .e .e) .e) (.n (some (.int .i64 n0)) .e .e)) n4 130 h114 fun x120 h121 =>
 ST n4 x120 x119 h121 fun h122 =>
 JO (fun h123 =>
 LDN n4 x120 h123 fun x124 =>
 ST n4 x5 x124 h123 fun h125 =>
 LDN n4 x5 h125 fun x126 =>
 kr (.tuple [x126, x113]) h125) fun j127 =>
 GTR Pr 3 true x113 (.int .i64 n40) fun x128 =>
 IFB x128 (OV (buildA Pr 130 []) fun x129 =>
 ST n4 x5 x129 h122 fun h130 =>
 LDN n4 x5 h130 fun x131 =>
 kr (.tuple [x131, (.int .i64 n0)]) h130)
 (FA n1 x120 fun x132 =>
 LD x132 h122 fun x133 =>
 cl n197 [x133] h122 (fun x134 h135 =>
 IFB x134 (FA n0 x120 fun x138 =>
 ST n1 x138 (.int .i64 n6) h135 fun h139 =>
 j127  h139)
 (B135x160 x0 x113 x120 j127 h135)) kp)) kp
def B135x182 (x162 : AV) (x167 : AV) (h168 : Heap) (cl : CL) (x0 : AV) (x5 : AV) (kr : KR) (j169 : AV → Heap → Ans) (kp : KP) : Ans := SA n1 x162 x167 fun x171 =>
 LD x171 h168 fun x172 =>
 cl n198 [x0, x172] h168 (fun x173 h174 =>
 IFB x173 (OV (buildA Pr 130 [(n0, (.int .i64 n7)), (n1, x172)]) fun x177 =>
 LENT x172 fun x178 =>
 ST n4 x5 x177 h174 fun h179 =>
 LDN n4 x5 h179 fun x180 =>
 kr (.tuple [x180, x178]) h179)
 (ADD Pr 3 true x167 (.int .i64 n1) fun x181 =>
 j169 x181 h174)) kp
def B135x186 (cl : CL) (h110 : Heap) (fu : Nat) (x0 : AV) (x5 : AV) (kr : KR) (kp : KP) : Ans := cl n56 [(.str n60 (nat_lit 440530996711968739911640227301029809639671399024529253903015996329481968211493671615709962352221065548437406721784014841120924320141379100485158)), (.str n1 n32)] h110 (fun x162 h163 =>
 LENS x162 fun x166 =>
 LP fu (fun _ _ => Ans.no) (fun j169 x167 h168 =>
 LSS Pr 3 false x167 x166 fun x170 =>
 IFB x170 (B135x182 x162 x167 h168 cl x0 x5 kr j169 kp)
 (OV (buildA Pr 130 []) fun x183 =>
 ST n4 x5 x183 h168 fun h184 =>
 LDN n4 x5 h184 fun x185 =>
 kr (.tuple [x185, (.int .i64 n0)]) h184)) (.int .i64 n0) h163) kp
def B135x189 (x91 : AV) (cl : CL) (x0 : AV) (x5 : AV) (kr : KR) (kp : KP) (x7 : AV) (fu : Nat) (x94 : AV) (h95 : Heap) : Ans := JO (fun x96 h97 =>
 SEL x91 x96 (.bool false) fun x98 =>
 IFB x98 (B135x108 cl x0 h97 x5 kr kp)
 (cl n195 [x7] h97 (fun x109 h110 =>
 IFB x109 (B135x161 cl x0 h110 x5 kr kp)
 (B135x186 cl h110 fu x0 x5 kr kp)) kp)) fun j187 =>
 GW true x91 (OV (unOpA .not x94) fun x188 =>
 j187 x188 h95)
 (j187 undefA h95)
def B135x197 (x7 : AV) (cl : CL) (x0 : AV) (x5 : AV) (kr : KR) (kp : KP) (fu : Nat) (x3 : AV) (h9 : Heap) : Ans := EQL Pr 5 true x7 (.int .u8 n47) fun x91 =>
 JO (fun x92 h93 =>
 JO (fun x94 h95 =>
 B135x189 x91 cl x0 x5 kr kp x7 fu x94 h95) fun j190 =>
 GW true x91 (cl n193 [x92] h93 (fun x191 h192 =>
 j190 x191 h192) kp)
 (j190 undefA h93)) fun j195 =>
 GW true x91 (LDN n4 x3 h9 fun x196 =>
 j195 x196 h9)
 (j195 undefA h9)
def B135x198 (x7 : AV) (cl : CL) (x0 : AV) (h9 : Heap) (x5 : AV) (kr : KR) (kp : KP) (fu : Nat) (x3 : AV) : Ans := EQL Pr 5 true x7 (.int .u8 n34) fun x81 =>
 IFB x81 (cl n192 [x0] h9 (fun x82 h83 =>
 EX n0 x82 fun x86 =>
 EX n1 x82 fun x87 =>
 OV (buildA Pr 130 [(n0, (.int .i64 n2)), (n1, x86)]) fun x88 =>
 ST n4 x5 x88 h83 fun h89 =>
 LDN n4 x5 h89 fun x90 =>
 kr (.tuple [x90, x87]) h89) kp)
 (B135x197 x7 cl x0 x5 kr kp fu x3 h9)
def F135 (fu : Nat) (oR : Orc) (cl : CL) (args : List AV) (h2 : Heap) (kr : KR) (kp : KP) : Ans := AR2 args fun x0 x1 =>
 BOX 130 x1 h2 fun x3 h4 =>
 NEWC (.n (some (.int .i64 n0)) (.n (some (.str n0 n0)) (.n (some (.int .i64 n0)) .e .e) .e) (.n (some (.int .i64 n0)) .e .e)) n4 130 h4 fun x5 h6 =>
 SAT x0 (.int .i64 n0) fun x7 =>
 cl n190 [x7] h6 (fun x8 h9 =>
 IFB x8 (B135x80 cl x0 h9 x5 kr kp)
 (B135x198 x7 cl x0 h9 x5 kr kp fu x3)) kp

theorem eqF135 : F135 = fun fu oR => compF Pr fu oR 135 2 := by kernel_rfl

def B136x89 (x5 : AV) (h69 : Heap) (cl : CL) (x0 : AV) (j61 : Heap → Ans) (kp : KP) : Ans := FA n2 x5 fun x70 =>
 LD x70 h69 fun x71 =>
 BSL n3 n1 [(.int .i64 n0)] n1 [(n0, (.int .i64 n4))] h69 fun x72 h73 =>
 LD x70 h73 fun x74 =>
 EQV x71 x74 <|
 cl n201 [x0, x72] h73 (fun x75 h76 =>
 LD x70 h76 fun x79 =>
 EQV x71 x79 <|
 BSL n9 n1 [(.str n0 n0)] n1 [(n0, x75)] h76 fun x80 h81 =>
 LD x70 h81 fun x82 =>
 EQV x71 x82 <|
 GEN (builtinF .append Pr [48, 48] [x71, x80] h81) cl (fun x83 h84 =>
 FA n2 x5 fun x87 =>
 ST n1 x87 x83 h84 fun h88 =>
 j61  h88) kp) kp
def B136x106 (h60 : Heap) (cl : CL) (x0 : AV) (x5 : AV) (j61 : Heap → Ans) (kp : KP) (j18 : Heap → Ans) : Ans := BSL n9 n1 [(.str n0 n0)] n1 [(n0, (.str n1 n41))] h60 fun x62 h63 =>
 cl n203 [x0, x62] h63 (fun x64 h65 =>
 OV (unOpA .not x64) fun x68 =>
 IFB x68 (JO (fun h69 =>
 B136x89 x5 h69 cl x0 j61 kp) fun j90 =>
 FA n2 x5 fun x91 =>
 LD x91 h65 fun x92 =>
 LENS x92 fun x93 =>
 GTR Pr 3 true x93 (.int .i64 n0) fun x94 =>
 IFB x94 (cl n202 [x0, (.str n1 n44)] h65 (fun x95 h96 =>
 j90  h96) kp)
 (j90  h65))
 (NC x0 fun x99 =>
 FA n1 x99 fun x100 =>
 LD x100 h65 fun x101 =>
 ADD Pr 3 true x101 (.int .i64 n1) fun x102 =>
 NC x0 fun x103 =>
 FA n1 x103 fun x104 =>
 ST n1 x104 x102 h65 fun h105 =>
 j18  h105)) kp
def B136x107 (x0 : AV) (h36 : Heap) (cl : CL) (x5 : AV) (fu : Nat) (kp : KP) (j18 : Heap → Ans) : Ans := NC x0 fun x39 =>
 FA n1 x39 fun x40 =>
 LD x40 h36 fun x41 =>
 ADD Pr 3 true x41 (.int .i64 n1) fun x42 =>
 NC x0 fun x43 =>
 FA n1 x43 fun x44 =>
 ST n1 x44 x42 h36 fun h45 =>
 BSL n3 n1 [(.int .i64 n0), (.int .i64 n0)] n2 [(n0, (.int .i64 n4)), (n1, (.int .i64 n5))] h45 fun x46 h47 =>
 cl n201 [x0, x46] h47 (fun x48 h49 =>
 FA n0 x5 fun x52 =>
 ST n1 x52 (.int .i64 n4) h49 fun h53 =>
 FA n1 x5 fun x54 =>
 ST n1 x54 x48 h53 fun h55 =>
 cl n202 [x0, (.str n1 n40)] h55 (fun x56 h57 =>
 LP fu (fun _ => Ans.no) (fun j61 h60 =>
 B136x106 h60 cl x0 x5 j61 kp j18)  h57) kp) kp
def B136x124 (h36 : Heap) (cl : CL) (x0 : AV) (x5 : AV) (j18 : Heap → Ans) (kp : KP) : Ans := BSL n9 n1 [(.str n0 n0)] n1 [(n0, (.str n1 n123))] h36 fun x108 h109 =>
 cl n203 [x0, x108] h109 (fun x110 h111 =>
 IFB x110 (FA n0 x5 fun x114 =>
 ST n1 x114 (.int .i64 n2) h111 fun h115 =>
 j18  h115)
 (cl n204 [x0] h111 (fun x116 h117 =>
 FA n0 x5 fun x120 =>
 ST n1 x120 (.int .i64 n3) h117 fun h121 =>
 FA n3 x5 fun x122 =>
 ST n1 x122 x116 h121 fun h123 =>
 j18  h123) kp)) kp
def F136 (fu : Nat) (oR : Orc) (cl : CL) (args : List AV) (h1 : Heap) (kr : KR) (kp : KP) : Ans := AR1 args fun x0 =>
 NEWC (.n (some (.int .i64 n0)) (.n (some (.str n0 n0)) (.n (some (.int .i64 n0)) .e .e) .e) (.n (some (.nilslice)) (.n (some (.int .i64 n0)) .e .e) .e)) n5 61 h1 fun x2 h3 =>
 OV (buildA Pr 61 [(n3, (.int .i64 (nat_lit 18446744073709551615)))]) fun x4 =>
 NEWC (.n (some (.int .i64 n0)) (.n (some (.str n0 n0)) (.n (some (.int .i64 n0)) .e .e) .e) (.n (some (.nilslice)) (.n (some (.int .i64 n0)) .e .e) .e)) n5 61 h3 fun x5 h6 =>
 ST n5 x5 x4 h6 fun h7 =>
 JO (fun h8 =>
 cl n205 [x0] h8 (fun x9 h10 =>
 FA n4 x5 fun x13 =>
 ST n1 x13 x9 h10 fun h14 =>
 LDN n5 x5 h14 fun x15 =>
 ST n5 x2 x15 h14 fun h16 =>
 LDN n5 x2 h16 fun x17 =>
 kr x17 h16) kp) fun j18 =>
 BSL n9 n1 [(.str n0 n0), (.str n0 n0)] n2 [(n0, (.str n5 (nat_lit 336236856642))), (n1, (.str n3 (nat_lit 4476485)))] h7 fun x19 h20 =>
 cl n199 [x0, x19] h20 (fun x21 h22 =>
 IFB x21 (cl n200 [x0] h22 (fun x25 h26 =>
 OV (fieldA Pr 130 x25 1) fun x29 =>
 EQL Pr 9 true x29 (.str n3 (nat_lit 4476485)) fun x30 =>
 IFB x30 (FA n0 x5 fun x31 =>
 ST n1 x31 (.int .i64 n1) h26 fun h32 =>
 j18  h32)
 (j18  h26)) kp)
 (BSL n9 n1 [(.str n0 n0)] n1 [(n0, (.str n8 (nat_lit 7957695015192261990)))] h22 fun x33 h34 =>
 cl n199 [x0, x33] h34 (fun x35 h36 =>
 IFB x35 (B136x107 x0 h36 cl x5 fu kp j18)
 (B136x124 h36 cl x0 x5 j18 kp)) kp)) kp

theorem eqF136 : F136 = fun fu oR => compF Pr fu oR 136 1 := by kernel_rfl

def B137x29 (x0 : AV) (h5 : Heap) (x1 : AV) (x3 : AV) (kr : KR) : Ans := NC x0 fun x6 =>
 FA n12 x6 fun x7 =>
 FA n3 x7 fun x8 =>
 LD x8 h5 fun x9 =>
 SUB Pr 3 true x9 (.int .i64 n1) fun x10 =>
 NC x0 fun x11 =>
 FA n12 x11 fun x12 =>
 FA n3 x12 fun x13 =>
 ST n1 x13 x10 h5 fun h14 =>
 NC x0 fun x15 =>
 FA n12 x15 fun x16 =>
 FA n5 x16 fun x17 =>
 LD x17 h14 fun x18 =>
 SA n1 x18 x1 fun x19 =>
 ST n1 x19 (.bool true) h14 fun h20 =>
 NC x0 fun x21 =>
 FA n0 x21 fun x22 =>
 FA n0 x22 fun x23 =>
 LD x23 h20 fun x24 =>
 SA n5 x24 x1 fun x25 =>
 LDN n5 x25 h20 fun x26 =>
 ST n5 x3 x26 h20 fun h27 =>
 LDN n5 x3 h27 fun x28 =>
 kr x28 h27
def F137 (fu : Nat) (oR : Orc) (cl : CL) (args : List AV) (h2 : Heap) (kr : KR) (kp : KP) : Ans := AR2 args fun x0 x1 =>
 NEWC (.n (some (.int .i64 n0)) (.n (some (.str n0 n0)) (.n (some (.int .i64 n0)) .e .e) .e) (.n (some (.str n0 n0)) (.n (some (.nilslice)) .e .e) .e)) n5 108 h2 fun x3 h4 =>
 JO (fun h5 =>
 B137x29 x0 h5 x1 x3 kr) fun j30 =>
 NC x0 fun x31 =>
 FA n12 x31 fun x32 =>
 FA n3 x32 fun x33 =>
 LD x33 h4 fun x34 =>
 EQL Pr 3 true x34 (.int .i64 n0) fun x35 =>
 IFB x35 (GEN (panA (.iface n85 (.int .i64 n1)) h4) cl (fun x36 h37 =>
 j30  h37) kp)
 (j30  h4)

theorem eqF137 : F137 = fun fu oR => compF Pr fu oR 137 2 := by kernel_rfl

def F138 (fu : Nat) (oR : Orc) (cl : CL) (args : List AV) (h1 : Heap) (kr : KR) (kp : KP) : Ans := AR1 args fun x0 =>
 NEWC (.n (some (.int .i64 n0)) (.n (some (.int .i64 n0)) .e .e) (.n (some (.str n0 n0)) .e .e)) n3 44 h1 fun x2 h3 =>
 OV (buildA Pr 44 [(n0, (.int .i64 n1)), (n1, x0)]) fun x4 =>
 ST n3 x2 x4 h3 fun h5 =>
 LDN n3 x2 h5 fun x6 =>
 kr x6 h5

theorem eqF138 : F138 = fun fu oR => compF Pr fu oR 138 1 := by kernel_rfl

def F140 (fu : Nat) (oR : Orc) (cl : CL) (args : List AV) (h1 : Heap) (kr : KR) (kp : KP) : Ans := AR1 args fun x0 =>
 NEWC (.n (some (.int .i64 n0)) (.n (some (.int .i64 n0)) .e .e) (.n (some (.str n0 n0)) .e .e)) n3 44 h1 fun x2 h3 =>
 IFB x0 (cl n206 [(.int .i64 n1)] h3 (fun x4 h5 =>
 ST n3 x2 x4 h5 fun h8 =>
 LDN n3 x2 h8 fun x9 =>
 kr x9 h8) kp)
 (cl n206 [(.int .i64 n0)] h3 (fun x10 h11 =>
 ST n3 x2 x10 h11 fun h14 =>
 LDN n3 x2 h14 fun x15 =>
 kr x15 h14) kp)

theorem eqF140 : F140 = fun fu oR => compF Pr fu oR 140 1 := by kernel_rfl

def B142x34 (x3 : AV) (h9 : Heap) (x0 : AV) (cl : CL) (x5 : AV) (kr : KR) (kp : KP) : Ans := FA n1 x3 fun x12 =>
 LD x12 h9 fun x13 =>
 EQL Pr 9 true x13 (.str n2 (nat_lit 21070)) fun x14 =>
 IFB x14 (NC x0 fun x15 =>
 FA n8 x15 fun x16 =>
 LD x16 h9 fun x17 =>
 cl n206 [x17] h9 (fun x18 h19 =>
 ST n3 x5 x18 h19 fun h22 =>
 LDN n3 x5 h22 fun x23 =>
 kr x23 h22) kp)
 (NC x0 fun x24 =>
 FA n7 x24 fun x25 =>
 LD x25 h9 fun x26 =>
 LENS x26 fun x27 =>
 cl n206 [x27] h9 (fun x28 h29 =>
 ST n3 x5 x28 h29 fun h32 =>
 LDN n3 x5 h32 fun x33 =>
 kr x33 h32) kp)
def B142x57 (x3 : AV) (h9 : Heap) (cl : CL) (x0 : AV) (x5 : AV) (kr : KR) (kp : KP) : Ans := LDN n3 x3 h9 fun x35 =>
 cl n210 [x0, x35] h9 (fun x36 h37 =>
 cl n211 [x36] h37 (fun x40 h41 =>
 NEWC (.n (some (.int .i64 n0)) (.n (some (.int .i64 n0)) .e .e) (.n (some (.str n0 n0)) .e .e)) n3 44 h41 fun x44 h45 =>
 ST n3 x44 x40 h45 fun h46 =>
 LDN n3 x3 h46 fun x47 =>
 FA n0 x44 fun x48 =>
 LD x48 h46 fun x49 =>
 cl n212 [x0, x47, (.int .i64 n0), x49] h46 (fun x50 h51 =>
 LDN n3 x44 h51 fun x54 =>
 ST n3 x5 x54 h51 fun h55 =>
 LDN n3 x5 h55 fun x56 =>
 kr x56 h55) kp) kp) kp
def F142 (fu : Nat) (oR : Orc) (cl : CL) (args : List AV) (h2 : Heap) (kr : KR) (kp : KP) : Ans := AR2 args fun x0 x1 =>
 BOX 184 x1 h2 fun x3 h4 =>
 NEWC (.n (some (.int .i64 n0)) (.n (some (.int .i64 n0)) .e .e) (.n (some (.str n0 n0)) .e .e)) n3 44 h4 fun x5 h6 =>
 LDN n3 x3 h6 fun x7 =>
 cl n209 [x7] h6 (fun x8 h9 =>
 IFB x8 (B142x34 x3 h9 x0 cl x5 kr kp)
 (B142x57 x3 h9 cl x0 x5 kr kp)) kp

theorem eqF142 : F142 = fun fu oR => compF Pr fu oR 142 2 := by kernel_rfl

def B143x34 (x16 : AV) (x23 : AV) (x11 : AV) (h24 : Heap) (x2 : AV) (x4 : AV) (kr : KR) : Ans := SEL x16 x23 (.bool false) fun x25 =>
 IFB x25 (FA n1 x11 fun x26 =>
 LD x26 h24 fun x27 =>
 OV (buildA Pr 184 [(n0, x27), (n1, x2)]) fun x28 =>
 ST n3 x4 x28 h24 fun h29 =>
 LDN n3 x4 h29 fun x30 =>
 kr x30 h29)
 (OV (buildA Pr 184 [(n1, x2)]) fun x31 =>
 ST n3 x4 x31 h24 fun h32 =>
 LDN n3 x4 h32 fun x33 =>
 kr x33 h32)
def B143x43 (x16 : AV) (x11 : AV) (x2 : AV) (x4 : AV) (kr : KR) (cl : CL) (kp : KP) (x17 : AV) (h18 : Heap) : Ans := JO (fun x19 h20 =>
 JO (fun x21 h22 =>
 JO (fun x23 h24 =>
 B143x34 x16 x23 x11 h24 x2 x4 kr) fun j35 =>
 GW true x16 (cl n213 [x19, x21] h22 (fun x36 h37 =>
 j35 x36 h37) kp)
 (j35 undefA h22)) fun j40 =>
 GW true x16 (j40 x2 h20)
 (j40 undefA h20)) fun j41 =>
 GW true x16 (LD x17 h18 fun x42 =>
 j41 x42 h18)
 (j41 undefA h18)
def F143 (fu : Nat) (oR : Orc) (cl : CL) (args : List AV) (h3 : Heap) (kr : KR) (kp : KP) : Ans := AR3 args fun x0 x1 x2 =>
 NEWC (.n (some (.str n0 n0)) (.n (some (.str n0 n0)) .e .e) (.n (some (.int .i64 n0)) .e .e)) n3 184 h3 fun x4 h5 =>
 NC x0 fun x6 =>
 FA n2 x6 fun x7 =>
 LD x7 h5 fun x8 =>
 SA n5 x8 x1 fun x9 =>
 LDN n5 x9 h5 fun x10 =>
 NEWC (.n (some (.int .i64 n0)) (.n (some (.str n0 n0)) (.n (some (.int .i64 n0)) .e .e) .e) (.n (some (.nilslice)) (.n (some (.int .i64 n0)) .e .e) .e)) n5 61 h5 fun x11 h12 =>
 ST n5 x11 x10 h12 fun h13 =>
 FA n0 x11 fun x14 =>
 LD x14 h13 fun x15 =>
 EQL Pr 3 true x15 (.int .i64 n4) fun x16 =>
 JO (fun x17 h18 =>
 B143x43 x16 x11 x2 x4 kr cl kp x17 h18) fun j44 =>
 GW true x16 (FA n2 x11 fun x45 =>
 j44 x45 h13)
 (j44 undefA h13)

theorem eqF143 : F143 = fun fu oR => compF Pr fu oR 143 3 := by kernel_rfl

def B144x35 (x0 : AV) (h20 : Heap) (x1 : AV) (cl : CL) (x3 : AV) (kr : KR) (kp : KP) : Ans := NC x0 fun x23 =>
 FA n7 x23 fun x24 =>
 LD x24 h20 fun x25 =>
 SUB Pr 3 true x1 (.int .i64 n1) fun x26 =>
 SA n1 x25 x26 fun x27 =>
 LD x27 h20 fun x28 =>
 cl n214 [x28] h20 (fun x29 h30 =>
 ST n3 x3 x29 h30 fun h33 =>
 LDN n3 x3 h33 fun x34 =>
 kr x34 h33) kp
def B144x48 (cl : CL) (x1 : AV) (h20 : Heap) (x3 : AV) (kr : KR) (kp : KP) : Ans := cl n24 [x1, (.int .i64 n1), (.int .i64 n50)] h20 (fun x36 h37 =>
 IFB x36 (OV (buildA Pr 44 []) fun x40 =>
 ST n3 x3 x40 h37 fun h41 =>
 LDN n3 x3 h41 fun x42 =>
 kr x42 h41)
 (GEN (panA (.iface n85 (.int .i64 n5)) h37) cl (fun x43 h44 =>
 LDN n3 x3 h44 fun x47 =>
 kr x47 h44) kp)) kp
def F144 (fu : Nat) (oR : Orc) (cl : CL) (args : List AV) (h2 : Heap) (kr : KR) (kp : KP) : Ans := AR2 args fun x0 x1 =>
 NEWC (.n (some (.int .i64 n0)) (.n (some (.int .i64 n0)) .e .e) (.n (some (.str n0 n0)) .e .e)) n3 44 h2 fun x3 h4 =>
 EQL Pr 3 true x1 (.int .i64 n0) fun x5 =>
 IFB x5 (NC x0 fun x6 =>
 FA n6 x6 fun x7 =>
 LD x7 h4 fun x8 =>
 cl n214 [x8] h4 (fun x9 h10 =>
 ST n3 x3 x9 h10 fun h13 =>
 LDN n3 x3 h13 fun x14 =>
 kr x14 h13) kp)
 (NC x0 fun x15 =>
 FA n7 x15 fun x16 =>
 LD x16 h4 fun x17 =>
 LENS x17 fun x18 =>
 cl n24 [x1, (.int .i64 n1), x18] h4 (fun x19 h20 =>
 IFB x19 (B144x35 x0 h20 x1 cl x3 kr kp)
 (B144x48 cl x1 h20 x3 kr kp)) kp)

theorem eqF144 : F144 = fun fu oR => compF Pr fu oR 144 2 := by kernel_rfl

def F145 (fu : Nat) (oR : Orc) (cl : CL) (args : List AV) (h1 : Heap) (kr : KR) (kp : KP) : Ans := AR1 args fun x0 =>
 BOX 44 x0 h1 fun x2 h3 =>
 LDN n3 x2 h3 fun x4 =>
 cl n216 [x4] h3 (fun x5 h6 =>
 cl n215 [x5] h6 (fun x9 h10 =>
 BOP Pr .quo 3 true x9 (.int .i64 (nat_lit 1000000)) fun x13 =>
 kr x13 h10) kp) kp

theorem eqF145 : F145 = fun fu oR => compF Pr fu oR 145 1 := by kernel_rfl

def F146 (fu : Nat) (oR : Orc) (cl : CL) (args : List AV) (h1 : Heap) (kr : KR) (kp : KP) : Ans := AR1 args fun x0 =>
 BOX 44 x0 h1 fun x2 h3 =>
 FA n0 x2 fun x4 =>
 LD x4 h3 fun x5 =>
 EQL Pr 3 true x5 (.int .i64 n1) fun x6 =>
 IFB x6 (FA n1 x2 fun x7 =>
 LD x7 h3 fun x8 =>
 cl n127 [x8] h3 (fun x9 h10 =>
 kr x9 h10) kp)
 (FA n2 x2 fun x13 =>
 LD x13 h3 fun x14 =>
 kr x14 h3)

theorem eqF146 : F146 = fun fu oR => compF Pr fu oR 146 1 := by kernel_rfl

def F147 (fu : Nat) (oR : Orc) (cl : CL) (args : List AV) (h3 : Heap) (kr : KR) (kp : KP) : Ans := AR3 args fun x0 x1 x2 =>
 BOX 184 x1 h3 fun x4 h5 =>
 NEWC (.n (some (.int .i64 n0)) (.n (some (.int .i64 n0)) .e .e) (.n (some (.str n0 n0)) .e .e)) n3 44 h5 fun x6 h7 =>
 LDN n3 x4 h7 fun x8 =>
 cl n148 [x0, x8] h7 (fun x9 h10 =>
 OV (lookupA Pr h10 189 x9 x2 true) fun x13 =>
 EX n0 x13 fun x14 =>
 EX n1 x13 fun x15 =>
 NEWC (.n (some (.int .i64 n0)) (.n (some (.int .i64 n0)) .e .e) (.n (some (.str n0 n0)) .e .e)) n3 44 h10 fun x16 h17 =>
 ST n3 x16 x14 h17 fun h18 =>
 OV (unOpA .not x15) fun x19 =>
 IFB x19 (LDN n3 x4 h18 fun x20 =>
 OV (buildA Pr 44 []) fun x21 =>
 cl n217 [x0, x20, x9, x2, x21] h18 (fun x22 h23 =>
 OV (buildA Pr 44 []) fun x26 =>
 ST n3 x6 x26 h23 fun h27 =>
 LDN n3 x6 h27 fun x28 =>
 kr x28 h27) kp)
 (LDN n3 x4 h18 fun x29 =>
 FA n0 x16 fun x30 =>
 LD x30 h18 fun x31 =>
 cl n212 [x0, x29, (.int .i64 n1), x31] h18 (fun x32 h33 =>
 LDN n3 x16 h33 fun x36 =>
 ST n3 x6 x36 h33 fun h37 =>
 LDN n3 x6 h37 fun x38 =>
 kr x38 h37) kp)) kp

theorem eqF147 : F147 = fun fu oR => compF Pr fu oR 147 3 := by kernel_rfl

def F148 (fu : Nat) (oR : Orc) (cl : CL) (args : List AV) (h2 : Heap) (kr : KR) (kp : KP) : Ans := AR2 args fun x0 x1 =>
 BOX 184 x1 h2 fun x3 h4 =>
 JO (fun h5 =>
 LDN n3 x3 h5 fun x6 =>
 cl n210 [x0, x6] h5 (fun x7 h8 =>
 cl n218 [x7] h8 (fun x11 h12 =>
 kr x11 h12) kp) kp) fun j15 =>
 LDN n3 x3 h4 fun x16 =>
 cl n209 [x16] h4 (fun x17 h18 =>
 IFB x17 (GEN (panA (.iface n85 (.int .i64 n8)) h18) cl (fun x21 h22 =>
 j15  h22) kp)
 (j15  h18)) kp

theorem eqF148 : F148 = fun fu oR => compF Pr fu oR 148 2 := by kernel_rfl

def B149x53 (x11 : AV) (h30 : Heap) (cl : CL) (x0 : AV) (x18 : AV) (j37 : Heap → Ans) (kp : KP) : Ans := FA n4 x11 fun x39 =>
 LD x39 h30 fun x40 =>
 SA n1 x40 (.int .i64 n0) fun x41 =>
 LD x41 h30 fun x42 =>
 cl n89 [x0, x42] h30 (fun x43 h44 =>
 cl n145 [x43] h44 (fun x47 h48 =>
 FA n5 x18 fun x51 =>
 ST n1 x51 x47 h48 fun h52 =>
 j37  h52) kp) kp
def B149x69 (x11 : AV) (h30 : Heap) (cl : CL) (x0 : AV) (x18 : AV) (j37 : Heap → Ans) (kp : KP) : Ans := FA n4 x11 fun x55 =>
 LD x55 h30 fun x56 =>
 SA n1 x56 (.int .i64 n0) fun x57 =>
 LD x57 h30 fun x58 =>
 cl n89 [x0, x58] h30 (fun x59 h60 =>
 cl n146 [x59] h60 (fun x63 h64 =>
 FA n4 x18 fun x67 =>
 ST n1 x67 x63 h64 fun h68 =>
 j37  h68) kp) kp
def F149 (fu : Nat) (oR : Orc) (cl : CL) (args : List AV) (h2 : Heap) (kr : KR) (kp : KP) : Ans := AR2 args fun x0 x1 =>
 NEWC (.n (some (.int .i64 n0)) (.n (some (.str n0 n0)) (.n (some (.int .i64 n0)) .e .e) (.n (some (.int .i64 n0)) .e .e)) (.n (some (.str n0 n0)) (.n (some (.str n0 n0)) .e .e) .e)) n6 192 h2 fun x3 h4 =>
 NC x0 fun x5 =>
 FA n0 x5 fun x6 =>
 FA n0 x6 fun x7 =>
 LD x7 h4 fun x8 =>
 SA n5 x8 x1 fun x9 =>
 LDN n5 x9 h4 fun x10 =>
 NEWC (.n (some (.int .i64 n0)) (.n (some (.str n0 n0)) (.n (some (.int .i64 n0)) .e .e) .e) (.n (some (.str n0 n0)) (.n (some (.nilslice)) .e .e) .e)) n5 108 h4 fun x11 h12 =>
 ST n5 x11 x10 h12 fun h13 =>
 FA n0 x11 fun x14 =>
 LD x14 h13 fun x15 =>
 FA n1 x11 fun x16 =>
 LD x16 h13 fun x17 =>
 NEWC (.n (some (.int .i64 n0)) (.n (some (.str n0 n0)) (.n (some (.int .i64 n0)) .e .e) (.n (some (.int .i64 n0)) .e .e)) (.n (some (.str n0 n0)) (.n (some (.str n0 n0)) .e .e) .e)) n6 192 h13 fun x18 h19 =>
 NEWB h13 h19 fun b20 i21 h22 =>
 cl n143 [x0, x1, x17] h22 (fun x23 h24 =>
 LD x14 h24 fun x27 =>
 EQV x15 x27 <|
 OV (buildA Pr 192 [(n0, x15), (n1, x23)]) fun x28 =>
 SETB h24 i21 b20 fun h29 =>
 ST n6 x18 x28 h29 fun h30 =>
 FA n0 x11 fun x31 =>
 LD x31 h30 fun x32 =>
 JO (fun h33 =>
 LDN n6 x18 h33 fun x34 =>
 ST n6 x3 x34 h33 fun h35 =>
 LDN n6 x3 h35 fun x36 =>
 kr x36 h35) fun j37 =>
 EQL Pr 3 true x32 (.int .i64 n4) fun x38 =>
 IFB x38 (B149x53 x11 h30 cl x0 x18 j37 kp)
 (EQL Pr 3 true x32 (.int .i64 n5) fun x54 =>
 IFB x54 (B149x69 x11 h30 cl x0 x18 j37 kp)
 (j37  h30))) kp

theorem eqF149 : F149 = fun fu oR => compF Pr fu oR 149 2 := by kernel_rfl

def B150x44 (x4 : AV) (h9 : Heap) (x6 : AV) (cl : CL) (x0 : AV) (j16 : Heap → Ans) (kp : KP) : Ans := FA n1 x4 fun x26 =>
 LDN n3 x26 h9 fun x27 =>
 FA n1 x4 fun x28 =>
 LDN n3 x28 h9 fun x29 =>
 FA n4 x4 fun x30 =>
 LD x30 h9 fun x31 =>
 LDN n3 x6 h9 fun x32 =>
 cl n148 [x0, x29] h9 (fun x33 h34 =>
 LDN n3 x6 h34 fun x37 =>
 EQV x32 x37 <|
 LD x30 h34 fun x38 =>
 EQV x31 x38 <|
 LDN n3 x26 h34 fun x39 =>
 EQV x27 x39 <|
 cl n217 [x0, x27, x33, x31, x32] h34 (fun x40 h41 =>
 j16  h41) kp) kp
def F150 (fu : Nat) (oR : Orc) (cl : CL) (args : List AV) (h3 : Heap) (kr : KR) (kp : KP) : Ans := AR3 args fun x0 x1 x2 =>
 BOX 192 x1 h3 fun x4 h5 =>
 BOX 44 x2 h5 fun x6 h7 =>
 NEWC (.n (some (.int .i64 n0)) (.n (some (.int .i64 n0)) .e .e) (.n (some (.str n0 n0)) .e .e)) n3 44 h7 fun x8 h9 =>
 FA n0 x4 fun x10 =>
 LD x10 h9 fun x11 =>
 JO (fun h12 =>
 LDN n3 x6 h12 fun x13 =>
 ST n3 x8 x13 h12 fun h14 =>
 LDN n3 x8 h14 fun x15 =>
 kr x15 h14) fun j16 =>
 EQL Pr 3 true x11 (.int .i64 n4) fun x17 =>
 IFB x17 (FA n5 x4 fun x18 =>
 LD x18 h9 fun x19 =>
 LDN n3 x6 h9 fun x20 =>
 cl n219 [x0, x19, x20] h9 (fun x21 h22 =>
 j16  h22) kp)
 (EQL Pr 3 true x11 (.int .i64 n5) fun x25 =>
 IFB x25 (B150x44 x4 h9 x6 cl x0 j16 kp)
 (FA n1 x4 fun x45 =>
 LDN n3 x45 h9 fun x46 =>
 LDN n3 x6 h9 fun x47 =>
 cl n157 [x0, x46, x47] h9 (fun x48 h49 =>
 j16  h49) kp))

theorem eqF150 : F150 = fun fu oR => compF Pr fu oR 150 3 := by kernel_rfl

def B151x37 (x8 : AV) (x3 : AV) (h6 : Heap) (cl : CL) (x0 : AV) (x5 : AV) (kr : KR) (kp : KP) : Ans := EQL Pr 3 true x8 (.int .i64 n5) fun x18 =>
 IFB x18 (FA n1 x3 fun x19 =>
 LDN n3 x19 h6 fun x20 =>
 FA n4 x3 fun x21 =>
 LD x21 h6 fun x22 =>
 cl n147 [x0, x20, x22] h6 (fun x23 h24 =>
 ST n3 x5 x23 h24 fun h27 =>
 LDN n3 x5 h27 fun x28 =>
 kr x28 h27) kp)
 (FA n1 x3 fun x29 =>
 LDN n3 x29 h6 fun x30 =>
 cl n142 [x0, x30] h6 (fun x31 h32 =>
 ST n3 x5 x31 h32 fun h35 =>
 LDN n3 x5 h35 fun x36 =>
 kr x36 h35) kp)
def F151 (fu : Nat) (oR : Orc) (cl : CL) (args : List AV) (h2 : Heap) (kr : KR) (kp : KP) : Ans := AR2 args fun x0 x1 =>
 BOX 192 x1 h2 fun x3 h4 =>
 NEWC (.n (some (.int .i64 n0)) (.n (some (.int .i64 n0)) .e .e) (.n (some (.str n0 n0)) .e .e)) n3 44 h4 fun x5 h6 =>
 FA n0 x3 fun x7 =>
 LD x7 h6 fun x8 =>
 EQL Pr 3 true x8 (.int .i64 n4) fun x9 =>
 IFB x9 (FA n5 x3 fun x10 =>
 LD x10 h6 fun x11 =>
 cl n144 [x0, x11] h6 (fun x12 h13 =>
 ST n3 x5 x12 h13 fun h16 =>
 LDN n3 x5 h16 fun x17 =>
 kr x17 h16) kp)
 (B151x37 x8 x3 h6 cl x0 x5 kr kp)

theorem eqF151 : F151 = fun fu oR => compF Pr fu oR 151 2 := by kernel_rfl

def F152 (fu : Nat) (oR : Orc) (cl : CL) (args : List AV) (h3 : Heap) (kr : KR) (kp : KP) : Ans := AR3 args fun x0 x1 x2 =>
 BOX 44 x1 h3 fun x4 h5 =>
 BOX 44 x2 h5 fun x6 h7 =>
 NEWC (.n (some (.int .i64 n0)) (.n (some (.int .i64 n0)) .e .e) (.n (some (.str n0 n0)) .e .e)) n3 44 h7 fun x8 h9 =>
 LDN n3 x4 h9 fun x10 =>
 LDN n3 x6 h9 fun x11 =>
 cl n220 [x0, x10, x11] h9 (fun x12 h13 =>
 EX n0 x12 fun x16 =>
 EX n1 x12 fun x17 =>
 NEWC (.n (some (.int .i64 n0)) (.n (some (.int .i64 n0)) .e .e) (.n (some (.str n0 n0)) .e .e)) n3 44 h13 fun x18 h19 =>
 ST n3 x18 x16 h19 fun h20 =>
 JO (fun h21 =>
 LDN n3 x18 h21 fun x22 =>
 ST n3 x8 x22 h21 fun h23 =>
 LDN n3 x8 h23 fun x24 =>
 kr x24 h23) fun j25 =>
 EQL Pr 3 true x17 (.int .i64 n2) fun x26 =>
 IFB x26 (GEN (panA (.iface n85 (.int .i64 n3)) h20) cl (fun x27 h28 =>
 j25  h28) kp)
 (EQL Pr 3 true x17 (.int .i64 n1) fun x31 =>
 IFB x31 (GEN (panA (.iface n85 (.int .i64 n2)) h20) cl (fun x32 h33 =>
 j25  h33) kp)
 (j25  h20))) kp

theorem eqF152 : F152 = fun fu oR => compF Pr fu oR 152 3 := by kernel_rfl

def B153x62 (x31 : AV) (j33 : AV → Heap → Ans) (x29 : AV) (h32 : Heap) (x25 : AV) (cl : CL) (x0 : AV) (x23 : AV) (kp : KP) : Ans := JO (fun h35 =>
 ADD Pr 3 true x31 (.int .i64 n1) fun x36 =>
 j33 x36 h35) fun j37 =>
 SA n1 x29 x31 fun x38 =>
 LD x38 h32 fun x39 =>
 FA n1 x25 fun x40 =>
 LD x40 h32 fun x41 =>
 FA n2 x25 fun x42 =>
 LD x42 h32 fun x43 =>
 SA n1 x43 x31 fun x44 =>
 LD x44 h32 fun x45 =>
 OV (buildA Pr 184 [(n0, x41), (n1, x45)]) fun x46 =>
 cl n222 [x0, x39, x46] h32 (fun x47 h48 =>
 FA n2 x25 fun x51 =>
 LD x51 h48 fun x52 =>
 SA n1 x52 x31 fun x53 =>
 LD x53 h48 fun x54 =>
 OV (lookupA Pr h48 55 x23 x54 false) fun x55 =>
 EQL Pr 230 true x55 (.nilp) fun x56 =>
 IFB x56 (FA n2 x25 fun x57 =>
 LD x57 h48 fun x58 =>
 SA n1 x58 x31 fun x59 =>
 LD x59 h48 fun x60 =>
 OSK (mapUpdateA Pr h48 55 x23 x60 x47) fun h61 =>
 j37  h61)
 (j37  h48)) kp
def B153x120 (x0 : AV) (h97 : Heap) (x25 : AV) (cl : CL) (x5 : AV) (kr : KR) (kp : KP) : Ans := NC x0 fun x98 =>
 FA n9 x98 fun x99 =>
 LDN n3 x99 h97 fun x100 =>
 NEWC (.n (some (.int .i64 n0)) (.n (some (.int .i64 n0)) .e .e) (.n (some (.str n0 n0)) .e .e)) n3 44 h97 fun x101 h102 =>
 ST n3 x101 x100 h102 fun h103 =>
 OV (buildA Pr 44 []) fun x104 =>
 NC x0 fun x105 =>
 FA n9 x105 fun x106 =>
 ST n3 x106 x104 h103 fun h107 =>
 FA n1 x25 fun x108 =>
 LD x108 h107 fun x109 =>
 OV (buildA Pr 184 [(n0, x109)]) fun x110 =>
 FA n0 x101 fun x111 =>
 LD x111 h107 fun x112 =>
 cl n212 [x0, x110, (.int .i64 n2), x112] h107 (fun x113 h114 =>
 LDN n3 x101 h114 fun x117 =>
 ST n3 x5 x117 h114 fun h118 =>
 LDN n3 x5 h118 fun x119 =>
 kr x119 h118) kp
def B153x127 (x0 : AV) (h32 : Heap) (x23 : AV) (cl : CL) (x25 : AV) (x5 : AV) (kr : KR) (kp : KP) : Ans := NC x0 fun x63 =>
 FA n4 x63 fun x64 =>
 LD x64 h32 fun x65 =>
 BSL n55 n1 [(.nilmap)] n1 [(n0, x23)] h32 fun x66 h67 =>
 GEN (builtinF .append Pr [57, 57] [x65, x66] h67) cl (fun x68 h69 =>
 NC x0 fun x72 =>
 FA n4 x72 fun x73 =>
 ST n1 x73 x68 h69 fun h74 =>
 OV (buildA Pr 44 []) fun x75 =>
 NC x0 fun x76 =>
 FA n9 x76 fun x77 =>
 ST n3 x77 x75 h74 fun h78 =>
 FA n4 x25 fun x79 =>
 LD x79 h78 fun x80 =>
 cl n92 [x0, x80] h78 (fun x81 h82 =>
 NC x0 fun x85 =>
 FA n4 x85 fun x86 =>
 LD x86 h82 fun x87 =>
 NC x0 fun x88 =>
 FA n4 x88 fun x89 =>
 LD x89 h82 fun x90 =>
 LENS x90 fun x91 =>
 SUB Pr 3 true x91 (.int .i64 n1) fun x92 =>
 OV (sliceA Pr 57 x87 none (some x92) none) fun x93 =>
 NC x0 fun x94 =>
 FA n4 x94 fun x95 =>
 ST n1 x95 x93 h82 fun h96 =>
 JO (fun h97 =>
 B153x120 x0 h97 x25 cl x5 kr kp) fun j121 =>
 GEQ Pr 3 true x81 (.int .i64 n4) fun x122 =>
 IFB x122 (GEN (panA (.iface n3 x81) h96) cl (fun x123 h124 =>
 j121  h124) kp)
 (j121  h96)) kp) kp
def B153x128 (x0 : AV) (h16 : Heap) (x11 : AV) (x3 : AV) (fu : Nat) (cl : CL) (kp : KP) (x5 : AV) (kr : KR) : Ans := NC x0 fun x17 =>
 FA n0 x17 fun x18 =>
 FA n1 x18 fun x19 =>
 LD x19 h16 fun x20 =>
 SA n5 x20 x11 fun x21 =>
 LDN n5 x21 h16 fun x22 =>
 OPVH (newMap Pr 55 h16) fun x23 h24 =>
 NEWC (.n (some (.int .i64 n0)) (.n (some (.str n0 n0)) (.n (some (.int .i64 n0)) .e .e) .e) (.n (some (.nilslice)) (.n (some (.int .i64 n0)) .e .e) .e)) n5 61 h24 fun x25 h26 =>
 ST n5 x25 x22 h26 fun h27 =>
 FA n4 x3 fun x28 =>
 LD x28 h27 fun x29 =>
 LENS x29 fun x30 =>
 LP fu (fun _ _ => Ans.no) (fun j33 x31 h32 =>
 LSS Pr 3 false x31 x30 fun x34 =>
 IFB x34 (B153x62 x31 j33 x29 h32 x25 cl x0 x23 kp)
 (B153x127 x0 h32 x23 cl x25 x5 kr kp)) (.int .i64 n0) h27
def B153x139 (x0 : AV) (x11 : AV) (x3 : AV) (fu : Nat) (cl : CL) (kp : KP) (x5 : AV) (kr : KR) (h15 : Heap) : Ans := JO (fun h16 =>
 B153x128 x0 h16 x11 x3 fu cl kp x5 kr) fun j129 =>
 NC x0 fun x130 =>
 FA n4 x130 fun x131 =>
 LD x131 h15 fun x132 =>
 LENS x132 fun x133 =>
 EQL Pr 3 true x133 (.int .i64 n20) fun x134 =>
 IFB x134 (GEN (panA (.iface n85 (.int .i64 n6)) h15) cl (fun x135 h136 =>
 j129  h136) kp)
 (j129  h15)
def B153x184 (x148 : AV) (j147 : AV → Heap → Ans) (x167 : AV) (x169 : AV) (h170 : Heap) : Ans := JO (fun x171 h172 =>
 JO (fun x173 h174 =>
 JO (fun x175 h176 =>
 SEL x148 (.bool true) x175 fun x177 =>
 j147 x177 h176) fun j178 =>
 GW false x148 (LSS Pr 3 false x167 x173 fun x179 =>
 j178 x179 h174)
 (j178 undefA h174)) fun j180 =>
 GW false x148 (LENS x171 fun x181 =>
 j180 x181 h172)
 (j180 undefA h172)) fun j182 =>
 GW false x148 (LD x169 h170 fun x183 =>
 j182 x183 h170)
 (j182 undefA h170)
def B153x191 (x148 : AV) (j147 : AV → Heap → Ans) (x3 : AV) (x163 : AV) (h164 : Heap) : Ans := JO (fun x165 h166 =>
 JO (fun x167 h168 =>
 JO (fun x169 h170 =>
 B153x184 x148 j147 x167 x169 h170) fun j185 =>
 GW false x148 (FA n4 x3 fun x186 =>
 j185 x186 h168)
 (j185 undefA h168)) fun j187 =>
 GW false x148 (LENS x165 fun x188 =>
 j187 x188 h166)
 (j187 undefA h166)) fun j189 =>
 GW false x148 (LD x163 h164 fun x190 =>
 j189 x190 h164)
 (j189 undefA h164)
def B153x197 (x148 : AV) (j147 : AV → Heap → Ans) (x3 : AV) (x157 : AV) (x11 : AV) (h158 : Heap) : Ans := JO (fun x159 h160 =>
 JO (fun x161 h162 =>
 JO (fun x163 h164 =>
 B153x191 x148 j147 x3 x163 h164) fun j192 =>
 GW false x148 (FA n2 x161 fun x193 =>
 j192 x193 h162)
 (j192 undefA h162)) fun j194 =>
 GW false x148 (SA n5 x157 x159 fun x195 =>
 j194 x195 h160)
 (j194 undefA h160)) fun j196 =>
 GW false x148 (j196 x11 h158)
 (j196 undefA h158)
def B153x204 (x148 : AV) (j147 : AV → Heap → Ans) (x3 : AV) (x11 : AV) (x151 : AV) (h152 : Heap) : Ans := JO (fun x153 h154 =>
 JO (fun x155 h156 =>
 JO (fun x157 h158 =>
 B153x197 x148 j147 x3 x157 x11 h158) fun j198 =>
 GW false x148 (LD x155 h156 fun x199 =>
 j198 x199 h156)
 (j198 undefA h156)) fun j200 =>
 GW false x148 (FA n1 x153 fun x201 =>
 j200 x201 h154)
 (j200 undefA h154)) fun j202 =>
 GW false x148 (FA n0 x151 fun x203 =>
 j202 x203 h152)
 (j202 undefA h152)
def F153 (fu : Nat) (oR : Orc) (cl : CL) (args : List AV) (h2 : Heap) (kr : KR) (kp : KP) : Ans := AR2 args fun x0 x1 =>
 BOX 108 x1 h2 fun x3 h4 =>
 NEWC (.n (some (.int .i64 n0)) (.n (some (.int .i64 n0)) .e .e) (.n (some (.str n0 n0)) .e .e)) n3 44 h4 fun x5 h6 =>
 NC x0 fun x7 =>
 FA n0 x7 fun x8 =>
 FA n1 x3 fun x9 =>
 LD x9 h6 fun x10 =>
 cl n221 [x8, x10] h6 (fun x11 h12 =>
 JO (fun h15 =>
 B153x139 x0 x11 x3 fu cl kp x5 kr h15) fun j140 =>
 JO (fun x141 h142 =>
 IFB x141 (GEN (panA (.iface n85 (.int .i64 n9)) h142) cl (fun x143 h144 =>
 j140  h144) kp)
 (j140  h142)) fun j147 =>
 LSS Pr 3 true x11 (.int .i64 n0) fun x148 =>
 JO (fun x149 h150 =>
 JO (fun x151 h152 =>
 B153x204 x148 j147 x3 x11 x151 h152) fun j205 =>
 GW false x148 (NC x149 fun x206 =>
 j205 x206 h150)
 (j205 undefA h150)) fun j207 =>
 GW false x148 (j207 x0 h12)
 (j207 undefA h12)) kp

theorem eqF153 : F153 = fun fu oR => compF Pr fu oR 153 2 := by kernel_rfl

def B154x31 (x11 : AV) (x13 : AV) (h15 : Heap) (cl : CL) (x0 : AV) (x14 : AV) (j16 : AV → AV → Heap → Ans) (kp : KP) : Ans := SA n1 x11 x13 fun x18 =>
 LD x18 h15 fun x19 =>
 cl n89 [x0, x19] h15 (fun x20 h21 =>
 BSL n44 n3 [(.int .i64 n0), (.int .i64 n0), (.str n0 n0)] n1 [(n0, x20)] h21 fun x24 h25 =>
 GEN (builtinF .append Pr [45, 45] [x14, x24] h25) cl (fun x26 h27 =>
 ADD Pr 3 true x13 (.int .i64 n1) fun x30 =>
 j16 x30 x26 h27) kp) kp
def B154x52 (x4 : AV) (h35 : Heap) (x14 : AV) (cl : CL) (x6 : AV) (kr : KR) (kp : KP) : Ans := FA n0 x4 fun x36 =>
 LD x36 h35 fun x37 =>
 SA n3 x14 (.int .i64 n0) fun x38 =>
 LDN n3 x38 h35 fun x39 =>
 SA n3 x14 (.int .i64 n1) fun x40 =>
 LDN n3 x40 h35 fun x41 =>
 cl n223 [x37, x39, x41] h35 (fun x42 h43 =>
 cl n140 [x42] h43 (fun x46 h47 =>
 ST n3 x6 x46 h47 fun h50 =>
 LDN n3 x6 h50 fun x51 =>
 kr x51 h50) kp) kp
def B154x74 (x14 : AV) (h35 : Heap) (cl : CL) (x6 : AV) (kr : KR) (kp : KP) : Ans := SA n3 x14 (.int .i64 n0) fun x54 =>
 LDN n3 x54 h35 fun x55 =>
 SA n3 x14 (.int .i64 n1) fun x56 =>
 LDN n3 x56 h35 fun x57 =>
 cl n146 [x55] h35 (fun x58 h59 =>
 LDN n3 x56 h59 fun x62 =>
 EQV x57 x62 <|
 cl n146 [x57] h59 (fun x63 h64 =>
 ADD Pr 9 false x58 x63 fun x67 =>
 cl n139 [x67] h64 (fun x68 h69 =>
 ST n3 x6 x68 h69 fun h72 =>
 LDN n3 x6 h72 fun x73 =>
 kr x73 h72) kp) kp) kp
def B154x115 (x14 : AV) (h35 : Heap) (cl : CL) (x6 : AV) (kr : KR) (kp : KP) : Ans := SA n3 x14 (.int .i64 n0) fun x102 =>
 LDN n3 x102 h35 fun x103 =>
 cl n146 [x103] h35 (fun x104 h105 =>
 LENT x104 fun x108 =>
 cl n206 [x108] h105 (fun x109 h110 =>
 ST n3 x6 x109 h110 fun h113 =>
 LDN n3 x6 h113 fun x114 =>
 kr x114 h113) kp) kp
def B154x116 (x14 : AV) (x0 : AV) (h35 : Heap) (cl : CL) (x6 : AV) (kr : KR) (kp : KP) : Ans := LENS x14 fun x90 =>
 EQL Pr 3 true x90 (.int .i64 n0) fun x91 =>
 IFB x91 (NC x0 fun x92 =>
 FA n6 x92 fun x93 =>
 LD x93 h35 fun x94 =>
 LENT x94 fun x95 =>
 cl n206 [x95] h35 (fun x96 h97 =>
 ST n3 x6 x96 h97 fun h100 =>
 LDN n3 x6 h100 fun x101 =>
 kr x101 h100) kp)
 (B154x115 x14 h35 cl x6 kr kp)
def B154x143 (x14 : AV) (h119 : Heap) (cl : CL) (x118 : AV) (x6 : AV) (kr : KR) (kp : KP) : Ans := SA n3 x14 (.int .i64 n0) fun x120 =>
 LDN n3 x120 h119 fun x121 =>
 SA n3 x14 (.int .i64 n1) fun x122 =>
 LDN n3 x122 h119 fun x123 =>
 cl n146 [x121] h119 (fun x124 h125 =>
 LDN n3 x122 h125 fun x128 =>
 EQV x123 x128 <|
 cl n145 [x123] h125 (fun x129 h130 =>
 cl n224 [x124, x129, x118] h130 (fun x133 h134 =>
 cl n139 [x133] h134 (fun x137 h138 =>
 ST n3 x6 x137 h138 fun h141 =>
 LDN n3 x6 h141 fun x142 =>
 kr x142 h141) kp) kp) kp) kp
def B154x153 (x14 : AV) (cl : CL) (x6 : AV) (kr : KR) (kp : KP) (h35 : Heap) : Ans := JO (fun x118 h119 =>
 B154x143 x14 h119 cl x118 x6 kr kp) fun j144 =>
 LENS x14 fun x145 =>
 EQL Pr 3 true x145 (.int .i64 n3) fun x146 =>
 IFB x146 (SA n3 x14 (.int .i64 n2) fun x147 =>
 LDN n3 x147 h35 fun x148 =>
 cl n145 [x148] h35 (fun x149 h150 =>
 j144 x149 h150) kp)
 (j144 (.int .i64 (nat_lit 9000000000000)) h35)
def B154x178 (x14 : AV) (h35 : Heap) (cl : CL) (x6 : AV) (kr : KR) (kp : KP) : Ans := SA n3 x14 (.int .i64 n0) fun x155 =>
 LDN n3 x155 h35 fun x156 =>
 SA n3 x14 (.int .i64 n1) fun x157 =>
 LDN n3 x157 h35 fun x158 =>
 cl n146 [x156] h35 (fun x159 h160 =>
 LDN n3 x157 h160 fun x163 =>
 EQV x158 x163 <|
 cl n146 [x158] h160 (fun x164 h165 =>
 cl n225 [x159, x164] h165 (fun x168 h169 =>
 cl n206 [x168] h169 (fun x172 h173 =>
 ST n3 x6 x172 h173 fun h176 =>
 LDN n3 x6 h176 fun x177 =>
 kr x177 h176) kp) kp) kp) kp
def B154x196 (x14 : AV) (h35 : Heap) (cl : CL) (x6 : AV) (kr : KR) (kp : KP) : Ans := SA n3 x14 (.int .i64 n0) fun x180 =>
 LDN n3 x180 h35 fun x181 =>
 cl n146 [x181] h35 (fun x182 h183 =>
 cl n226 [x182] h183 (fun x186 h187 =>
 cl n139 [x186] h187 (fun x190 h191 =>
 ST n3 x6 x190 h191 fun h194 =>
 LDN n3 x6 h194 fun x195 =>
 kr x195 h194) kp) kp) kp
def B154x214 (x14 : AV) (h35 : Heap) (cl : CL) (x6 : AV) (kr : KR) (kp : KP) : Ans := SA n3 x14 (.int .i64 n0) fun x198 =>
 LDN n3 x198 h35 fun x199 =>
 cl n216 [x199] h35 (fun x200 h201 =>
 cl n215 [x200] h201 (fun x204 h205 =>
 cl n138 [x204] h205 (fun x208 h209 =>
 ST n3 x6 x208 h209 fun h212 =>
 LDN n3 x6 h212 fun x213 =>
 kr x213 h212) kp) kp) kp
def B154x241 (x4 : AV) (h217 : Heap) (x14 : AV) (cl : CL) (x0 : AV) (x1 : AV) (x216 : AV) (x6 : AV) (kr : KR) (kp : KP) : Ans := FA n2 x4 fun x218 =>
 LD x218 h217 fun x219 =>
 SA n3 x14 (.int .i64 n0) fun x220 =>
 LDN n3 x220 h217 fun x221 =>
 cl n143 [x0, x1, x219] h217 (fun x222 h223 =>
 LDN n3 x220 h223 fun x226 =>
 EQV x221 x226 <|
 cl n146 [x221] h223 (fun x227 h228 =>
 cl n228 [x227, x216] h228 (fun x231 h232 =>
 cl n227 [x0, x222, x231] h232 (fun x235 h236 =>
 ST n3 x6 x235 h236 fun h239 =>
 LDN n3 x6 h239 fun x240 =>
 kr x240 h239) kp) kp) kp) kp
def B154x251 (x4 : AV) (x14 : AV) (cl : CL) (x0 : AV) (x1 : AV) (x6 : AV) (kr : KR) (kp : KP) (h35 : Heap) : Ans := JO (fun x216 h217 =>
 B154x241 x4 h217 x14 cl x0 x1 x216 x6 kr kp) fun j242 =>
 LENS x14 fun x243 =>
 EQL Pr 3 true x243 (.int .i64 n2) fun x244 =>
 IFB x244 (SA n3 x14 (.int .i64 n1) fun x245 =>
 LDN n3 x245 h35 fun x246 =>
 cl n146 [x246] h35 (fun x247 h248 =>
 j242 x247 h248) kp)
 (j242 (.str n1 n32) h35)
def B154x264 (x4 : AV) (h35 : Heap) (x14 : AV) (cl : CL) (x6 : AV) (kr : KR) (kp : KP) : Ans := FA n0 x4 fun x252 =>
 LD x252 h35 fun x253 =>
 SA n3 x14 (.int .i64 n0) fun x254 =>
 LDN n3 x254 h35 fun x255 =>
 SA n3 x14 (.int .i64 n1) fun x256 =>
 LDN n3 x256 h35 fun x257 =>
 cl n152 [x253, x255, x257] h35 (fun x258 h259 =>
 ST n3 x6 x258 h259 fun h262 =>
 LDN n3 x6 h262 fun x263 =>
 kr x263 h262) kp
def B154x265 (x33 : AV) (x14 : AV) (h35 : Heap) (cl : CL) (x6 : AV) (kr : KR) (kp : KP) (x4 : AV) (x0 : AV) (x1 : AV) : Ans := EQL Pr 3 true x33 (.int .i64 n31) fun x179 =>
 IFB x179 (B154x196 x14 h35 cl x6 kr kp)
 (EQL Pr 3 true x33 (.int .i64 n32) fun x197 =>
 IFB x197 (B154x214 x14 h35 cl x6 kr kp)
 (EQL Pr 3 true x33 (.int .i64 n30) fun x215 =>
 IFB x215 (B154x251 x4 x14 cl x0 x1 x6 kr kp h35)
 (B154x264 x4 h35 x14 cl x6 kr kp)))
def B154x266 (x33 : AV) (x14 : AV) (x0 : AV) (h35 : Heap) (cl : CL) (x6 : AV) (kr : KR) (kp : KP) (x4 : AV) (x1 : AV) : Ans := EQL Pr 3 true x33 (.int .i64 n27) fun x89 =>
 IFB x89 (B154x116 x14 x0 h35 cl x6 kr kp)
 (EQL Pr 3 true x33 (.int .i64 n28) fun x117 =>
 IFB x117 (B154x153 x14 cl x6 kr kp h35)
 (EQL Pr 3 true x33 (.int .i64 n29) fun x154 =>
 IFB x154 (B154x178 x14 h35 cl x6 kr kp)
 (B154x265 x33 x14 h35 cl x6 kr kp x4 x0 x1)))
def B154x267 (x33 : AV) (x14 : AV) (h35 : Heap) (cl : CL) (x6 : AV) (kr : KR) (kp : KP) (x0 : AV) (x4 : AV) (x1 : AV) : Ans := EQL Pr 3 true x33 (.int .i64 n25) fun x75 =>
 IFB x75 (SA n3 x14 (.int .i64 n0) fun x76 =>
 LDN n3 x76 h35 fun x77 =>
 cl n216 [x77] h35 (fun x78 h79 =>
 OV (unOpA .neg x78) fun x82 =>
 cl n138 [x82] h79 (fun x83 h84 =>
 ST n3 x6 x83 h84 fun h87 =>
 LDN n3 x6 h87 fun x88 =>
 kr x88 h87) kp) kp)
 (B154x266 x33 x14 x0 h35 cl x6 kr kp x4 x1)
def B154x273 (x4 : AV) (h15 : Heap) (x14 : AV) (cl : CL) (x6 : AV) (kr : KR) (kp : KP) (x0 : AV) (x1 : AV) : Ans := FA n0 x4 fun x32 =>
 LD x32 h15 fun x33 =>
 JO (fun x34 h35 =>
 IFB x34 (B154x52 x4 h35 x14 cl x6 kr kp)
 (EQL Pr 3 true x33 (.int .i64 n19) fun x53 =>
 IFB x53 (B154x74 x14 h35 cl x6 kr kp)
 (B154x267 x33 x14 h35 cl x6 kr kp x0 x4 x1))) fun j268 =>
 EQL Pr 3 true x33 (.int .i64 n15) fun x269 =>
 IFB x269 (j268 x269 h15)
 (EQL Pr 3 true x33 (.int .i64 n16) fun x270 =>
 IFB x270 (j268 x270 h15)
 (EQL Pr 3 true x33 (.int .i64 n17) fun x271 =>
 IFB x271 (j268 x271 h15)
 (EQL Pr 3 true x33 (.int .i64 n18) fun x272 =>
 j268 x272 h15)))
def F154 (fu : Nat) (oR : Orc) (cl : CL) (args : List AV) (h3 : Heap) (kr : KR) (kp : KP) : Ans := AR3 args fun x0 x1 x2 =>
 BOX 108 x2 h3 fun x4 h5 =>
 NEWC (.n (some (.int .i64 n0)) (.n (some (.int .i64 n0)) .e .e) (.n (some (.str n0 n0)) .e .e)) n3 44 h5 fun x6 h7 =>
 BSL n44 n3 [] n0 [] h7 fun x8 h9 =>
 FA n4 x4 fun x10 =>
 LD x10 h9 fun x11 =>
 LENS x11 fun x12 =>
 LP fu (fun _ _ _ => Ans.no) (fun j16 x13 x14 h15 =>
 LSS Pr 3 false x13 x12 fun x17 =>
 IFB x17 (B154x31 x11 x13 h15 cl x0 x14 j16 kp)
 (B154x273 x4 h15 x14 cl x6 kr kp x0 x1)) (.int .i64 n0) x8 h9

theorem eqF154 : F154 = fun fu oR => compF Pr fu oR 154 3 := by kernel_rfl

def B157x27 (x4 : AV) (h8 : Heap) (x6 : AV) (cl : CL) (x0 : AV) (kr : KR) (kp : KP) : Ans := LDN n3 x4 h8 fun x9 =>
 LDN n3 x6 h8 fun x10 =>
 cl n210 [x0, x9] h8 (fun x11 h12 =>
 LDN n3 x6 h12 fun x15 =>
 EQV x10 x15 <|
 cl n230 [x11, x10] h12 (fun x16 h17 =>
 LDN n3 x4 h17 fun x20 =>
 FA n0 x6 fun x21 =>
 LD x21 h17 fun x22 =>
 cl n212 [x0, x20, (.int .i64 n0), x22] h17 (fun x23 h24 =>
 kr (.tuple []) h24) kp) kp) kp
def F157 (fu : Nat) (oR : Orc) (cl : CL) (args : List AV) (h3 : Heap) (kr : KR) (kp : KP) : Ans := AR3 args fun x0 x1 x2 =>
 BOX 184 x1 h3 fun x4 h5 =>
 BOX 44 x2 h5 fun x6 h7 =>
 JO (fun h8 =>
 B157x27 x4 h8 x6 cl x0 kr kp) fun j28 =>
 LDN n3 x4 h7 fun x29 =>
 cl n209 [x29] h7 (fun x30 h31 =>
 IFB x30 (GEN (panA (.iface n85 (.int .i64 n12)) h31) cl (fun x34 h35 =>
 j28  h35) kp)
 (j28  h31)) kp

theorem eqF157 : F157 = fun fu oR => compF Pr fu oR 157 3 := by kernel_rfl

def F158 (fu : Nat) (oR : Orc) (cl : CL) (args : List AV) (h2 : Heap) (kr : KR) (kp : KP) : Ans := AR2 args fun x0 x1 =>
 JO (fun h3 =>
 NC x0 fun x4 =>
 FA n12 x4 fun x5 =>
 FA n2 x5 fun x6 =>
 LD x6 h3 fun x7 =>
 ADD Pr 9 false x7 x1 fun x8 =>
 NC x0 fun x9 =>
 FA n12 x9 fun x10 =>
 FA n2 x10 fun x11 =>
 ST n1 x11 x8 h3 fun h12 =>
 kr (.tuple []) h12) fun j13 =>
 NC x0 fun x14 =>
 FA n12 x14 fun x15 =>
 FA n2 x15 fun x16 =>
 LD x16 h2 fun x17 =>
 LENT x17 fun x18 =>
 LENT x1 fun x19 =>
 ADD Pr 3 false x18 x19 fun x20 =>
 GTR Pr 3 true x20 (.int .i64 n4000) fun x21 =>
 IFB x21 (GEN (panA (.iface n85 (.int .i64 n5)) h2) cl (fun x22 h23 =>
 j13  h23) kp)
 (j13  h2)

theorem eqF158 : F158 = fun fu oR => compF Pr fu oR 158 2 := by kernel_rfl

def F165 (fu : Nat) (oR : Orc) (cl : CL) (args : List AV) (h1 : Heap) (kr : KR) (kp : KP) : Ans := AR1 args fun x0 =>
 cl n106 [x0] h1 (fun x2 h3 =>
 JO (fun x6 h7 =>
 JO (fun x8 h9 =>
 SEL x2 (.bool true) x8 fun x10 =>
 kr x10 h9) fun j11 =>
 GW false x2 (cl n55 [x6] h7 (fun x12 h13 =>
 j11 x12 h13) kp)
 (j11 undefA h7)) fun j16 =>
 GW false x2 (j16 x0 h3)
 (j16 undefA h3)) kp

theorem eqF165 : F165 = fun fu oR => compF Pr fu oR 165 1 := by kernel_rfl

def F166 (fu : Nat) (oR : Orc) (cl : CL) (args : List AV) (h1 : Heap) (kr : KR) (kp : KP) : Ans := AR1 args fun x0 =>
 cl n235 [] h1 (fun x2 h3 =>
 LP fu (fun _ _ => Ans.no) (fun j8 x6 h7 =>
 LENS x2 fun x9 =>
 LSS Pr 3 false x6 x9 fun x10 =>
 IFB x10 (SA n1 x2 x6 fun x11 =>
 LD x11 h7 fun x12 =>
 EQL Pr 9 false x12 x0 fun x13 =>
 IFB x13 (kr (.bool true) h7)
 (ADD Pr 3 true x6 (.int .i64 n1) fun x14 =>
 j8 x14 h7))
 (kr (.bool false) h7)) (.int .i64 n0) h3) kp

theorem eqF166 : F166 = fun fu oR => compF Pr fu oR 166 1 := by kernel_rfl

def F167 (fu : Nat) (oR : Orc) (cl : CL) (args : List AV) (h0 : Heap) (kr : KR) (kp : KP) : Ans := AR0 args <|
 BSL n9 n1 [(.str n0 n0), (.str n0 n0), (.str n0 n0), (.str n0 n0), (.str n0 n0), (.str n0 n0), (.str n0 n0), (.str n0 n0), (.str n0 n0), (.str n0 n0), (.str n0 n0), (.str n0 n0), (.str n0 n0), (.str n0 n0), (.str n0 n0), (.str n0 n0), (.str n0 n0), (.str n0 n0), (.str n0 n0), (.str n0 n0), (.str n0 n0), (.str n0 n0), (.str n0 n0), (.str n0 n0), (.str n0 n0), (.str n0 n0), (.str n0 n0)] n27 [(n0, (.str n2 n9766)), (n1, (.str n2 (nat_lit 31868))), (n2, (.str n2 (nat_lit 15677))), (n3, (.str n2 (nat_lit 15649))), (n4, (.str n2 (nat_lit 32289))), (n5, (.str n2 (nat_lit 15676))), (n6, (.str n2 (nat_lit 15659))), (n7, (.str n1 n123)), (n8, (.str n1 n125)), (n9, (.str n1 n40)), (n10, (.str n1 n41)), (n11, (.str n1 n91)), (n12, (.str n1 n93)), (n13, (.str n1 n59)), (n14, (.str n1 n44)), (n15, (.str n1 n61)), (n16, (.str n1 n33)), (n17, (.str n1 n60)), (n18, (.str n1 n43)), (n19, (.str n1 n45)), (n20, (.str n1 n42)), (n21, (.str n1 n47)), (n22, (.str n1 n37)), (n23, (.str n1 n126)), (n24, (.str n1 n63)), (n25, (.str n1 n58)), (n26, (.str n1 n36))] h0 fun x1 h2 =>
 kr x1 h2

theorem eqF167 : F167 = fun fu oR => compF Pr fu oR 167 0 := by kernel_rfl

def F168 (fu : Nat) (oR : Orc) (cl : CL) (args : List AV) (h1 : Heap) (kr : KR) (kp : KP) : Ans := AR1 args fun x0 =>
 NEWC (.n (some (.int .i64 n0)) (.n (some (.str n0 n0)) (.n (some (.int .i64 n0)) .e .e) .e) (.n (some (.int .i64 n0)) .e .e)) n4 130 h1 fun x2 h3 =>
 NC x0 fun x4 =>
 FA n1 x4 fun x5 =>
 LD x5 h3 fun x6 =>
 NC x0 fun x7 =>
 FA n0 x7 fun x8 =>
 LD x8 h3 fun x9 =>
 LENS x9 fun x10 =>
 LSS Pr 3 false x6 x10 fun x11 =>
 IFB x11 (NC x0 fun x12 =>
 FA n0 x12 fun x13 =>
 LD x13 h3 fun x14 =>
 NC x0 fun x15 =>
 FA n1 x15 fun x16 =>
 LD x16 h3 fun x17 =>
 SA n4 x14 x17 fun x18 =>
 LDN n4 x18 h3 fun x19 =>
 ST n4 x2 x19 h3 fun h20 =>
 LDN n4 x2 h20 fun x21 =>
 kr x21 h20)
 (OV (buildA Pr 130 []) fun x22 =>
 ST n4 x2 x22 h3 fun h23 =>
 LDN n4 x2 h23 fun x24 =>
 kr x24 h23)

theorem eqF168 : F168 = fun fu oR => compF Pr fu oR 168 1 := by kernel_rfl

def B169x26 (x6 : AV) (x0 : AV) (kr : KR) (cl : CL) (x7 : AV) (x9 : AV) (h10 : Heap) (kp : KP) : Ans := JO (fun x11 h12 =>
 JO (fun x13 h14 =>
 SEL x6 x13 (.bool false) fun x15 =>
 IFB x15 (NC x0 fun x16 =>
 FA n5 x16 fun x17 =>
 ST n1 x17 (.bool true) h14 fun h18 =>
 kr (.tuple []) h18)
 (kr (.tuple []) h14)) fun j19 =>
 GW true x6 (OV (unOpA .not x11) fun x20 =>
 j19 x20 h12)
 (j19 undefA h12)) fun j21 =>
 GW true x6 (cl n111 [x7, x9] h10 (fun x22 h23 =>
 j21 x22 h23) kp)
 (j21 undefA h10)
def F169 (fu : Nat) (oR : Orc) (cl : CL) (args : List AV) (h2 : Heap) (kr : KR) (kp : KP) : Ans := AR2 args fun x0 x1 =>
 NC x0 fun x3 =>
 FA n5 x3 fun x4 =>
 LD x4 h2 fun x5 =>
 OV (unOpA .not x5) fun x6 =>
 JO (fun x7 h8 =>
 JO (fun x9 h10 =>
 B169x26 x6 x0 kr cl x7 x9 h10 kp) fun j27 =>
 GW true x6 (j27 x1 h8)
 (j27 undefA h8)) fun j28 =>
 GW true x6 (j28 x0 h2)
 (j28 undefA h2)

theorem eqF169 : F169 = fun fu oR => compF Pr fu oR 169 2 := by kernel_rfl

def B170x31 (x11 : AV) (x16 : AV) (x0 : AV) (h17 : Heap) (kr : KR) (x6 : AV) : Ans := SEL x11 (.bool true) x16 fun x18 =>
 IFB x18 (NC x0 fun x19 =>
 FA n5 x19 fun x20 =>
 ST n1 x20 (.bool true) h17 fun h21 =>
 kr (.str n0 n0) h21)
 (NC x0 fun x22 =>
 FA n1 x22 fun x23 =>
 LD x23 h17 fun x24 =>
 ADD Pr 3 true x24 (.int .i64 n1) fun x25 =>
 NC x0 fun x26 =>
 FA n1 x26 fun x27 =>
 ST n1 x27 x25 h17 fun h28 =>
 FA n1 x6 fun x29 =>
 LD x29 h28 fun x30 =>
 kr x30 h28)
def F170 (fu : Nat) (oR : Orc) (cl : CL) (args : List AV) (h1 : Heap) (kr : KR) (kp : KP) : Ans := AR1 args fun x0 =>
 cl n168 [x0] h1 (fun x2 h3 =>
 NEWC (.n (some (.int .i64 n0)) (.n (some (.str n0 n0)) (.n (some (.int .i64 n0)) .e .e) .e) (.n (some (.int .i64 n0)) .e .e)) n4 130 h3 fun x6 h7 =>
 ST n4 x6 x2 h7 fun h8 =>
 NC x0 fun x9 =>
 FA n5 x9 fun x10 =>
 LD x10 h8 fun x11 =>
 JO (fun x12 h13 =>
 JO (fun x14 h15 =>
 JO (fun x16 h17 =>
 B170x31 x11 x16 x0 h17 kr x6) fun j32 =>
 GW false x11 (NEQ Pr 3 true x14 (.int .i64 n4) fun x33 =>
 j32 x33 h15)
 (j32 undefA h15)) fun j34 =>
 GW false x11 (LD x12 h13 fun x35 =>
 j34 x35 h13)
 (j34 undefA h13)) fun j36 =>
 GW false x11 (FA n0 x6 fun x37 =>
 j36 x37 h8)
 (j36 undefA h8)) kp

theorem eqF170 : F170 = fun fu oR => compF Pr fu oR 170 1 := by kernel_rfl

def B171x26 (x4 : AV) (x13 : AV) (x0 : AV) (h14 : Heap) (kr : KR) : Ans := SEL x4 (.bool true) x13 fun x15 =>
 IFB x15 (NC x0 fun x16 =>
 FA n5 x16 fun x17 =>
 ST n1 x17 (.bool true) h14 fun h18 =>
 kr (.bool false) h18)
 (NC x0 fun x19 =>
 FA n2 x19 fun x20 =>
 LD x20 h14 fun x21 =>
 ADD Pr 3 true x21 (.int .i64 n1) fun x22 =>
 NC x0 fun x23 =>
 FA n2 x23 fun x24 =>
 ST n1 x24 x22 h14 fun h25 =>
 kr (.bool true) h25)
def B171x33 (x4 : AV) (x0 : AV) (kr : KR) (x7 : AV) (h8 : Heap) : Ans := JO (fun x9 h10 =>
 JO (fun x11 h12 =>
 JO (fun x13 h14 =>
 B171x26 x4 x13 x0 h14 kr) fun j27 =>
 GW false x4 (EQL Pr 3 true x11 (.int .i64 n40) fun x28 =>
 j27 x28 h12)
 (j27 undefA h12)) fun j29 =>
 GW false x4 (LD x9 h10 fun x30 =>
 j29 x30 h10)
 (j29 undefA h10)) fun j31 =>
 GW false x4 (FA n2 x7 fun x32 =>
 j31 x32 h8)
 (j31 undefA h8)
def F171 (fu : Nat) (oR : Orc) (cl : CL) (args : List AV) (h1 : Heap) (kr : KR) (kp : KP) : Ans := AR1 args fun x0 =>
 NC x0 fun x2 =>
 FA n5 x2 fun x3 =>
 LD x3 h1 fun x4 =>
 JO (fun x5 h6 =>
 JO (fun x7 h8 =>
 B171x33 x4 x0 kr x7 h8) fun j34 =>
 GW false x4 (NC x5 fun x35 =>
 j34 x35 h6)
 (j34 undefA h6)) fun j36 =>
 GW false x4 (j36 x0 h1)
 (j36 undefA h1)

theorem eqF171 : F171 = fun fu oR => compF Pr fu oR 171 1 := by kernel_rfl

def B172x30 (cl : CL) (x0 : AV) (h7 : Heap) (x2 : AV) (kr : KR) (kp : KP) : Ans := cl n114 [x0] h7 (fun x11 h12 =>
 cl n169 [x0, (.str n1 n58)] h12 (fun x15 h16 =>
 cl n114 [x0] h16 (fun x19 h20 =>
 BSL n3 n1 [(.int .i64 n0), (.int .i64 n0), (.int .i64 n0)] n3 [(n0, x2), (n1, x11), (n2, x19)] h20 fun x23 h24 =>
 OV (buildA Pr 108 [(n0, (.int .i64 n9)), (n4, x23)]) fun x25 =>
 cl n173 [x0, x25] h24 (fun x26 h27 =>
 kr x26 h27) kp) kp) kp) kp
def F172 (fu : Nat) (oR : Orc) (cl : CL) (args : List AV) (h1 : Heap) (kr : KR) (kp : KP) : Ans := AR1 args fun x0 =>
 cl n236 [x0] h1 (fun x2 h3 =>
 cl n111 [x0, (.str n1 n63)] h3 (fun x6 h7 =>
 OV (unOpA .not x6) fun x10 =>
 IFB x10 (kr x2 h7)
 (B172x30 cl x0 h7 x2 kr kp)) kp) kp

theorem eqF172 : F172 = fun fu oR => compF Pr fu oR 172 1 := by kernel_rfl

def B173x30 (x0 : AV) (h4 : Heap) (x3 : AV) (cl : CL) (kr : KR) (kp : KP) : Ans := NC x0 fun x8 =>
 FA n3 x8 fun x9 =>
 FA n0 x9 fun x10 =>
 LD x10 h4 fun x11 =>
 LDN n5 x3 h4 fun x12 =>
 BSL n108 n5 [(.int .i64 n0), (.str n0 n0), (.str n0 n0), (.int .i64 n0), (.nilslice)] n1 [(n0, x12)] h4 fun x13 h14 =>
 LD x10 h14 fun x15 =>
 EQV x11 x15 <|
 GEN (builtinF .append Pr [30, 30] [x11, x13] h14) cl (fun x16 h17 =>
 NC x0 fun x20 =>
 FA n3 x20 fun x21 =>
 FA n0 x21 fun x22 =>
 ST n1 x22 x16 h17 fun h23 =>
 NC x0 fun x24 =>
 FA n3 x24 fun x25 =>
 FA n0 x25 fun x26 =>
 LD x26 h23 fun x27 =>
 LENS x27 fun x28 =>
 SUB Pr 3 true x28 (.int .i64 n1) fun x29 =>
 kr x29 h23) kp
def F173 (fu : Nat) (oR : Orc) (cl : CL) (args : List AV) (h2 : Heap) (kr : KR) (kp : KP) : Ans := AR2 args fun x0 x1 =>
 BOX 108 x1 h2 fun x3 h4 =>
 NC x0 fun x5 =>
 FA n5 x5 fun x6 =>
 LD x6 h4 fun x7 =>
 IFB x7 (kr (.int .i64 n0) h4)
 (B173x30 x0 h4 x3 cl kr kp)

theorem eqF173 : F173 = fun fu oR => compF Pr fu oR 173 2 := by kernel_rfl

def B174x60 (cl : CL) (x0 : AV) (h34 : Heap) (j16 : AV → Heap → Ans) (kp : KP) : Ans := cl n169 [x0, (.str n1 n40)] h34 (fun x37 h38 =>
 cl n114 [x0] h38 (fun x41 h42 =>
 cl n169 [x0, (.str n1 n41)] h42 (fun x45 h46 =>
 cl n174 [x0] h46 (fun x49 h50 =>
 BSL n3 n1 [(.int .i64 n0), (.int .i64 n0)] n2 [(n0, x41), (n1, x49)] h50 fun x53 h54 =>
 OV (buildA Pr 108 [(n0, (.int .i64 n44)), (n4, x53)]) fun x55 =>
 cl n173 [x0, x55] h54 (fun x56 h57 =>
 j16 x56 h57) kp) kp) kp) kp) kp
def B174x73 (cl : CL) (x0 : AV) (h26 : Heap) (j16 : AV → Heap → Ans) (kp : KP) : Ans := cl n111 [x0, (.str n5 (nat_lit 435610544247))] h26 (fun x33 h34 =>
 IFB x33 (B174x60 cl x0 h34 j16 kp)
 (cl n111 [x0, (.str n3 (nat_lit 7499622))] h34 (fun x61 h62 =>
 IFB x61 (cl n238 [x0] h62 (fun x65 h66 =>
 j16 x65 h66) kp)
 (cl n239 [x0] h62 (fun x69 h70 =>
 j16 x69 h70) kp)) kp)) kp
def B174x74 (x0 : AV) (kr : KR) (cl : CL) (h3 : Heap) (kp : KP) : Ans := JO (fun x7 h8 =>
 NC x0 fun x9 =>
 FA n2 x9 fun x10 =>
 LD x10 h8 fun x11 =>
 SUB Pr 3 true x11 (.int .i64 n1) fun x12 =>
 NC x0 fun x13 =>
 FA n2 x13 fun x14 =>
 ST n1 x14 x12 h8 fun h15 =>
 kr x7 h15) fun j16 =>
 cl n113 [x0, (.str n1 n123)] h3 (fun x17 h18 =>
 IFB x17 (cl n115 [x0] h18 (fun x21 h22 =>
 j16 x21 h22) kp)
 (cl n111 [x0, (.str n2 (nat_lit 26217))] h18 (fun x25 h26 =>
 IFB x25 (cl n237 [x0] h26 (fun x29 h30 =>
 j16 x29 h30) kp)
 (B174x73 cl x0 h26 j16 kp)) kp)) kp
def F174 (fu : Nat) (oR : Orc) (cl : CL) (args : List AV) (h1 : Heap) (kr : KR) (kp : KP) : Ans := AR1 args fun x0 =>
 cl n171 [x0] h1 (fun x2 h3 =>
 OV (unOpA .not x2) fun x6 =>
 IFB x6 (kr (.int .i64 n0) h3)
 (B174x74 x0 kr cl h3 kp)) kp

theorem eqF174 : F174 = fun fu oR => compF Pr fu oR 174 1 := by kernel_rfl

def B176x24 (x3 : AV) (h12 : Heap) (x1 : AV) (x5 : AV) (cl : CL) (x11 : AV) (kr : KR) (j8 : AV → AV → Heap → Ans) (kp : KP) : Ans := LDN n2 x3 h12 fun x13 =>
 SA n1 x1 x5 fun x14 =>
 LD x14 h12 fun x15 =>
 cl n116 [x13, x15] h12 (fun x16 h17 =>
 ADD Pr 9 false x11 x16 fun x20 =>
 LENT x20 fun x21 =>
 GTR Pr 3 true x21 (.int .i64 (nat_lit 16000)) fun x22 =>
 IFB x22 (kr x20 h17)
 (ADD Pr 3 true x5 (.int .i64 n1) fun x23 =>
 j8 x23 x20 h17)) kp
def F176 (fu : Nat) (oR : Orc) (cl : CL) (args : List AV) (h2 : Heap) (kr : KR) (kp : KP) : Ans := AR2 args fun x0 x1 =>
 BOX 33 x0 h2 fun x3 h4 =>
 LP fu (fun _ _ _ => Ans.no) (fun j8 x5 x6 h7 =>
 LENS x1 fun x9 =>
 LSS Pr 3 false x5 x9 fun x10 =>
 IFB x10 (JO (fun x11 h12 =>
 B176x24 x3 h12 x1 x5 cl x11 kr j8 kp) fun j25 =>
 GTR Pr 3 true x5 (.int .i64 n0) fun x26 =>
 IFB x26 (ADD Pr 9 true x6 (.str n2 n8236) fun x27 =>
 j25 x27 h7)
 (j25 x6 h7))
 (kr x6 h7)) (.int .i64 n0) (.str n0 n0) h4

theorem eqF176 : F176 = fun fu oR => compF Pr fu oR 176 2 := by kernel_rfl

def B178x9 (h1 : Heap) (x0 : AV) (kr : KR) : Ans := BSL n9 n1 [(.str n0 n0), (.str n0 n0), (.str n0 n0), (.str n0 n0), (.str n0 n0), (.str n0 n0), (.str n0 n0), (.str n0 n0), (.str n0 n0), (.str n0 n0), (.str n0 n0), (.str n0 n0), (.str n0 n0), (.str n0 n0), (.str n0 n0)] n15 [(n0, (.str n2 (nat_lit 31868))), (n1, (.str n2 n9766)), (n2, (.str n1 n33)), (n3, (.str n1 n126)), (n4, (.str n2 (nat_lit 32289))), (n5, (.str n1 n60)), (n6, (.str n2 (nat_lit 15676))), (n7, (.str n2 (nat_lit 15677))), (n8, (.str n2 (nat_lit 15649))), (n9, (.str n0 n0)), (n10, (.str n1 n43)), (n11, (.str n1 n45)), (n12, (.str n1 n42)), (n13, (.str n1 n47)), (n14, (.str n1 n37))] h1 fun x4 h5 =>
 SUB Pr 3 true x0 (.int .i64 n10) fun x6 =>
 SA n1 x4 x6 fun x7 =>
 LD x7 h5 fun x8 =>
 kr x8 h5
def F178 (fu : Nat) (oR : Orc) (cl : CL) (args : List AV) (h1 : Heap) (kr : KR) (kp : KP) : Ans := AR1 args fun x0 =>
 EQL Pr 3 true x0 (.int .i64 n7) fun x2 =>
 IFB x2 (kr (.str n1 n61) h1)
 (EQL Pr 3 true x0 (.int .i64 n8) fun x3 =>
 IFB x3 (kr (.str n2 (nat_lit 15659)) h1)
 (B178x9 h1 x0 kr))

theorem eqF178 : F178 = fun fu oR => compF Pr fu oR 178 1 := by kernel_rfl

def F179 (fu : Nat) (oR : Orc) (cl : CL) (args : List AV) (h3 : Heap) (kr : KR) (kp : KP) : Ans := AR3 args fun x0 x1 x2 =>
 BOX 33 x0 h3 fun x4 h5 =>
 LENS x2 fun x6 =>
 EQL Pr 3 true x6 (.int .i64 n0) fun x7 =>
 IFB x7 (ADD Pr 9 true x1 (.str n1 n59) fun x8 =>
 kr x8 h5)
 (ADD Pr 9 true x1 (.str n1 n32) fun x9 =>
 LDN n2 x4 h5 fun x10 =>
 cl n176 [x10, x2] h5 (fun x11 h12 =>
 ADD Pr 9 false x9 x11 fun x15 =>
 ADD Pr 9 true x15 (.str n1 n59) fun x16 =>
 kr x16 h12) kp)

theorem eqF179 : F179 = fun fu oR => compF Pr fu oR 179 3 := by kernel_rfl

def B183x112 (x97 : AV) (x102 : AV) (x0 : AV) (x65 : AV) (cl : CL) (x1 : AV) (h103 : Heap) (kr : KR) (kp : KP) (j41 : AV → AV → Heap → Ans) (x66 : AV) : Ans := SEL x97 x102 (.bool false) fun x104 =>
 IFB x104 (OV (sliceA Pr 9 x0 (some x65) none none) fun x105 =>
 cl n244 [x105, x1] h103 (fun x106 h107 =>
 LSS Pr 3 true x106 (.int .i64 n0) fun x110 =>
 IFB x110 (kr (.int .i64 (nat_lit 18446744073709551615)) h107)
 (ADD Pr 3 false x65 x106 fun x111 =>
 kr x111 h107)) kp)
 (j41 x66 x65 h103)
def B183x117 (x86 : AV) (x95 : AV) (x0 : AV) (x65 : AV) (cl : CL) (x1 : AV) (kr : KR) (kp : KP) (j41 : AV → AV → Heap → Ans) (x66 : AV) (x37 : AV) (h96 : Heap) : Ans := SEL x86 x95 (.bool false) fun x97 =>
 JO (fun x98 h99 =>
 JO (fun x100 h101 =>
 JO (fun x102 h103 =>
 B183x112 x97 x102 x0 x65 cl x1 h103 kr kp j41 x66) fun j113 =>
 GW true x97 (LSS Pr 3 false x98 x100 fun x114 =>
 j113 x114 h101)
 (j113 undefA h101)) fun j115 =>
 GW true x97 (j115 x37 h99)
 (j115 undefA h99)) fun j116 =>
 GW true x97 (j116 x65 h96)
 (j116 undefA h96)
def B183x124 (x86 : AV) (x0 : AV) (x65 : AV) (cl : CL) (x1 : AV) (kr : KR) (kp : KP) (j41 : AV → AV → Heap → Ans) (x66 : AV) (x37 : AV) (x87 : AV) (x89 : AV) (h90 : Heap) : Ans := JO (fun x91 h92 =>
 JO (fun x93 h94 =>
 JO (fun x95 h96 =>
 B183x117 x86 x95 x0 x65 cl x1 kr kp j41 x66 x37 h96) fun j118 =>
 GW true x86 (GEQ Pr 3 false x87 x93 fun x119 =>
 j118 x119 h94)
 (j118 undefA h94)) fun j120 =>
 GW true x86 (ADD Pr 3 true (.int .i64 n4) x91 fun x121 =>
 j120 x121 h92)
 (j120 undefA h92)) fun j122 =>
 GW true x86 (BOP Pr .shr 3 true x89 (.int .u64 n4) fun x123 =>
 j122 x123 h90)
 (j122 undefA h90)
def B183x127 (x68 : AV) (x75 : AV) (x0 : AV) (x65 : AV) (h76 : Heap) (x1 : AV) (cl : CL) (kr : KR) (kp : KP) (x3 : AV) (j41 : AV → AV → Heap → Ans) (x66 : AV) (x37 : AV) : Ans := SEL x68 x75 (.bool false) fun x77 =>
 IFB x77 (OV (sliceA Pr 9 x0 (some x65) none none) fun x78 =>
 GEN (callF Pr h76 242 [x78, x1]) cl (fun x79 h80 =>
 GEQ Pr 3 true x79 (.int .i64 n0) fun x83 =>
 IFB x83 (ADD Pr 3 false x79 x65 fun x84 =>
 kr x84 h80)
 (kr (.int .i64 (nat_lit 18446744073709551615)) h80)) kp)
 (LD (.ptr n0 n0) h76 fun x85 =>
 GTR Pr 3 false x3 x85 fun x86 =>
 JO (fun x87 h88 =>
 JO (fun x89 h90 =>
 B183x124 x86 x0 x65 cl x1 kr kp j41 x66 x37 x87 x89 h90) fun j125 =>
 GW true x86 (j125 x65 h88)
 (j125 undefA h88)) fun j126 =>
 GW true x86 (j126 x66 h76)
 (j126 undefA h76))
def B183x136 (x68 : AV) (x0 : AV) (x65 : AV) (x1 : AV) (cl : CL) (kr : KR) (kp : KP) (x3 : AV) (j41 : AV → AV → Heap → Ans) (x66 : AV) (x37 : AV) (x69 : AV) (h70 : Heap) : Ans := JO (fun x71 h72 =>
 JO (fun x73 h74 =>
 JO (fun x75 h76 =>
 B183x127 x68 x75 x0 x65 h76 x1 cl kr kp x3 j41 x66 x37) fun j128 =>
 GW true x68 (GTR Pr 3 false x69 x73 fun x129 =>
 j128 x129 h74)
 (j128 undefA h74)) fun j130 =>
 GW true x68 (cl n243 [x71] h72 (fun x131 h132 =>
 j130 x131 h132) kp)
 (j130 undefA h72)) fun j135 =>
 GW true x68 (j135 x65 h70)
 (j135 undefA h70)
def B183x138 (x43 : AV) (x38 : AV) (h63 : Heap) (x3 : AV) (x0 : AV) (x1 : AV) (cl : CL) (kr : KR) (kp : KP) (j41 : AV → AV → Heap → Ans) (x37 : AV) : Ans := ADD Pr 3 true x43 (.int .i64 n1) fun x65 =>
 ADD Pr 3 true x38 (.int .i64 n1) fun x66 =>
 LD (.ptr n0 n0) h63 fun x67 =>
 LEQ Pr 3 false x3 x67 fun x68 =>
 JO (fun x69 h70 =>
 B183x136 x68 x0 x65 x1 cl kr kp x3 j41 x66 x37 x69 h70) fun j137 =>
 GW true x68 (j137 x66 h63)
 (j137 undefA h63)
def B183x144 (x47 : AV) (kr : KR) (x43 : AV) (x38 : AV) (x3 : AV) (x0 : AV) (x1 : AV) (cl : CL) (kp : KP) (j41 : AV → AV → Heap → Ans) (x37 : AV) (x48 : AV) (x50 : AV) (x56 : AV) (h57 : Heap) : Ans := JO (fun x58 h59 =>
 JO (fun x60 h61 =>
 JO (fun x62 h63 =>
 SEL x47 x62 (.bool false) fun x64 =>
 IFB x64 (kr x43 h63)
 (B183x138 x43 x38 h63 x3 x0 x1 cl kr kp j41 x37)) fun j139 =>
 GW true x47 (EQL Pr 9 false x58 x60 fun x140 =>
 j139 x140 h61)
 (j139 undefA h61)) fun j141 =>
 GW true x47 (j141 x1 h59)
 (j141 undefA h59)) fun j142 =>
 GW true x47 (OV (sliceA Pr 9 x48 (some x50) (some x56) none) fun x143 =>
 j142 x143 h57)
 (j142 undefA h57)
def B183x149 (x47 : AV) (kr : KR) (x43 : AV) (x38 : AV) (x3 : AV) (x0 : AV) (x1 : AV) (cl : CL) (kp : KP) (j41 : AV → AV → Heap → Ans) (x37 : AV) (x48 : AV) (x50 : AV) (h51 : Heap) : Ans := JO (fun x52 h53 =>
 JO (fun x54 h55 =>
 JO (fun x56 h57 =>
 B183x144 x47 kr x43 x38 x3 x0 x1 cl kp j41 x37 x48 x50 x56 h57) fun j145 =>
 GW true x47 (ADD Pr 3 false x52 x54 fun x146 =>
 j145 x146 h55)
 (j145 undefA h55)) fun j147 =>
 GW true x47 (j147 x3 h53)
 (j147 undefA h53)) fun j148 =>
 GW true x47 (j148 x43 h51)
 (j148 undefA h51)
def B183x152 (x43 : AV) (x0 : AV) (x34 : AV) (kr : KR) (x38 : AV) (x3 : AV) (x1 : AV) (cl : CL) (kp : KP) (j41 : AV → AV → Heap → Ans) (x37 : AV) (h44 : Heap) : Ans := ADD Pr 3 true x43 (.int .i64 n1) fun x45 =>
 SAT x0 x45 fun x46 =>
 EQL Pr 5 false x46 x34 fun x47 =>
 JO (fun x48 h49 =>
 JO (fun x50 h51 =>
 B183x149 x47 kr x43 x38 x3 x0 x1 cl kp j41 x37 x48 x50 h51) fun j150 =>
 GW true x47 (j150 x43 h49)
 (j150 undefA h49)) fun j151 =>
 GW true x47 (j151 x0 h44)
 (j151 undefA h44)
def B183x165 (x39 : AV) (x0 : AV) (x37 : AV) (cl : CL) (x33 : AV) (h40 : Heap) (kr : KR) (j153 : AV → Heap → Ans) (kp : KP) : Ans := ADD Pr 3 true x39 (.int .i64 n1) fun x156 =>
 OV (sliceA Pr 9 x0 (some x156) (some x37) none) fun x157 =>
 cl n241 [x157, x33] h40 (fun x158 h159 =>
 LSS Pr 3 true x158 (.int .i64 n0) fun x162 =>
 IFB x162 (kr (.int .i64 (nat_lit 18446744073709551615)) h159)
 (ADD Pr 3 true x158 (.int .i64 n1) fun x163 =>
 ADD Pr 3 false x39 x163 fun x164 =>
 j153 x164 h159)) kp
def B183x166 (x39 : AV) (x37 : AV) (x0 : AV) (x34 : AV) (kr : KR) (x38 : AV) (x3 : AV) (x1 : AV) (cl : CL) (kp : KP) (j41 : AV → AV → Heap → Ans) (x33 : AV) (h40 : Heap) : Ans := LSS Pr 3 false x39 x37 fun x42 =>
 IFB x42 (JO (fun x43 h44 =>
 B183x152 x43 x0 x34 kr x38 x3 x1 cl kp j41 x37 h44) fun j153 =>
 SAT x0 x39 fun x154 =>
 NEQ Pr 5 false x154 x33 fun x155 =>
 IFB x155 (B183x165 x39 x0 x37 cl x33 h40 kr j153 kp)
 (j153 x39 h40))
 (kr (.int .i64 (nat_lit 18446744073709551615)) h40)
def B183x167 (x1 : AV) (x0 : AV) (x3 : AV) (fu : Nat) (kr : KR) (cl : CL) (kp : KP) (h27 : Heap) : Ans := SAT x1 (.int .i64 n0) fun x33 =>
 SAT x1 (.int .i64 n1) fun x34 =>
 LENT x0 fun x35 =>
 SUB Pr 3 false x35 x3 fun x36 =>
 ADD Pr 3 true x36 (.int .i64 n1) fun x37 =>
 LP fu (fun _ _ _ => Ans.no) (fun j41 x38 x39 h40 =>
 B183x166 x39 x37 x0 x34 kr x38 x3 x1 cl kp j41 x33 h40) (.int .i64 n0) (.int .i64 n0) h27
def B183x172 (x21 : AV) (x0 : AV) (x1 : AV) (cl : CL) (kr : KR) (kp : KP) (x3 : AV) (fu : Nat) (x22 : AV) (h23 : Heap) : Ans := JO (fun x24 h25 =>
 JO (fun x26 h27 =>
 SEL x21 x26 (.bool false) fun x28 =>
 IFB x28 (GEN (callF Pr h27 242 [x0, x1]) cl (fun x29 h30 =>
 kr x29 h30) kp)
 (B183x167 x1 x0 x3 fu kr cl kp h27)) fun j168 =>
 GW true x21 (LEQ Pr 3 true x24 (.int .i64 n64) fun x169 =>
 j168 x169 h25)
 (j168 undefA h25)) fun j170 =>
 GW true x21 (LENT x22 fun x171 =>
 j170 x171 h23)
 (j170 undefA h23)
def B183x174 (x0 : AV) (x3 : AV) (kr : KR) (h10 : Heap) (x1 : AV) (cl : CL) (kp : KP) (fu : Nat) : Ans := LENT x0 fun x18 =>
 GEQ Pr 3 false x3 x18 fun x19 =>
 IFB x19 (kr (.int .i64 (nat_lit 18446744073709551615)) h10)
 (LD (.ptr n0 n0) h10 fun x20 =>
 LEQ Pr 3 false x3 x20 fun x21 =>
 JO (fun x22 h23 =>
 B183x172 x21 x0 x1 cl kr kp x3 fu x22 h23) fun j173 =>
 GW true x21 (j173 x0 h10)
 (j173 undefA h10))
def B183x177 (x4 : AV) (kr : KR) (x3 : AV) (x1 : AV) (cl : CL) (x0 : AV) (kp : KP) (fu : Nat) (x5 : AV) (x7 : AV) (h8 : Heap) : Ans := JO (fun x9 h10 =>
 SEL x4 (.bool true) x9 fun x11 =>
 IFB x11 (kr (.int .i64 n0) h10)
 (EQL Pr 3 true x3 (.int .i64 n1) fun x12 =>
 IFB x12 (SAT x1 (.int .i64 n0) fun x13 =>
 cl n241 [x0, x13] h10 (fun x14 h15 =>
 kr x14 h15) kp)
 (B183x174 x0 x3 kr h10 x1 cl kp fu))) fun j175 =>
 GW false x4 (EQL Pr 9 false x5 x7 fun x176 =>
 j175 x176 h8)
 (j175 undefA h8)
def F183 (fu : Nat) (oR : Orc) (cl : CL) (args : List AV) (h2 : Heap) (kr : KR) (kp : KP) : Ans := AR2 args fun x0 x1 =>
 LENT x1 fun x3 =>
 EQL Pr 3 true x3 (.int .i64 n0) fun x4 =>
 JO (fun x5 h6 =>
 JO (fun x7 h8 =>
 B183x177 x4 kr x3 x1 cl x0 kp fu x5 x7 h8) fun j178 =>
 GW false x4 (j178 x0 h6)
 (j178 undefA h6)) fun j179 =>
 GW false x4 (j179 x1 h2)
 (j179 undefA h2)

theorem eqF183 : F183 = fun fu oR => compF Pr fu oR 183 2 := by kernel_rfl

def F184 (fu : Nat) (oR : Orc) (cl : CL) (args : List AV) (h1 : Heap) (kr : KR) (kp : KP) : Ans := AR1 args fun x0 =>
 NC x0 fun x2 =>
 FA n0 x2 fun x3 =>
 LD x3 h1 fun x4 =>
 EQL Pr 98 true x4 (.nilp) fun x5 =>
 IFB x5 (OV (convV Pr h1 98 252 x0) fun x6 =>
 GEN (callF Pr h1 245 [x6]) cl (fun x7 h8 =>
 OV (convV Pr h8 252 98 x7) fun x11 =>
 NC x0 fun x12 =>
 FA n0 x12 fun x13 =>
 ST n1 x13 x11 h8 fun h14 =>
 kr (.tuple []) h14) kp)
 (NC x0 fun x15 =>
 FA n0 x15 fun x16 =>
 LD x16 h1 fun x17 =>
 NEQ Pr 98 false x17 x0 fun x18 =>
 IFB x18 (Ans.no)
 (kr (.tuple []) h1))

theorem eqF184 : F184 = fun fu oR => compF Pr fu oR 184 1 := by kernel_rfl

def F185 (fu : Nat) (oR : Orc) (cl : CL) (args : List AV) (h1 : Heap) (kr : KR) (kp : KP) : Ans := AR1 args fun x0 =>
 cl n24 [x0, (.int .i64 (nat_lit 18446735073709551616)), (.int .i64 (nat_lit 9000000000000))] h1 (fun x2 h3 =>
 kr x2 h3) kp

theorem eqF185 : F185 = fun fu oR => compF Pr fu oR 185 1 := by kernel_rfl

def F186 (fu : Nat) (oR : Orc) (cl : CL) (args : List AV) (h1 : Heap) (kr : KR) (kp : KP) : Ans := AR1 args fun x0 =>
 cl n246 [x0] h1 (fun x2 h3 =>
 kr x2 h3) kp

theorem eqF186 : F186 = fun fu oR => compF Pr fu oR 186 1 := by kernel_rfl

def B187x40 (cl : CL) (x1 : AV) (h16 : Heap) (x0 : AV) (kr : KR) (kp : KP) : Ans := cl n248 [x1] h16 (fun x23 h24 =>
 EX n0 x23 fun x27 =>
 EX n1 x23 fun x28 =>
 NEWC (.n (some (.bool false)) (.n (some (.bool false)) (.n (some (.bool false)) (.n (some (.bool false)) (.n (some (.bool false)) (.n (some (.bool false)) (.n (some (.bool false)) (.n (some (.bool false)) (.n (some (.bool false)) .e .e) .e) (.n (some (.bool false)) .e .e)) (.n (some (.bool false)) (.n (some (.bool false)) .e .e) (.n (some (.bool false)) .e .e))) (.n (some (.bool false)) (.n (some (.bool false)) (.n (some (.bool false)) .e .e) (.n (some (.bool false)) .e .e)) (.n (some (.bool false)) (.n (some (.bool false)) .e .e) (.n (some (.bool false)) .e .e)))) (.n (some (.bool false)) (.n (some (.bool false)) (.n (some (.bool false)) (.n (some (.bool false)) .e .e) (.n (some (.bool false)) .e .e)) (.n (some (.bool false)) (.n (some (.bool false)) .e .e) (.n (some (.bool false)) .e .e))) (.n (some (.bool false)) (.n (some (.bool false)) (.n (some (.bool false)) .e .e) (.n (some (.bool false)) .e .e)) (.n (some (.bool false)) (.n (some (.bool false)) .e .e) (.n (some (.bool false)) .e .e))))) (.n (some (.bool false)) (.n (some (.bool false)) (.n (some (.bool false)) (.n (some (.bool false)) (.n (some (.bool false)) .e .e) (.n (some (.bool false)) .e .e)) (.n (some (.bool false)) (.n (some (.bool false)) .e .e) (.n (some (.bool false)) .e .e))) (.n (some (.bool false)) (.n (some (.bool false)) (.n (some (.bool false)) .e .e) (.n (some (.bool false)) .e .e)) (.n (some (.bool false)) (.n (some (.bool false)) .e .e) (.n (some (.bool false)) .e .e)))) (.n (some (.bool false)) (.n (some (.bool false)) (.n (some (.bool false)) (.n (some (.bool false)) .e .e) (.n (some (.bool false)) .e .e)) (.n (some (.bool false)) (.n (some (.bool false)) .e .e) (.n (some (.bool false)) .e .e))) (.n (some (.bool false)) (.n (some (.bool false)) (.n (some (.bool false)) .e .e) (.n (some (.bool false)) .e .e)) (.n (some (.bool false)) (.n (some (.bool false)) .e .e) (.n (some (.bool false)) .e .e)))))) (.n (some (.bool false)) (.n (some (.bool false)) (.n (some (.bool false)) (.n (some (.bool false)) (.n (some (.bool false)) (.n (some (.bool false)) .e .e) (.n (some (.bool false)) .e .e)) (.n (some (.bool false)) (.n (some (.bool false)) .e .e) (.n (some (.bool false)) .e .e))) (.n (some (.bool false)) (.n (some (.bool false)) (.n (some (.bool false)) .e .e) (.n (some (.bool false)) .e .e)) (.n (some (.bool false)) (.n (some (.bool false)) .e .e) (.n (some (.bool false)) .e .e)))) (.n (some (.bool false)) (.n (some (.bool false)) (.n (some (.bool false)) (.n (some (.bool false)) .e .e) (.n (some (.bool false)) .e .e)) (.n (some (.bool false)) (.n (some (.bool false)) .e .e) (.n (some (.bool false)) .e .e))) (.n (some (.bool false)) (.n (some (.bool false)) (.n (some (.bool false)) .e .e) (.n (some (.bool false)) .e .e)) (.n (some (.bool false)) (.n (some (.bool false)) .e .e) (.n (some (.bool false)) .e .e))))) (.n (some (.bool false)) (.n (some (.bool false)) (.n (some (.bool false)) (.n (some (.bool false)) (.n (some (.bool false)) .e .e) (.n (some (.bool false)) .e .e)) (.n (some (.bool false)) (.n (some (.bool false)) .e .e) (.n (some (.bool false)) .e .e))) (.n (some (.bool false)) (.n (some (.bool false)) (.n (some (.bool false)) .e .e) (.n (some (.bool false)) .e .e)) (.n (some (.bool false)) (.n (some (.bool false)) .e .e) (.n (some (.bool false)) .e .e)))) (.n (some (.bool false)) (.n (some (.bool false)) (.n (some (.bool false)) (.n (some (.bool false)) .e .e) (.n (some (.bool false)) .e .e)) (.n (some (.bool false)) (.n (some (.bool false)) .e .e) (.n (some (.bool false)) .e .e))) (.n (some (.bool false)) (.n (some (.bool false)) (.n (some (.bool false)) .e .e) (.n (some (.bool false)) .e .e)) (.n (some (.bool false)) (.n (some (.bool false)) .e .e) (.n (some (.bool false)) .e .e))))))) (.n (some (.bool false)) (.n (some (.bool false)) (.n (some (.bool false)) (.n (some (.bool false)) (.n (some (.bool false)) (.n (some (.bool false)) (.n (some (.bool false)) .e .e) (.n (some (.bool false)) .e .e)) (.n (some (.bool false)) (.n (some (.bool false)) .e .e) (.n (some (.bool false)) .e .e))) (.n (some (.bool false)) (.n (some (.bool false)) (.n (some (.bool false)) .e .e) (.n (some (.bool false)) .e .e)) (.n (some (.bool false)) (.n (some (.bool false)) .e .e) (.n (some (.bool false)) .e .e)))) (.n (some (.bool false)) (.n (some (.bool false)) (.n (some (.bool false)) (.n (some (.bool false)) .e .e) (.n (some (.bool false)) .e .e)) (.n (some (.bool false)) (.n (some (.bool false)) .e .e) (.n (some (.bool false)) .e .e))) (.n (some (.bool false)) (.n (some (.bool false)) (.n (some (.bool false)) .e .e) (.n (some (.bool false)) .e .e)) (.n (some (.bool false)) (.n (some (.bool false)) .e .e) (.n (some (.bool false)) .e .e))))) (.n (some (.bool false)) (.n (some (.bool false)) (.n (some (.bool false)) (.n (some (.bool false)) (.n (some (.bool false)) .e .e) (.n (some (.bool false)) .e .e)) (.n (some (.bool false)) (.n (some (.bool false)) .e .e) (.n (some (.bool false)) .e .e))) (.n (some (.bool false)) (.n (some (.bool false)) (.n (some (.bool false)) .e .e) (.n (some (.bool false)) .e .e)) (.n (some (.bool false)) (.n (some (.bool false)) .e .e) (.n (some (.bool false)) .e .e)))) (.n (some (.bool false)) (.n (some (.bool false)) (.n (some (.bool false)) (.n (some (.bool false)) .e .e) (.n (some (.bool false)) .e .e)) (.n (some (.bool false)) (.n (some (.bool false)) .e .e) (.n (some (.bool false)) .e .e))) (.n (some (.bool false)) (.n (some (.bool false)) (.n (some (.bool false)) .e .e) (.n (some (.bool false)) .e .e)) (.n (some (.bool false)) (.n (some (.bool false)) .e .e) (.n (some (.bool false)) .e .e)))))) (.n (some (.bool false)) (.n (some (.bool false)) (.n (some (.bool false)) (.n (some (.bool false)) (.n (some (.bool false)) (.n (some (.bool false)) .e .e) (.n (some (.bool false)) .e .e)) (.n (some (.bool false)) (.n (some (.bool false)) .e .e) (.n (some (.bool false)) .e .e))) (.n (some (.bool false)) (.n (some (.bool false)) (.n (some (.bool false)) .e .e) (.n (some (.bool false)) .e .e)) (.n (some (.bool false)) (.n (some (.bool false)) .e .e) (.n (some (.bool false)) .e .e)))) (.n (some (.bool false)) (.n (some (.bool false)) (.n (some (.bool false)) (.n (some (.bool false)) .e .e) (.n (some (.bool false)) .e .e)) (.n (some (.bool false)) (.n (some (.bool false)) .e .e) (.n (some (.bool false)) .e .e))) (.n (some (.bool false)) (.n (some (.bool false)) (.n (some (.bool false)) .e .e) (.n (some (.bool false)) .e .e)) (.n (some (.bool false)) (.n (some (.bool false)) .e .e) (.n (some (.bool false)) .e .e))))) (.n (some (.bool false)) (.n (some (.bool false)) (.n (some (.bool false)) (.n (some (.bool false)) (.n (some (.bool false)) .e .e) (.n (some (.bool false)) .e .e)) (.n (some (.bool false)) (.n (some (.bool false)) .e .e) (.n (some (.bool false)) .e .e))) (.n (some (.bool false)) (.n (some (.bool false)) (.n (some (.bool false)) .e .e) (.n (some (.bool false)) .e .e)) (.n (some (.bool false)) (.n (some (.bool false)) .e .e) (.n (some (.bool false)) .e .e)))) (.n (some (.bool false)) (.n (some (.bool false)) (.n (some (.bool false)) (.n (some (.bool false)) .e .e) (.n (some (.bool false)) .e .e)) (.n (some (.bool false)) (.n (some (.bool false)) .e .e) (.n (some (.bool false)) .e .e))) (.n (some (.bool false)) (.n (some (.bool false)) (.n (some (.bool false)) .e .e) (.n (some (.bool false)) .e .e)) (.n (some (.bool false)) (.n (some (.bool false)) .e .e) (.n (some (.bool false)) .e .e)))))))) n256 256 h24 fun x29 h30 =>
 ST n256 x29 x27 h30 fun h31 =>
 IFB x28 (cl n249 [x0, x29] h31 (fun x32 h33 =>
 kr x32 h33) kp)
 (cl n250 [x0, x1] h31 (fun x36 h37 =>
 kr x36 h37) kp)) kp
def B187x43 (x10 : AV) (x1 : AV) (cl : CL) (x0 : AV) (kr : KR) (kp : KP) (x13 : AV) (h14 : Heap) : Ans := JO (fun x15 h16 =>
 SEL x10 x15 (.bool false) fun x17 =>
 IFB x17 (SAT x1 (.int .i64 n0) fun x18 =>
 cl n247 [x0, x18] h16 (fun x19 h20 =>
 kr x19 h20) kp)
 (B187x40 cl x1 h16 x0 kr kp)) fun j41 =>
 GW true x10 (LSS Pr 5 true x13 (.int .u8 n128) fun x42 =>
 j41 x42 h14)
 (j41 undefA h14)
def B187x47 (x3 : AV) (x6 : AV) (kr : KR) (x0 : AV) (h7 : Heap) (x1 : AV) (cl : CL) (kp : KP) : Ans := SEL x3 (.bool true) x6 fun x8 =>
 IFB x8 (kr x0 h7)
 (LENT x1 fun x9 =>
 EQL Pr 3 true x9 (.int .i64 n1) fun x10 =>
 JO (fun x11 h12 =>
 JO (fun x13 h14 =>
 B187x43 x10 x1 cl x0 kr kp x13 h14) fun j44 =>
 GW true x10 (SAT x11 (.int .i64 n0) fun x45 =>
 j44 x45 h12)
 (j44 undefA h12)) fun j46 =>
 GW true x10 (j46 x1 h7)
 (j46 undefA h7))
def F187 (fu : Nat) (oR : Orc) (cl : CL) (args : List AV) (h2 : Heap) (kr : KR) (kp : KP) : Ans := AR2 args fun x0 x1 =>
 EQL Pr 9 true x0 (.str n0 n0) fun x3 =>
 JO (fun x4 h5 =>
 JO (fun x6 h7 =>
 B187x47 x3 x6 kr x0 h7 x1 cl kp) fun j48 =>
 GW false x3 (EQL Pr 9 true x4 (.str n0 n0) fun x49 =>
 j48 x49 h5)
 (j48 undefA h5)) fun j50 =>
 GW false x3 (j50 x1 h2)
 (j50 undefA h2)

theorem eqF187 : F187 = fun fu oR => compF Pr fu oR 187 2 := by kernel_rfl

def F189 (fu : Nat) (oR : Orc) (cl : CL) (args : List AV) (h2 : Heap) (kr : KR) (kp : KP) : Ans := AR2 args fun x0 x1 =>
 NC x0 fun x3 =>
 FA n1 x3 fun x4 =>
 LD x4 h2 fun x5 =>
 OPV (builtinF .cap Pr [22] [x5] h2) fun x6 =>
 BOP Pr .mul 3 true (.int .i64 n2) x6 fun x7 =>
 ADD Pr 3 false x7 x1 fun x8 =>
 NC x0 fun x9 =>
 FA n1 x9 fun x10 =>
 LD x10 h2 fun x11 =>
 LENS x11 fun x12 =>
 GEN (callF Pr h2 251 [x8]) cl (fun x13 h14 =>
 LD x10 h14 fun x17 =>
 EQV x11 x17 <|
 OV (sliceA Pr 22 x13 none (some x12) none) fun x18 =>
 NC x0 fun x19 =>
 FA n1 x19 fun x20 =>
 LD x20 h14 fun x21 =>
 GEN (builtinF .copy Pr [22, 22] [x18, x21] h14) cl (fun x22 h23 =>
 NC x0 fun x26 =>
 FA n1 x26 fun x27 =>
 ST n1 x27 x18 h23 fun h28 =>
 kr (.tuple []) h28) kp) kp

theorem eqF189 : F189 = fun fu oR => compF Pr fu oR 189 2 := by kernel_rfl

def F190 (fu : Nat) (oR : Orc) (cl : CL) (args : List AV) (h1 : Heap) (kr : KR) (kp : KP) : Ans := AR1 args fun x0 =>
 GEQ Pr 5 true x0 (.int .u8 n48) fun x2 =>
 JO (fun x3 h4 =>
 JO (fun x5 h6 =>
 SEL x2 x5 (.bool false) fun x7 =>
 kr x7 h6) fun j8 =>
 GW true x2 (LEQ Pr 5 true x3 (.int .u8 n57) fun x9 =>
 j8 x9 h4)
 (j8 undefA h4)) fun j10 =>
 GW true x2 (j10 x0 h1)
 (j10 undefA h1)

theorem eqF190 : F190 = fun fu oR => compF Pr fu oR 190 1 := by kernel_rfl

def B191x44 (x28 : AV) (x31 : AV) (h33 : Heap) (x32 : AV) (j34 : AV → AV → Heap → Ans) : Ans := SA n1 x28 x31 fun x36 =>
 LD x36 h33 fun x37 =>
 BOP Pr .mul 3 true x32 (.int .i64 n10) fun x38 =>
 SUB Pr 5 true x37 (.int .u8 n48) fun x39 =>
 OV (convV Pr h33 5 3 x39) fun x40 =>
 ADD Pr 3 false x38 x40 fun x41 =>
 OPV (builtinF .min Pr [3, 3] [x41, (.int .i64 (nat_lit 9000000000001))] h33) fun x42 =>
 ADD Pr 3 true x31 (.int .i64 n1) fun x43 =>
 j34 x43 x42 h33
def B191x50 (x16 : AV) (x14 : AV) (h23 : Heap) (fu : Nat) (kr : KR) (x17 : AV) (x6 : AV) : Ans := ADD Pr 9 true x16 (.str n6 (nat_lit 52983525027888)) fun x25 =>
 OV (sliceA Pr 9 x25 none (some (.int .i64 n6)) none) fun x26 =>
 ADD Pr 9 false x14 x26 fun x27 =>
 OVH (convB Pr h23 22 x27) fun x28 h29 =>
 LENS x28 fun x30 =>
 LP fu (fun _ _ _ => Ans.no) (fun j34 x31 x32 h33 =>
 LSS Pr 3 false x31 x30 fun x35 =>
 IFB x35 (B191x44 x28 x31 h33 x32 j34)
 (OPV (builtinF .min Pr [3, 3] [x32, (.int .i64 (nat_lit 9000000000000))] h33) fun x45 =>
 JO (fun x46 h47 =>
 kr (.tuple [x46, x17]) h47) fun j48 =>
 IFB x6 (OV (unOpA .neg x45) fun x49 =>
 j48 x49 h33)
 (j48 x45 h33))) (.int .i64 n0) (.int .i64 n0) h29
def B191x54 (x14 : AV) (kr : KR) (x16 : AV) (fu : Nat) (x17 : AV) (x6 : AV) (h18 : Heap) : Ans := EQL Pr 9 true x14 (.str n0 n0) fun x19 =>
 JO (fun x20 h21 =>
 JO (fun x22 h23 =>
 SEL x19 x22 (.bool false) fun x24 =>
 IFB x24 (kr (.tuple [(.int .i64 n0), (.int .i64 n0)]) h23)
 (B191x50 x16 x14 h23 fu kr x17 x6)) fun j51 =>
 GW true x19 (EQL Pr 9 true x20 (.str n0 n0) fun x52 =>
 j51 x52 h21)
 (j51 undefA h21)) fun j53 =>
 GW true x19 (j53 x16 h18)
 (j53 undefA h18)
def B191x80 (x15 : AV) (x68 : AV) (x0 : AV) (j55 : AV → AV → Heap → Ans) (h69 : Heap) : Ans := ADD Pr 3 true x15 (.int .i64 n1) fun x74 =>
 ADD Pr 3 true x15 (.int .i64 n1) fun x75 =>
 ADD Pr 3 false x75 x68 fun x76 =>
 OV (sliceA Pr 9 x0 (some x74) (some x76) none) fun x77 =>
 ADD Pr 3 true (.int .i64 n1) x68 fun x78 =>
 ADD Pr 3 false x15 x78 fun x79 =>
 j55 x77 x79 h69
def B191x81 (x57 : AV) (x64 : AV) (x15 : AV) (cl : CL) (x0 : AV) (h65 : Heap) (x9 : AV) (j55 : AV → AV → Heap → Ans) (kp : KP) : Ans := SEL x57 x64 (.bool false) fun x66 =>
 IFB x66 (ADD Pr 3 true x15 (.int .i64 n1) fun x67 =>
 cl n133 [x0, x67, (.func (.func 190) [] [])] h65 (fun x68 h69 =>
 ADD Pr 3 false x9 x68 fun x72 =>
 GTR Pr 3 true x72 (.int .i64 n0) fun x73 =>
 IFB x73 (B191x80 x15 x68 x0 j55 h69)
 (j55 (.str n0 n0) x15 h69)) kp)
 (j55 (.str n0 n0) x15 h65)
def B191x87 (x57 : AV) (x15 : AV) (cl : CL) (x0 : AV) (x9 : AV) (j55 : AV → AV → Heap → Ans) (kp : KP) (x58 : AV) (h59 : Heap) : Ans := JO (fun x60 h61 =>
 JO (fun x62 h63 =>
 JO (fun x64 h65 =>
 B191x81 x57 x64 x15 cl x0 h65 x9 j55 kp) fun j82 =>
 GW true x57 (EQL Pr 5 true x62 (.int .u8 n46) fun x83 =>
 j82 x83 h63)
 (j82 undefA h63)) fun j84 =>
 GW true x57 (SAT x58 x60 fun x85 =>
 j84 x85 h61)
 (j84 undefA h61)) fun j86 =>
 GW true x57 (j86 x15 h59)
 (j86 undefA h59)
def B191x89 (cl : CL) (x0 : AV) (x7 : AV) (h8 : Heap) (kr : KR) (fu : Nat) (x6 : AV) (kp : KP) : Ans := cl n133 [x0, x7, (.func (.func 190) [] [])] h8 (fun x9 h10 =>
 ADD Pr 3 false x7 x9 fun x13 =>
 OV (sliceA Pr 9 x0 (some x7) (some x13) none) fun x14 =>
 ADD Pr 3 false x7 x9 fun x15 =>
 JO (fun x16 x17 h18 =>
 B191x54 x14 kr x16 fu x17 x6 h18) fun j55 =>
 LENT x0 fun x56 =>
 LSS Pr 3 false x15 x56 fun x57 =>
 JO (fun x58 h59 =>
 B191x87 x57 x15 cl x0 x9 j55 kp x58 h59) fun j88 =>
 GW true x57 (j88 x0 h10)
 (j88 undefA h10)) kp
def B191x119 (x92 : AV) (x0 : AV) (x2 : AV) (j90 : AV → AV → Heap → Ans) (x101 : AV) (x109 : AV) (h110 : Heap) : Ans := JO (fun x111 h112 =>
 SEL x92 x111 (.bool false) fun x113 =>
 IFB x113 (SAT x0 x2 fun x114 =>
 EQL Pr 5 true x114 (.int .u8 n45) fun x115 =>
 ADD Pr 3 true x2 (.int .i64 n1) fun x116 =>
 j90 x115 x116 h112)
 (j90 (.bool false) x2 h112)) fun j117 =>
 GW true x92 (SEL x101 (.bool true) x109 fun x118 =>
 j117 x118 h110)
 (j117 undefA h110)
def B191x125 (x92 : AV) (x0 : AV) (x2 : AV) (j90 : AV → AV → Heap → Ans) (x101 : AV) (x103 : AV) (h104 : Heap) : Ans := JO (fun x105 h106 =>
 JO (fun x107 h108 =>
 JO (fun x109 h110 =>
 B191x119 x92 x0 x2 j90 x101 x109 h110) fun j120 =>
 GW false x101 (EQL Pr 5 true x107 (.int .u8 n45) fun x121 =>
 j120 x121 h108)
 (j120 undefA h108)) fun j122 =>
 GW false x101 (SAT x103 x105 fun x123 =>
 j122 x123 h106)
 (j122 undefA h106)) fun j124 =>
 GW false x101 (j124 x2 h104)
 (j124 undefA h104)
def B191x130 (x92 : AV) (x0 : AV) (x2 : AV) (j90 : AV → AV → Heap → Ans) (x97 : AV) (h98 : Heap) : Ans := JO (fun x99 h100 =>
 JO (fun x101 h102 =>
 JO (fun x103 h104 =>
 B191x125 x92 x0 x2 j90 x101 x103 h104) fun j126 =>
 GW false x101 (j126 x0 h102)
 (j126 undefA h102)) fun j127 =>
 GW true x92 (j127 x99 h100)
 (j127 undefA h100)) fun j128 =>
 GW true x92 (EQL Pr 5 true x97 (.int .u8 n43) fun x129 =>
 j128 x129 h98)
 (j128 undefA h98)
def F191 (fu : Nat) (oR : Orc) (cl : CL) (args : List AV) (h1 : Heap) (kr : KR) (kp : KP) : Ans := AR1 args fun x0 =>
 cl n133 [x0, (.int .i64 n0), (.func (.func 132) [] [])] h1 (fun x2 h3 =>
 JO (fun x6 x7 h8 =>
 B191x89 cl x0 x7 h8 kr fu x6 kp) fun j90 =>
 LENT x0 fun x91 =>
 LSS Pr 3 false x2 x91 fun x92 =>
 JO (fun x93 h94 =>
 JO (fun x95 h96 =>
 JO (fun x97 h98 =>
 B191x130 x92 x0 x2 j90 x97 h98) fun j131 =>
 GW true x92 (SAT x93 x95 fun x132 =>
 j131 x132 h96)
 (j131 undefA h96)) fun j133 =>
 GW true x92 (j133 x2 h94)
 (j133 undefA h94)) fun j134 =>
 GW true x92 (j134 x0 h3)
 (j134 undefA h3)) kp

theorem eqF191 : F191 = fun fu oR => compF Pr fu oR 191 1 := by kernel_rfl

def B195x31 (x7 : AV) (kr : KR) (x0 : AV) (x12 : AV) (x16 : AV) (h17 : Heap) : Ans := JO (fun x18 h19 =>
 SEL x7 (.bool true) x18 fun x20 =>
 JO (fun x21 h22 =>
 JO (fun x23 h24 =>
 SEL x20 (.bool true) x23 fun x25 =>
 kr x25 h24) fun j26 =>
 GW false x20 (EQL Pr 5 true x21 (.int .u8 n95) fun x27 =>
 j26 x27 h22)
 (j26 undefA h22)) fun j28 =>
 GW false x20 (j28 x0 h19)
 (j28 undefA h19)) fun j29 =>
 GW false x7 (SEL x12 x16 (.bool false) fun x30 =>
 j29 x30 h17)
 (j29 undefA h17)
def B195x36 (x7 : AV) (kr : KR) (x0 : AV) (x10 : AV) (h11 : Heap) : Ans := JO (fun x12 h13 =>
 JO (fun x14 h15 =>
 JO (fun x16 h17 =>
 B195x31 x7 kr x0 x12 x16 h17) fun j32 =>
 GW true x12 (LEQ Pr 5 true x14 (.int .u8 n122) fun x33 =>
 j32 x33 h15)
 (j32 undefA h15)) fun j34 =>
 GW true x12 (j34 x0 h13)
 (j34 undefA h13)) fun j35 =>
 GW false x7 (j35 x10 h11)
 (j35 undefA h11)
def B195x42 (x2 : AV) (kr : KR) (x0 : AV) (x3 : AV) (h4 : Heap) : Ans := JO (fun x5 h6 =>
 SEL x2 x5 (.bool false) fun x7 =>
 JO (fun x8 h9 =>
 JO (fun x10 h11 =>
 B195x36 x7 kr x0 x10 h11) fun j37 =>
 GW false x7 (GEQ Pr 5 true x8 (.int .u8 n97) fun x38 =>
 j37 x38 h9)
 (j37 undefA h9)) fun j39 =>
 GW false x7 (j39 x0 h6)
 (j39 undefA h6)) fun j40 =>
 GW true x2 (LEQ Pr 5 true x3 (.int .u8 n90) fun x41 =>
 j40 x41 h4)
 (j40 undefA h4)
def F195 (fu : Nat) (oR : Orc) (cl : CL) (args : List AV) (h1 : Heap) (kr : KR) (kp : KP) : Ans := AR1 args fun x0 =>
 GEQ Pr 5 true x0 (.int .u8 n65) fun x2 =>
 JO (fun x3 h4 =>
 B195x42 x2 kr x0 x3 h4) fun j43 =>
 GW true x2 (j43 x0 h1)
 (j43 undefA h1)

theorem eqF195 : F195 = fun fu oR => compF Pr fu oR 195 1 := by kernel_rfl

def F196 (fu : Nat) (oR : Orc) (cl : CL) (args : List AV) (h1 : Heap) (kr : KR) (kp : KP) : Ans := AR1 args fun x0 =>
 cl n195 [x0] h1 (fun x2 h3 =>
 JO (fun x6 h7 =>
 JO (fun x8 h9 =>
 SEL x2 (.bool true) x8 fun x10 =>
 kr x10 h9) fun j11 =>
 GW false x2 (cl n190 [x6] h7 (fun x12 h13 =>
 j11 x12 h13) kp)
 (j11 undefA h7)) fun j16 =>
 GW false x2 (j16 x0 h3)
 (j16 undefA h3)) kp

theorem eqF196 : F196 = fun fu oR => compF Pr fu oR 196 1 := by kernel_rfl

def F197 (fu : Nat) (oR : Orc) (cl : CL) (args : List AV) (h1 : Heap) (kr : KR) (kp : KP) : Ans := AR1 args fun x0 =>
 cl n252 [] h1 (fun x2 h3 =>
 cl n213 [x2, x0] h3 (fun x6 h7 =>
 kr x6 h7) kp) kp

theorem eqF197 : F197 = fun fu oR => compF Pr fu oR 197 1 := by kernel_rfl

def F198 (fu : Nat) (oR : Orc) (cl : CL) (args : List AV) (h2 : Heap) (kr : KR) (kp : KP) : Ans := AR2 args fun x0 x1 =>
 cl n253 [x0, x1] h2 (fun x3 h4 =>
 kr x3 h4) kp

theorem eqF198 : F198 = fun fu oR => compF Pr fu oR 198 2 := by kernel_rfl

def F199 (fu : Nat) (oR : Orc) (cl : CL) (args : List AV) (h2 : Heap) (kr : KR) (kp : KP) : Ans := AR2 args fun x0 x1 =>
 cl n254 [x0, (.int .i64 n0)] h2 (fun x3 h4 =>
 cl n255 [x3, (.int .i64 n6), x1] h4 (fun x7 h8 =>
 kr x7 h8) kp) kp

theorem eqF199 : F199 = fun fu oR => compF Pr fu oR 199 2 := by kernel_rfl

def F200 (fu : Nat) (oR : Orc) (cl : CL) (args : List AV) (h1 : Heap) (kr : KR) (kp : KP) : Ans := AR1 args fun x0 =>
 NEWC (.n (some (.int .i64 n0)) (.n (some (.str n0 n0)) (.n (some (.int .i64 n0)) .e .e) .e) (.n (some (.int .i64 n0)) .e .e)) n4 130 h1 fun x2 h3 =>
 cl n254 [x0, (.int .i64 n0)] h3 (fun x4 h5 =>
 NEWC (.n (some (.int .i64 n0)) (.n (some (.str n0 n0)) (.n (some (.int .i64 n0)) .e .e) .e) (.n (some (.int .i64 n0)) .e .e)) n4 130 h5 fun x8 h9 =>
 ST n4 x8 x4 h9 fun h10 =>
 NC x0 fun x11 =>
 FA n1 x11 fun x12 =>
 LD x12 h10 fun x13 =>
 ADD Pr 3 true x13 (.int .i64 n1) fun x14 =>
 NC x0 fun x15 =>
 FA n1 x15 fun x16 =>
 ST n1 x16 x14 h10 fun h17 =>
 LDN n4 x8 h17 fun x18 =>
 ST n4 x2 x18 h17 fun h19 =>
 LDN n4 x2 h19 fun x20 =>
 kr x20 h19) kp

theorem eqF200 : F200 = fun fu oR => compF Pr fu oR 200 1 := by kernel_rfl

def F201 (fu : Nat) (oR : Orc) (cl : CL) (args : List AV) (h2 : Heap) (kr : KR) (kp : KP) : Ans := AR2 args fun x0 x1 =>
 JO (fun h3 =>
 cl n200 [x0] h3 (fun x4 h5 =>
 OV (fieldA Pr 130 x4 1) fun x8 =>
 kr x8 h5) kp) fun j9 =>
 cl n254 [x0, (.int .i64 n0)] h2 (fun x10 h11 =>
 OV (fieldA Pr 130 x10 0) fun x14 =>
 cl n66 [x1, x14] h11 (fun x15 h16 =>
 OV (unOpA .not x15) fun x19 =>
 IFB x19 (cl n256 [x0] h16 (fun x20 h21 =>
 j9  h21) kp)
 (j9  h16)) kp) kp

theorem eqF201 : F201 = fun fu oR => compF Pr fu oR 201 2 := by kernel_rfl

def F202 (fu : Nat) (oR : Orc) (cl : CL) (args : List AV) (h2 : Heap) (kr : KR) (kp : KP) : Ans := AR2 args fun x0 x1 =>
 JO (fun h3 =>
 NC x0 fun x4 =>
 FA n1 x4 fun x5 =>
 LD x5 h3 fun x6 =>
 ADD Pr 3 true x6 (.int .i64 n1) fun x7 =>
 NC x0 fun x8 =>
 FA n1 x8 fun x9 =>
 ST n1 x9 x7 h3 fun h10 =>
 kr (.tuple []) h10) fun j11 =>
 BSL n9 n1 [(.str n0 n0)] n1 [(n0, x1)] h2 fun x12 h13 =>
 cl n203 [x0, x12] h13 (fun x14 h15 =>
 OV (unOpA .not x14) fun x18 =>
 IFB x18 (cl n256 [x0] h15 (fun x19 h20 =>
 j11  h20) kp)
 (j11  h15)) kp

theorem eqF202 : F202 = fun fu oR => compF Pr fu oR 202 2 := by kernel_rfl

def F203 (fu : Nat) (oR : Orc) (cl : CL) (args : List AV) (h2 : Heap) (kr : KR) (kp : KP) : Ans := AR2 args fun x0 x1 =>
 cl n254 [x0, (.int .i64 n0)] h2 (fun x3 h4 =>
 cl n255 [x3, (.int .i64 n7), x1] h4 (fun x7 h8 =>
 kr x7 h8) kp) kp

theorem eqF203 : F203 = fun fu oR => compF Pr fu oR 203 2 := by kernel_rfl

def F204 (fu : Nat) (oR : Orc) (cl : CL) (args : List AV) (h1 : Heap) (kr : KR) (kp : KP) : Ans := AR1 args fun x0 =>
 BOX 138 x0 h1 fun x2 h3 =>
 LD x2 h3 fun x4 =>
 cl n257 [x4, (.func (.func 258) [] [x2])] h3 (fun x5 h6 =>
 kr x5 h6) kp

theorem eqF204 : F204 = fun fu oR => compF Pr fu oR 204 1 := by kernel_rfl

def B205x39 (h9 : Heap) (cl : CL) (x0 : AV) (x8 : AV) (j10 : AV → Heap → Ans) (kp : KP) (kr : KR) : Ans := BSL n9 n1 [(.str n0 n0)] n1 [(n0, (.str n1 n125))] h9 fun x11 h12 =>
 cl n203 [x0, x11] h12 (fun x13 h14 =>
 OV (unOpA .not x13) fun x17 =>
 IFB x17 (cl n261 [x0] h14 (fun x18 h19 =>
 BSL n3 n1 [(.int .i64 n0)] n1 [(n0, x18)] h19 fun x22 h23 =>
 GEN (builtinF .append Pr [106, 106] [x8, x22] h23) cl (fun x24 h25 =>
 j10 x24 h25) kp) kp)
 (NC x0 fun x28 =>
 FA n1 x28 fun x29 =>
 LD x29 h14 fun x30 =>
 ADD Pr 3 true x30 (.int .i64 n1) fun x31 =>
 NC x0 fun x32 =>
 FA n1 x32 fun x33 =>
 ST n1 x33 x31 h14 fun h34 =>
 cl n260 [x0, (.int .i64 n53), x8] h34 (fun x35 h36 =>
 kr x35 h36) kp)) kp
def F205 (fu : Nat) (oR : Orc) (cl : CL) (args : List AV) (h1 : Heap) (kr : KR) (kp : KP) : Ans := AR1 args fun x0 =>
 cl n202 [x0, (.str n1 n123)] h1 (fun x2 h3 =>
 BSL n3 n1 [] n0 [] h3 fun x6 h7 =>
 LP fu (fun _ _ => Ans.no) (fun j10 x8 h9 =>
 B205x39 h9 cl x0 x8 j10 kp kr) x6 h7) kp

theorem eqF205 : F205 = fun fu oR => compF Pr fu oR 205 1 := by kernel_rfl

def F206 (fu : Nat) (oR : Orc) (cl : CL) (args : List AV) (h1 : Heap) (kr : KR) (kp : KP) : Ans := AR1 args fun x0 =>
 NEWC (.n (some (.int .i64 n0)) (.n (some (.int .i64 n0)) .e .e) (.n (some (.str n0 n0)) .e .e)) n3 44 h1 fun x2 h3 =>
 BOP Pr .mul 3 true x0 (.int .i64 (nat_lit 1000000)) fun x4 =>
 OV (buildA Pr 44 [(n0, (.int .i64 n1)), (n1, x4)]) fun x5 =>
 ST n3 x2 x5 h3 fun h6 =>
 LDN n3 x2 h6 fun x7 =>
 kr x7 h6

theorem eqF206 : F206 = fun fu oR => compF Pr fu oR 206 1 := by kernel_rfl

def B209x30 (x6 : AV) (kr : KR) (x13 : AV) (x15 : AV) (h16 : Heap) : Ans := JO (fun x17 h18 =>
 JO (fun x19 h20 =>
 JO (fun x21 h22 =>
 SEL x6 x21 (.bool false) fun x23 =>
 kr x23 h22) fun j24 =>
 GW true x6 (SEL x13 (.bool true) x19 fun x25 =>
 j24 x25 h20)
 (j24 undefA h20)) fun j26 =>
 GW false x13 (EQL Pr 9 true x17 (.str n2 (nat_lit 17998)) fun x27 =>
 j26 x27 h18)
 (j26 undefA h18)) fun j28 =>
 GW false x13 (LD x15 h16 fun x29 =>
 j28 x29 h16)
 (j28 undefA h16)
def B209x36 (x6 : AV) (kr : KR) (x2 : AV) (x9 : AV) (h10 : Heap) : Ans := JO (fun x11 h12 =>
 JO (fun x13 h14 =>
 JO (fun x15 h16 =>
 B209x30 x6 kr x13 x15 h16) fun j31 =>
 GW false x13 (FA n1 x2 fun x32 =>
 j31 x32 h14)
 (j31 undefA h14)) fun j33 =>
 GW true x6 (j33 x11 h12)
 (j33 undefA h12)) fun j34 =>
 GW true x6 (EQL Pr 9 true x9 (.str n2 (nat_lit 21070)) fun x35 =>
 j34 x35 h10)
 (j34 undefA h10)
def F209 (fu : Nat) (oR : Orc) (cl : CL) (args : List AV) (h1 : Heap) (kr : KR) (kp : KP) : Ans := AR1 args fun x0 =>
 BOX 184 x0 h1 fun x2 h3 =>
 FA n0 x2 fun x4 =>
 LD x4 h3 fun x5 =>
 EQL Pr 9 true x5 (.str n0 n0) fun x6 =>
 JO (fun x7 h8 =>
 JO (fun x9 h10 =>
 B209x36 x6 kr x2 x9 h10) fun j37 =>
 GW true x6 (LD x7 h8 fun x38 =>
 j37 x38 h8)
 (j37 undefA h8)) fun j39 =>
 GW true x6 (FA n1 x2 fun x40 =>
 j39 x40 h3)
 (j39 undefA h3)

theorem eqF209 : F209 = fun fu oR => compF Pr fu oR 209 1 := by kernel_rfl

def B210x25 (x3 : AV) (x8 : AV) (kr : KR) (h9 : Heap) : Ans := JO (fun h10 =>
 FA n1 x3 fun x11 =>
 LD x11 h10 fun x12 =>
 OV (lookupA Pr h10 55 x8 x12 false) fun x13 =>
 kr x13 h10) fun j14 =>
 FA n1 x3 fun x15 =>
 LD x15 h9 fun x16 =>
 OV (lookupA Pr h9 55 x8 x16 false) fun x17 =>
 EQL Pr 230 true x17 (.nilp) fun x18 =>
 IFB x18 (FA n1 x3 fun x19 =>
 LD x19 h9 fun x20 =>
 OV (buildA Pr 272 []) fun x21 =>
 BOX 272 x21 h9 fun x22 h23 =>
 OSK (mapUpdateA Pr h23 55 x8 x20 x22) fun h24 =>
 j14  h24)
 (j14  h9)
def F210 (fu : Nat) (oR : Orc) (cl : CL) (args : List AV) (h2 : Heap) (kr : KR) (kp : KP) : Ans := AR2 args fun x0 x1 =>
 BOX 184 x1 h2 fun x3 h4 =>
 NC x0 fun x5 =>
 FA n3 x5 fun x6 =>
 LD x6 h4 fun x7 =>
 JO (fun x8 h9 =>
 B210x25 x3 x8 kr h9) fun j26 =>
 FA n0 x3 fun x27 =>
 LD x27 h4 fun x28 =>
 NEQ Pr 9 true x28 (.str n0 n0) fun x29 =>
 IFB x29 (NC x0 fun x30 =>
 FA n4 x30 fun x31 =>
 LD x31 h4 fun x32 =>
 NC x0 fun x33 =>
 FA n4 x33 fun x34 =>
 LD x34 h4 fun x35 =>
 LENS x35 fun x36 =>
 SUB Pr 3 true x36 (.int .i64 n1) fun x37 =>
 SA n1 x32 x37 fun x38 =>
 LD x38 h4 fun x39 =>
 j26 x39 h4)
 (j26 x7 h4)

theorem eqF210 : F210 = fun fu oR => compF Pr fu oR 210 2 := by kernel_rfl

def F211 (fu : Nat) (oR : Orc) (cl : CL) (args : List AV) (h1 : Heap) (kr : KR) (kp : KP) : Ans := AR1 args fun x0 =>
 NEWC (.n (some (.int .i64 n0)) (.n (some (.int .i64 n0)) .e .e) (.n (some (.str n0 n0)) .e .e)) n3 44 h1 fun x2 h3 =>
 JO (fun h4 =>
 NC x0 fun x5 =>
 FA n0 x5 fun x6 =>
 LD x6 h4 fun x7 =>
 NC x7 fun x8 =>
 LDN n3 x8 h4 fun x9 =>
 ST n3 x2 x9 h4 fun h10 =>
 LDN n3 x2 h10 fun x11 =>
 kr x11 h10) fun j12 =>
 cl n264 [x0] h3 (fun x13 h14 =>
 IFB x13 (GEN (panA (.iface n85 (.int .i64 n7)) h14) cl (fun x17 h18 =>
 j12  h18) kp)
 (NC x0 fun x21 =>
 FA n0 x21 fun x22 =>
 LD x22 h14 fun x23 =>
 EQL Pr 270 true x23 (.nilp) fun x24 =>
 IFB x24 (OV (buildA Pr 44 []) fun x25 =>
 ST n3 x2 x25 h14 fun h26 =>
 LDN n3 x2 h26 fun x27 =>
 kr x27 h26)
 (j12  h14))) kp

theorem eqF211 : F211 = fun fu oR => compF Pr fu oR 211 1 := by kernel_rfl

def F212 (fu : Nat) (oR : Orc) (cl : CL) (args : List AV) (h4 : Heap) (kr : KR) (kp : KP) : Ans := AR4 args fun x0 x1 x2 x3 =>
 BOX 184 x1 h4 fun x5 h6 =>
 NC x0 fun x7 =>
 FA n5 x7 fun x8 =>
 LD x8 h6 fun x9 =>
 FA n0 x5 fun x10 =>
 LD x10 h6 fun x11 =>
 FA n1 x5 fun x12 =>
 LD x12 h6 fun x13 =>
 OV (buildA Pr 65 [(n0, x11), (n1, x13), (n2, x2)]) fun x14 =>
 OV (lookupA Pr h6 56 x9 x14 false) fun x15 =>
 BOP Pr .shl 3 true (.int .i64 n1) x3 fun x16 =>
 BOP Pr .or 3 false x15 x16 fun x17 =>
 OVH (mapEntryA Pr h6 56 x9 x14) fun x18 h19 =>
 OV (lookupA Pr h19 56 x9 x14 false) fun x20 =>
 EQV x15 x20 <|
 EX n1 x18 fun x21 =>
 OSK (entryStoreA h19 x9 x21 x17) fun h22 =>
 kr (.tuple []) h22

theorem eqF212 : F212 = fun fu oR => compF Pr fu oR 212 4 := by kernel_rfl

def F213 (fu : Nat) (oR : Orc) (cl : CL) (args : List AV) (h2 : Heap) (kr : KR) (kp : KP) : Ans := AR2 args fun x0 x1 =>
 cl n265 [x0, x1] h2 (fun x3 h4 =>
 GEQ Pr 3 true x3 (.int .i64 n0) fun x7 =>
 kr x7 h4) kp

theorem eqF213 : F213 = fun fu oR => compF Pr fu oR 213 2 := by kernel_rfl

def F214 (fu : Nat) (oR : Orc) (cl : CL) (args : List AV) (h1 : Heap) (kr : KR) (kp : KP) : Ans := AR1 args fun x0 =>
 NEWC (.n (some (.int .i64 n0)) (.n (some (.int .i64 n0)) .e .e) (.n (some (.str n0 n0)) .e .e)) n3 44 h1 fun x2 h3 =>
 cl n266 [x0] h3 (fun x4 h5 =>
 IFB x4 (cl n191 [x0] h5 (fun x8 h9 =>
 EX n0 x8 fun x12 =>
 EX n1 x8 fun x13 =>
 OV (buildA Pr 44 [(n0, (.int .i64 n3)), (n1, x12), (n2, x0)]) fun x14 =>
 ST n3 x2 x14 h9 fun h15 =>
 LDN n3 x2 h15 fun x16 =>
 kr x16 h15) kp)
 (OV (buildA Pr 44 [(n0, (.int .i64 n2)), (n2, x0)]) fun x17 =>
 ST n3 x2 x17 h5 fun h18 =>
 LDN n3 x2 h18 fun x19 =>
 kr x19 h18)) kp

theorem eqF214 : F214 = fun fu oR => compF Pr fu oR 214 1 := by kernel_rfl

def F215 (fu : Nat) (oR : Orc) (cl : CL) (args : List AV) (h1 : Heap) (kr : KR) (kp : KP) : Ans := AR1 args fun x0 =>
 cl n185 [x0] h1 (fun x2 h3 =>
 OV (unOpA .not x2) fun x6 =>
 IFB x6 (kr (.int .i64 n0) h3)
 (BOP Pr .quo 3 true x0 (.int .i64 (nat_lit 1000000)) fun x7 =>
 BOP Pr .mul 3 true x7 (.int .i64 (nat_lit 1000000)) fun x8 =>
 kr x8 h3)) kp

theorem eqF215 : F215 = fun fu oR => compF Pr fu oR 215 1 := by kernel_rfl

def F216 (fu : Nat) (oR : Orc) (cl : CL) (args : List AV) (h1 : Heap) (kr : KR) (kp : KP) : Ans := AR1 args fun x0 =>
 BOX 44 x0 h1 fun x2 h3 =>
 FA n0 x2 fun x4 =>
 LD x4 h3 fun x5 =>
 EQL Pr 3 true x5 (.int .i64 n2) fun x6 =>
 IFB x6 (FA n2 x2 fun x7 =>
 LD x7 h3 fun x8 =>
 cl n191 [x8] h3 (fun x9 h10 =>
 EX n0 x9 fun x13 =>
 EX n1 x9 fun x14 =>
 kr x13 h10) kp)
 (FA n1 x2 fun x15 =>
 LD x15 h3 fun x16 =>
 kr x16 h3)

theorem eqF216 : F216 = fun fu oR => compF Pr fu oR 216 1 := by kernel_rfl

def B217x43 (x27 : AV) (cl : CL) (j20 : Heap → Ans) (kp : KP) (h29 : Heap) (x28 : AV) : Ans := JO (fun x30 h31 =>
 JO (fun x32 h33 =>
 SEL x27 x32 (.bool false) fun x34 =>
 IFB x34 (GEN (panA (.iface n85 (.int .i64 n5)) h33) cl (fun x35 h36 =>
 j20  h36) kp)
 (j20  h33)) fun j39 =>
 GW true x27 (EQL Pr 3 true x30 (.int .i64 n60) fun x40 =>
 j39 x40 h31)
 (j39 undefA h31)) fun j41 =>
 GW true x27 (OV (lenA Pr h29 189 x28) fun x42 =>
 j41 x42 h29)
 (j41 undefA h29)
def F217 (fu : Nat) (oR : Orc) (cl : CL) (args : List AV) (h5 : Heap) (kr : KR) (kp : KP) : Ans := AR5 args fun x0 x1 x2 x3 x4 =>
 BOX 184 x1 h5 fun x6 h7 =>
 BOX 44 x4 h7 fun x8 h9 =>
 JO (fun h10 =>
 LDN n3 x8 h10 fun x11 =>
 OSK (mapUpdateA Pr h10 189 x2 x3 x11) fun h12 =>
 LDN n3 x6 h12 fun x13 =>
 FA n0 x8 fun x14 =>
 LD x14 h12 fun x15 =>
 cl n212 [x0, x13, (.int .i64 n1), x15] h12 (fun x16 h17 =>
 kr (.tuple []) h17) kp) fun j20 =>
 OV (lookupA Pr h9 189 x2 x3 true) fun x21 =>
 EX n0 x21 fun x22 =>
 EX n1 x21 fun x23 =>
 NEWC (.n (some (.int .i64 n0)) (.n (some (.int .i64 n0)) .e .e) (.n (some (.str n0 n0)) .e .e)) n3 44 h9 fun x24 h25 =>
 ST n3 x24 x22 h25 fun h26 =>
 OV (unOpA .not x23) fun x27 =>
 JO (fun x28 h29 =>
 B217x43 x27 cl j20 kp h29 x28) fun j44 =>
 GW true x27 (j44 x2 h26)
 (j44 undefA h26)

theorem eqF217 : F217 = fun fu oR => compF Pr fu oR 217 5 := by kernel_rfl

def B218x72 (x0 : AV) (h47 : Heap) (cl : CL) (j6 : Heap → Ans) (kp : KP) : Ans := NC x0 fun x53 =>
 FA n2 x53 fun x54 =>
 LD x54 h47 fun x55 =>
 NEQ Pr 230 true x55 (.nilp) fun x56 =>
 IFB x56 (NC x0 fun x57 =>
 FA n2 x57 fun x58 =>
 LD x58 h47 fun x59 =>
 cl n218 [x59] h47 (fun x60 h61 =>
 NC x0 fun x64 =>
 FA n1 x64 fun x65 =>
 ST n1 x65 x60 h61 fun h66 =>
 j6  h66) kp)
 (OPVH (newMap Pr 189 h47) fun x67 h68 =>
 NC x0 fun x69 =>
 FA n1 x69 fun x70 =>
 ST n1 x70 x67 h68 fun h71 =>
 j6  h71)
def B218x77 (x17 : AV) (cl : CL) (j6 : Heap → Ans) (kp : KP) (x0 : AV) (x28 : AV) (x42 : AV) (h43 : Heap) : Ans := JO (fun x44 h45 =>
 JO (fun x46 h47 =>
 SEL x17 (.bool true) x46 fun x48 =>
 IFB x48 (GEN (panA (.iface n85 (.int .i64 n8)) h47) cl (fun x49 h50 =>
 j6  h50) kp)
 (B218x72 x0 h47 cl j6 kp)) fun j73 =>
 GW false x17 (SEL x28 x44 (.bool false) fun x74 =>
 j73 x74 h45)
 (j73 undefA h45)) fun j75 =>
 GW true x28 (NEQ Pr 270 true x42 (.nilp) fun x76 =>
 j75 x76 h43)
 (j75 undefA h43)
def B218x84 (x17 : AV) (cl : CL) (j6 : Heap → Ans) (kp : KP) (x0 : AV) (x28 : AV) (x36 : AV) (h37 : Heap) : Ans := JO (fun x38 h39 =>
 JO (fun x40 h41 =>
 JO (fun x42 h43 =>
 B218x77 x17 cl j6 kp x0 x28 x42 h43) fun j78 =>
 GW true x28 (LD x40 h41 fun x79 =>
 j78 x79 h41)
 (j78 undefA h41)) fun j80 =>
 GW true x28 (FA n0 x38 fun x81 =>
 j80 x81 h39)
 (j80 undefA h39)) fun j82 =>
 GW true x28 (NC x36 fun x83 =>
 j82 x83 h37)
 (j82 undefA h37)
def B218x91 (x17 : AV) (cl : CL) (j6 : Heap → Ans) (kp : KP) (x0 : AV) (x28 : AV) (x30 : AV) (h31 : Heap) : Ans := JO (fun x32 h33 =>
 JO (fun x34 h35 =>
 JO (fun x36 h37 =>
 B218x84 x17 cl j6 kp x0 x28 x36 h37) fun j85 =>
 GW true x28 (LD x34 h35 fun x86 =>
 j85 x86 h35)
 (j85 undefA h35)) fun j87 =>
 GW true x28 (FA n2 x32 fun x88 =>
 j87 x88 h33)
 (j87 undefA h33)) fun j89 =>
 GW true x28 (NC x30 fun x90 =>
 j89 x90 h31)
 (j89 undefA h31)
def B218x96 (x17 : AV) (cl : CL) (j6 : Heap → Ans) (kp : KP) (x0 : AV) (x24 : AV) (h25 : Heap) : Ans := JO (fun x26 h27 =>
 JO (fun x28 h29 =>
 JO (fun x30 h31 =>
 B218x91 x17 cl j6 kp x0 x28 x30 h31) fun j92 =>
 GW true x28 (j92 x0 h29)
 (j92 undefA h29)) fun j93 =>
 GW false x17 (j93 x26 h27)
 (j93 undefA h27)) fun j94 =>
 GW false x17 (NEQ Pr 230 true x24 (.nilp) fun x95 =>
 j94 x95 h25)
 (j94 undefA h25)
def B218x103 (x17 : AV) (cl : CL) (j6 : Heap → Ans) (kp : KP) (x0 : AV) (x18 : AV) (h19 : Heap) : Ans := JO (fun x20 h21 =>
 JO (fun x22 h23 =>
 JO (fun x24 h25 =>
 B218x96 x17 cl j6 kp x0 x24 h25) fun j97 =>
 GW false x17 (LD x22 h23 fun x98 =>
 j97 x98 h23)
 (j97 undefA h23)) fun j99 =>
 GW false x17 (FA n2 x20 fun x100 =>
 j99 x100 h21)
 (j99 undefA h21)) fun j101 =>
 GW false x17 (NC x18 fun x102 =>
 j101 x102 h19)
 (j101 undefA h19)
def F218 (fu : Nat) (oR : Orc) (cl : CL) (args : List AV) (h1 : Heap) (kr : KR) (kp : KP) : Ans := AR1 args fun x0 =>
 JO (fun h2 =>
 NC x0 fun x3 =>
 FA n1 x3 fun x4 =>
 LD x4 h2 fun x5 =>
 kr x5 h2) fun j6 =>
 cl n264 [x0] h1 (fun x7 h8 =>
 IFB x7 (NC x0 fun x11 =>
 FA n1 x11 fun x12 =>
 LD x12 h8 fun x13 =>
 kr x13 h8)
 (NC x0 fun x14 =>
 FA n0 x14 fun x15 =>
 LD x15 h8 fun x16 =>
 NEQ Pr 270 true x16 (.nilp) fun x17 =>
 JO (fun x18 h19 =>
 B218x103 x17 cl j6 kp x0 x18 h19) fun j104 =>
 GW false x17 (j104 x0 h8)
 (j104 undefA h8))) kp

theorem eqF218 : F218 = fun fu oR => compF Pr fu oR 218 1 := by kernel_rfl

def B220x70 (x60 : AV) (x8 : AV) (h62 : Heap) (kr : KR) (x61 : AV) : Ans := OV (unOpA .not x60) fun x63 =>
 IFB x63 (OV (buildA Pr 44 []) fun x64 =>
 ST n3 x8 x64 h62 fun h65 =>
 LDN n3 x8 h65 fun x66 =>
 kr (.tuple [x66, (.int .i64 n1)]) h65)
 (OV (buildA Pr 44 [(n0, (.int .i64 n1)), (n1, x61)]) fun x67 =>
 ST n3 x8 x67 h62 fun h68 =>
 LDN n3 x8 h68 fun x69 =>
 kr (.tuple [x69, (.int .i64 n0)]) h68)
def B220x107 (x0 : AV) (cl : CL) (x34 : AV) (x39 : AV) (h55 : Heap) (j71 : AV → AV → Heap → Ans) (kp : KP) : Ans := EQL Pr 3 true x0 (.int .i64 n23) fun x93 =>
 IFB x93 (cl n272 [x34, x39] h55 (fun x94 h95 =>
 EX n0 x94 fun x98 =>
 EX n1 x94 fun x99 =>
 j71 x99 x98 h95) kp)
 (EQL Pr 3 true x0 (.int .i64 n24) fun x100 =>
 IFB x100 (cl n273 [x34, x39] h55 (fun x101 h102 =>
 EX n0 x101 fun x105 =>
 EX n1 x101 fun x106 =>
 j71 x106 x105 h102) kp)
 (j71 (.bool false) (.int .i64 n0) h55))
def B220x108 (x0 : AV) (cl : CL) (x34 : AV) (x39 : AV) (h55 : Heap) (j71 : AV → AV → Heap → Ans) (kp : KP) : Ans := EQL Pr 3 true x0 (.int .i64 n21) fun x79 =>
 IFB x79 (cl n270 [x34, x39] h55 (fun x80 h81 =>
 EX n0 x80 fun x84 =>
 EX n1 x80 fun x85 =>
 j71 x85 x84 h81) kp)
 (EQL Pr 3 true x0 (.int .i64 n22) fun x86 =>
 IFB x86 (cl n271 [x34, x39] h55 (fun x87 h88 =>
 EX n0 x87 fun x91 =>
 EX n1 x87 fun x92 =>
 j71 x92 x91 h88) kp)
 (B220x107 x0 cl x34 x39 h55 j71 kp))
def B220x109 (x43 : AV) (x54 : AV) (x8 : AV) (h55 : Heap) (kr : KR) (x0 : AV) (cl : CL) (x34 : AV) (x39 : AV) (kp : KP) : Ans := SEL x43 x54 (.bool false) fun x56 =>
 IFB x56 (OV (buildA Pr 44 []) fun x57 =>
 ST n3 x8 x57 h55 fun h58 =>
 LDN n3 x8 h58 fun x59 =>
 kr (.tuple [x59, (.int .i64 n2)]) h58)
 (JO (fun x60 x61 h62 =>
 B220x70 x60 x8 h62 kr x61) fun j71 =>
 EQL Pr 3 true x0 (.int .i64 n20) fun x72 =>
 IFB x72 (cl n269 [x34, x39] h55 (fun x73 h74 =>
 EX n0 x73 fun x77 =>
 EX n1 x73 fun x78 =>
 j71 x78 x77 h74) kp)
 (B220x108 x0 cl x34 x39 h55 j71 kp))
def B220x115 (x43 : AV) (x8 : AV) (kr : KR) (x0 : AV) (cl : CL) (x34 : AV) (x39 : AV) (kp : KP) (x48 : AV) (h49 : Heap) : Ans := JO (fun x50 h51 =>
 JO (fun x52 h53 =>
 JO (fun x54 h55 =>
 B220x109 x43 x54 x8 h55 kr x0 cl x34 x39 kp) fun j110 =>
 GW true x43 (SEL x48 (.bool true) x52 fun x111 =>
 j110 x111 h53)
 (j110 undefA h53)) fun j112 =>
 GW false x48 (EQL Pr 3 true x50 (.int .i64 n24) fun x113 =>
 j112 x113 h51)
 (j112 undefA h51)) fun j114 =>
 GW false x48 (j114 x0 h49)
 (j114 undefA h49)
def B220x120 (x4 : AV) (h27 : Heap) (x6 : AV) (cl : CL) (x8 : AV) (kr : KR) (x0 : AV) (kp : KP) : Ans := LDN n3 x4 h27 fun x32 =>
 LDN n3 x6 h27 fun x33 =>
 cl n216 [x32] h27 (fun x34 h35 =>
 LDN n3 x6 h35 fun x38 =>
 EQV x33 x38 <|
 cl n216 [x33] h35 (fun x39 h40 =>
 EQL Pr 3 true x39 (.int .i64 n0) fun x43 =>
 JO (fun x44 h45 =>
 JO (fun x46 h47 =>
 JO (fun x48 h49 =>
 B220x115 x43 x8 kr x0 cl x34 x39 kp x48 h49) fun j116 =>
 GW true x43 (j116 x46 h47)
 (j116 undefA h47)) fun j117 =>
 GW true x43 (EQL Pr 3 true x44 (.int .i64 n23) fun x118 =>
 j117 x118 h45)
 (j117 undefA h45)) fun j119 =>
 GW true x43 (j119 x0 h40)
 (j119 undefA h40)) kp) kp
def B220x123 (x21 : AV) (x8 : AV) (kr : KR) (x4 : AV) (x6 : AV) (cl : CL) (x0 : AV) (kp : KP) (x24 : AV) (h25 : Heap) : Ans := JO (fun x26 h27 =>
 SEL x21 (.bool true) x26 fun x28 =>
 IFB x28 (OV (buildA Pr 44 []) fun x29 =>
 ST n3 x8 x29 h27 fun h30 =>
 LDN n3 x8 h30 fun x31 =>
 kr (.tuple [x31, (.int .i64 n3)]) h30)
 (B220x120 x4 h27 x6 cl x8 kr x0 kp)) fun j121 =>
 GW false x21 (OV (unOpA .not x24) fun x122 =>
 j121 x122 h25)
 (j121 undefA h25)
def B220x131 (x14 : AV) (x19 : AV) (x8 : AV) (kr : KR) (x4 : AV) (x6 : AV) (cl : CL) (x0 : AV) (kp : KP) (h20 : Heap) : Ans := SEL x14 (.bool true) x19 fun x21 =>
 JO (fun x22 h23 =>
 JO (fun x24 h25 =>
 B220x123 x21 x8 kr x4 x6 cl x0 kp x24 h25) fun j124 =>
 GW false x21 (cl n232 [x22] h23 (fun x125 h126 =>
 j124 x125 h126) kp)
 (j124 undefA h23)) fun j129 =>
 GW false x21 (LDN n3 x6 h20 fun x130 =>
 j129 x130 h20)
 (j129 undefA h20)
def F220 (fu : Nat) (oR : Orc) (cl : CL) (args : List AV) (h3 : Heap) (kr : KR) (kp : KP) : Ans := AR3 args fun x0 x1 x2 =>
 BOX 44 x1 h3 fun x4 h5 =>
 BOX 44 x2 h5 fun x6 h7 =>
 NEWC (.n (some (.int .i64 n0)) (.n (some (.int .i64 n0)) .e .e) (.n (some (.str n0 n0)) .e .e)) n3 44 h7 fun x8 h9 =>
 cl n24 [x0, (.int .i64 n20), (.int .i64 n24)] h9 (fun x10 h11 =>
 OV (unOpA .not x10) fun x14 =>
 JO (fun x15 h16 =>
 JO (fun x17 h18 =>
 JO (fun x19 h20 =>
 B220x131 x14 x19 x8 kr x4 x6 cl x0 kp h20) fun j132 =>
 GW false x14 (OV (unOpA .not x17) fun x133 =>
 j132 x133 h18)
 (j132 undefA h18)) fun j134 =>
 GW false x14 (cl n232 [x15] h16 (fun x135 h136 =>
 j134 x135 h136) kp)
 (j134 undefA h16)) fun j139 =>
 GW false x14 (LDN n3 x4 h11 fun x140 =>
 j139 x140 h11)
 (j139 undefA h11)) kp

theorem eqF220 : F220 = fun fu oR => compF Pr fu oR 220 3 := by kernel_rfl

def F221 (fu : Nat) (oR : Orc) (cl : CL) (args : List AV) (h2 : Heap) (kr : KR) (kp : KP) : Ans := AR2 args fun x0 x1 =>
 BOX 9 x1 h2 fun x3 h4 =>
 NC x0 fun x5 =>
 FA n1 x5 fun x6 =>
 LD x6 h4 fun x7 =>
 cl n41 [x7, (.func (.func 274) [] [x3])] h4 (fun x8 h9 =>
 kr x8 h9) kp

theorem eqF221 : F221 = fun fu oR => compF Pr fu oR 221 2 := by kernel_rfl

def B222x49 (cl : CL) (x0 : AV) (x1 : AV) (h30 : Heap) (x4 : AV) (kr : KR) (kp : KP) : Ans := cl n89 [x0, x1] h30 (fun x32 h33 =>
 NEWC (.n (some (.int .i64 n0)) (.n (some (.int .i64 n0)) .e .e) (.n (some (.str n0 n0)) .e .e)) n3 44 h33 fun x36 h37 =>
 ST n3 x36 x32 h37 fun h38 =>
 LDN n3 x4 h38 fun x39 =>
 FA n0 x36 fun x40 =>
 LD x40 h38 fun x41 =>
 cl n212 [x0, x39, (.int .i64 n0), x41] h38 (fun x42 h43 =>
 OV (buildA Pr 272 [(n0, x36)]) fun x46 =>
 BOX 272 x46 h43 fun x47 h48 =>
 kr x47 h48) kp) kp
def B222x91 (x55 : AV) (h60 : Heap) (x4 : AV) (cl : CL) (x0 : AV) (kr : KR) (kp : KP) : Ans := NC x55 fun x73 =>
 FA n0 x73 fun x74 =>
 LD x74 h60 fun x75 =>
 NC x75 fun x76 =>
 LDN n3 x76 h60 fun x77 =>
 NEWC (.n (some (.int .i64 n0)) (.n (some (.int .i64 n0)) .e .e) (.n (some (.str n0 n0)) .e .e)) n3 44 h60 fun x78 h79 =>
 ST n3 x78 x77 h79 fun h80 =>
 LDN n3 x4 h80 fun x81 =>
 FA n0 x78 fun x82 =>
 LD x82 h80 fun x83 =>
 cl n212 [x0, x81, (.int .i64 n0), x83] h80 (fun x84 h85 =>
 OV (buildA Pr 272 [(n0, x78)]) fun x88 =>
 BOX 272 x88 h85 fun x89 h90 =>
 kr x89 h90) kp
def B222x95 (cl : CL) (x0 : AV) (x1 : AV) (h30 : Heap) (x21 : AV) (kr : KR) (x4 : AV) (kp : KP) : Ans := cl n137 [x0, x1] h30 (fun x50 h51 =>
 LDN n3 x21 h51 fun x54 =>
 cl n210 [x0, x54] h51 (fun x55 h56 =>
 cl n264 [x55] h56 (fun x59 h60 =>
 IFB x59 (NC x55 fun x63 =>
 FA n1 x63 fun x64 =>
 LD x64 h60 fun x65 =>
 OV (buildA Pr 272 [(n1, x65)]) fun x66 =>
 BOX 272 x66 h60 fun x67 h68 =>
 kr x67 h68)
 (NC x55 fun x69 =>
 FA n0 x69 fun x70 =>
 LD x70 h60 fun x71 =>
 NEQ Pr 270 true x71 (.nilp) fun x72 =>
 IFB x72 (B222x91 x55 h60 x4 cl x0 kr kp)
 (OV (buildA Pr 272 [(n2, x55)]) fun x92 =>
 BOX 272 x92 h60 fun x93 h94 =>
 kr x93 h94))) kp) kp) kp
def F222 (fu : Nat) (oR : Orc) (cl : CL) (args : List AV) (h3 : Heap) (kr : KR) (kp : KP) : Ans := AR3 args fun x0 x1 x2 =>
 BOX 184 x2 h3 fun x4 h5 =>
 NC x0 fun x6 =>
 FA n0 x6 fun x7 =>
 FA n0 x7 fun x8 =>
 LD x8 h5 fun x9 =>
 SA n5 x9 x1 fun x10 =>
 LDN n5 x10 h5 fun x11 =>
 NEWC (.n (some (.int .i64 n0)) (.n (some (.str n0 n0)) (.n (some (.int .i64 n0)) .e .e) .e) (.n (some (.str n0 n0)) (.n (some (.nilslice)) .e .e) .e)) n5 108 h5 fun x12 h13 =>
 ST n5 x12 x11 h13 fun h14 =>
 FA n1 x12 fun x15 =>
 LD x15 h14 fun x16 =>
 cl n143 [x0, x1, x16] h14 (fun x17 h18 =>
 NEWC (.n (some (.str n0 n0)) (.n (some (.str n0 n0)) .e .e) (.n (some (.int .i64 n0)) .e .e)) n3 184 h18 fun x21 h22 =>
 ST n3 x21 x17 h22 fun h23 =>
 FA n0 x12 fun x24 =>
 LD x24 h23 fun x25 =>
 NEQ Pr 3 true x25 (.int .i64 n3) fun x26 =>
 JO (fun x27 h28 =>
 JO (fun x29 h30 =>
 SEL x26 (.bool true) x29 fun x31 =>
 IFB x31 (B222x49 cl x0 x1 h30 x4 kr kp)
 (B222x95 cl x0 x1 h30 x21 kr x4 kp)) fun j96 =>
 GW false x26 (cl n209 [x27] h28 (fun x97 h98 =>
 j96 x97 h98) kp)
 (j96 undefA h28)) fun j101 =>
 GW false x26 (LDN n3 x21 h23 fun x102 =>
 j101 x102 h23)
 (j101 undefA h23)) kp

theorem eqF222 : F222 = fun fu oR => compF Pr fu oR 222 3 := by kernel_rfl

def F230 (fu : Nat) (oR : Orc) (cl : CL) (args : List AV) (h2 : Heap) (kr : KR) (kp : KP) : Ans := AR2 args fun x0 x1 =>
 BOX 44 x1 h2 fun x3 h4 =>
 JO (fun h5 =>
 NC x0 fun x6 =>
 FA n0 x6 fun x7 =>
 ST n1 x7 x3 h5 fun h8 =>
 kr (.tuple []) h8) fun j9 =>
 cl n264 [x0] h4 (fun x10 h11 =>
 IFB x10 (GEN (panA (.iface n85 (.int .i64 n7)) h11) cl (fun x14 h15 =>
 j9  h15) kp)
 (j9  h11)) kp

theorem eqF230 : F230 = fun fu oR => compF Pr fu oR 230 2 := by kernel_rfl

def B232x23 (x2 : AV) (h3 : Heap) (kr : KR) : Ans := FA n2 x2 fun x7 =>
 LD x7 h3 fun x8 =>
 EQL Pr 9 true x8 (.str n0 n0) fun x9 =>
 JO (fun x10 h11 =>
 JO (fun x12 h13 =>
 JO (fun x14 h15 =>
 SEL x9 x14 (.bool false) fun x16 =>
 kr x16 h15) fun j17 =>
 GW true x9 (EQL Pr 3 true x12 (.int .i64 n0) fun x18 =>
 j17 x18 h13)
 (j17 undefA h13)) fun j19 =>
 GW true x9 (LD x10 h11 fun x20 =>
 j19 x20 h11)
 (j19 undefA h11)) fun j21 =>
 GW true x9 (FA n1 x2 fun x22 =>
 j21 x22 h3)
 (j21 undefA h3)
def B232x44 (x2 : AV) (h3 : Heap) (kr : KR) (cl : CL) (kp : KP) : Ans := FA n2 x2 fun x25 =>
 LD x25 h3 fun x26 =>
 EQL Pr 9 true x26 (.str n0 n0) fun x27 =>
 JO (fun x28 h29 =>
 JO (fun x30 h31 =>
 JO (fun x32 h33 =>
 SEL x27 x32 (.bool false) fun x34 =>
 kr x34 h33) fun j35 =>
 GW true x27 (cl n185 [x30] h31 (fun x36 h37 =>
 j35 x36 h37) kp)
 (j35 undefA h31)) fun j40 =>
 GW true x27 (LD x28 h29 fun x41 =>
 j40 x41 h29)
 (j40 undefA h29)) fun j42 =>
 GW true x27 (FA n1 x2 fun x43 =>
 j42 x43 h3)
 (j42 undefA h3)
def B232x63 (x2 : AV) (h3 : Heap) (kr : KR) : Ans := FA n2 x2 fun x46 =>
 LD x46 h3 fun x47 =>
 LENT x47 fun x48 =>
 LEQ Pr 3 true x48 (.int .i64 n500) fun x49 =>
 JO (fun x50 h51 =>
 JO (fun x52 h53 =>
 JO (fun x54 h55 =>
 SEL x49 x54 (.bool false) fun x56 =>
 kr x56 h55) fun j57 =>
 GW true x49 (EQL Pr 3 true x52 (.int .i64 n0) fun x58 =>
 j57 x58 h53)
 (j57 undefA h53)) fun j59 =>
 GW true x49 (LD x50 h51 fun x60 =>
 j59 x60 h51)
 (j59 undefA h51)) fun j61 =>
 GW true x49 (FA n1 x2 fun x62 =>
 j61 x62 h3)
 (j61 undefA h3)
def B232x98 (x83 : AV) (kr : KR) (x71 : AV) (x84 : AV) (h85 : Heap) : Ans := JO (fun x86 h87 =>
 JO (fun x88 h89 =>
 JO (fun x90 h91 =>
 SEL x83 x90 (.bool false) fun x92 =>
 kr x92 h91) fun j93 =>
 GW true x83 (EQL Pr 3 false x86 x88 fun x94 =>
 j93 x94 h89)
 (j93 undefA h89)) fun j95 =>
 GW true x83 (j95 x71 h87)
 (j95 undefA h87)) fun j96 =>
 GW true x83 (LD x84 h85 fun x97 =>
 j96 x97 h85)
 (j96 undefA h85)
def B232x108 (x76 : AV) (kr : KR) (x71 : AV) (x2 : AV) (cl : CL) (kp : KP) (x77 : AV) (h78 : Heap) : Ans := JO (fun x79 h80 =>
 JO (fun x81 h82 =>
 SEL x76 x81 (.bool false) fun x83 =>
 JO (fun x84 h85 =>
 B232x98 x83 kr x71 x84 h85) fun j99 =>
 GW true x83 (FA n1 x2 fun x100 =>
 j99 x100 h82)
 (j99 undefA h82)) fun j101 =>
 GW true x76 (cl n266 [x79] h80 (fun x102 h103 =>
 j101 x102 h103) kp)
 (j101 undefA h80)) fun j106 =>
 GW true x76 (LD x77 h78 fun x107 =>
 j106 x107 h78)
 (j106 undefA h78)
def B232x111 (x2 : AV) (h3 : Heap) (cl : CL) (kr : KR) (kp : KP) : Ans := FA n2 x2 fun x65 =>
 LD x65 h3 fun x66 =>
 cl n191 [x66] h3 (fun x67 h68 =>
 EX n0 x67 fun x71 =>
 EX n1 x67 fun x72 =>
 FA n2 x2 fun x73 =>
 LD x73 h68 fun x74 =>
 LENT x74 fun x75 =>
 LEQ Pr 3 true x75 (.int .i64 n500) fun x76 =>
 JO (fun x77 h78 =>
 B232x108 x76 kr x71 x2 cl kp x77 h78) fun j109 =>
 GW true x76 (FA n2 x2 fun x110 =>
 j109 x110 h68)
 (j109 undefA h68)) kp
def F232 (fu : Nat) (oR : Orc) (cl : CL) (args : List AV) (h1 : Heap) (kr : KR) (kp : KP) : Ans := AR1 args fun x0 =>
 BOX 44 x0 h1 fun x2 h3 =>
 FA n0 x2 fun x4 =>
 LD x4 h3 fun x5 =>
 EQL Pr 3 true x5 (.int .i64 n0) fun x6 =>
 IFB x6 (B232x23 x2 h3 kr)
 (EQL Pr 3 true x5 (.int .i64 n1) fun x24 =>
 IFB x24 (B232x44 x2 h3 kr cl kp)
 (EQL Pr 3 true x5 (.int .i64 n2) fun x45 =>
 IFB x45 (B232x63 x2 h3 kr)
 (EQL Pr 3 true x5 (.int .i64 n3) fun x64 =>
 IFB x64 (B232x111 x2 h3 cl kr kp)
 (kr (.bool false) h3))))

theorem eqF232 : F232 = fun fu oR => compF Pr fu oR 232 1 := by kernel_rfl

def F235 (fu : Nat) (oR : Orc) (cl : CL) (args : List AV) (h0 : Heap) (kr : KR) (kp : KP) : Ans := AR0 args <|
 BSL n9 n1 [(.str n0 n0), (.str n0 n0), (.str n0 n0), (.str n0 n0), (.str n0 n0), (.str n0 n0), (.str n0 n0), (.str n0 n0), (.str n0 n0), (.str n0 n0), (.str n0 n0), (.str n0 n0), (.str n0 n0), (.str n0 n0), (.str n0 n0), (.str n0 n0), (.str n0 n0), (.str n0 n0), (.str n0 n0), (.str n0 n0), (.str n0 n0), (.str n0 n0)] n22 [(n0, (.str n5 (nat_lit 336236856642))), (n1, (.str n3 (nat_lit 4476485))), (n2, (.str n8 (nat_lit 7957695015192261990))), (n3, (.str n2 (nat_lit 26217))), (n4, (.str n4 (nat_lit 1702063205))), (n5, (.str n5 (nat_lit 435610544247))), (n6, (.str n3 (nat_lit 7499622))), (n7, (.str n2 (nat_lit 28265))), (n8, (.str n5 (nat_lit 461195539042))), (n9, (.str n8 (nat_lit 7310870969309884259))), (n10, (.str n4 (nat_lit 1954047342))), (n11, (.str n4 (nat_lit 1953069157))), (n12, (.str n6 (nat_lit 121437875889522))), (n13, (.str n6 (nat_lit 111550592214372))), (n14, (.str n5 (nat_lit 500068610672))), (n15, (.str n6 (nat_lit 112650254643824))), (n16, (.str n6 (nat_lit 114849160783212))), (n17, (.str n6 (nat_lit 125844477605235))), (n18, (.str n5 (nat_lit 517097156201))), (n19, (.str n5 (nat_lit 499984920691))), (n20, (.str n7 (nat_lit 32199680942501748))), (n21, (.str n3 (nat_lit 7630441)))] h0 fun x1 h2 =>
 kr x1 h2

theorem eqF235 : F235 = fun fu oR => compF Pr fu oR 235 0 := by kernel_rfl

def B236x24 (cl : CL) (x0 : AV) (h10 : Heap) (x6 : AV) (j8 : AV → Heap → Ans) (kp : KP) : Ans := cl n287 [x0] h10 (fun x13 h14 =>
 BSL n3 n1 [(.int .i64 n0), (.int .i64 n0)] n2 [(n0, x6), (n1, x13)] h14 fun x17 h18 =>
 OV (buildA Pr 108 [(n0, (.int .i64 n10)), (n4, x17)]) fun x19 =>
 cl n173 [x0, x19] h18 (fun x20 h21 =>
 j8 x20 h21) kp) kp
def F236 (fu : Nat) (oR : Orc) (cl : CL) (args : List AV) (h1 : Heap) (kr : KR) (kp : KP) : Ans := AR1 args fun x0 =>
 cl n287 [x0] h1 (fun x2 h3 =>
 LP fu (fun _ _ => Ans.no) (fun j8 x6 h7 =>
 cl n111 [x0, (.str n2 (nat_lit 31868))] h7 (fun x9 h10 =>
 IFB x9 (B236x24 cl x0 h10 x6 j8 kp)
 (kr x6 h10)) kp) x2 h3) kp

theorem eqF236 : F236 = fun fu oR => compF Pr fu oR 236 1 := by kernel_rfl

def B239x34 (x3 : AV) (h18 : Heap) (cl : CL) (x0 : AV) (j16 : Heap → Ans) (kp : KP) : Ans := FA n0 x3 fun x21 =>
 ST n1 x21 (.int .i64 n41) h18 fun h22 =>
 cl n113 [x0, (.str n1 n59)] h22 (fun x23 h24 =>
 OV (unOpA .not x23) fun x27 =>
 IFB x27 (cl n289 [x0] h24 (fun x28 h29 =>
 FA n4 x3 fun x32 =>
 ST n1 x32 x28 h29 fun h33 =>
 j16  h33) kp)
 (j16  h24)) kp
def B239x84 (x3 : AV) (h66 : Heap) (cl : CL) (x0 : AV) (j16 : Heap → Ans) (kp : KP) : Ans := FA n0 x3 fun x69 =>
 ST n1 x69 (.int .i64 n50) h66 fun h70 =>
 cl n113 [x0, (.str n1 n59)] h70 (fun x71 h72 =>
 OV (unOpA .not x71) fun x75 =>
 IFB x75 (cl n114 [x0] h72 (fun x76 h77 =>
 BSL n3 n1 [(.int .i64 n0)] n1 [(n0, x76)] h77 fun x80 h81 =>
 FA n4 x3 fun x82 =>
 ST n1 x82 x80 h81 fun h83 =>
 j16  h83) kp)
 (j16  h72)) kp
def B239x104 (x3 : AV) (h86 : Heap) (cl : CL) (x0 : AV) (j16 : Heap → Ans) (kp : KP) : Ans := FA n0 x3 fun x89 =>
 ST n1 x89 (.int .i64 n51) h86 fun h90 =>
 cl n113 [x0, (.str n1 n59)] h90 (fun x91 h92 =>
 OV (unOpA .not x91) fun x95 =>
 IFB x95 (cl n114 [x0] h92 (fun x96 h97 =>
 BSL n3 n1 [(.int .i64 n0)] n1 [(n0, x96)] h97 fun x100 h101 =>
 FA n4 x3 fun x102 =>
 ST n1 x102 x100 h101 fun h103 =>
 j16  h103) kp)
 (j16  h92)) kp
def B239x133 (x3 : AV) (h106 : Heap) (cl : CL) (x0 : AV) (j16 : Heap → Ans) (kp : KP) : Ans := FA n0 x3 fun x109 =>
 ST n1 x109 (.int .i64 n52) h106 fun h110 =>
 cl n170 [x0] h110 (fun x111 h112 =>
 FA n1 x3 fun x115 =>
 ST n1 x115 x111 h112 fun h116 =>
 cl n169 [x0, (.str n1 n91)] h116 (fun x117 h118 =>
 cl n114 [x0] h118 (fun x121 h122 =>
 BSL n3 n1 [(.int .i64 n0)] n1 [(n0, x121)] h122 fun x125 h126 =>
 FA n4 x3 fun x127 =>
 ST n1 x127 x125 h126 fun h128 =>
 cl n169 [x0, (.str n1 n93)] h128 (fun x129 h130 =>
 j16  h130) kp) kp) kp) kp
def B239x142 (cl : CL) (x0 : AV) (h86 : Heap) (x3 : AV) (j16 : Heap → Ans) (kp : KP) : Ans := cl n111 [x0, (.str n6 (nat_lit 111550592214372))] h86 (fun x105 h106 =>
 IFB x105 (B239x133 x3 h106 cl x0 j16 kp)
 (cl n114 [x0] h106 (fun x134 h135 =>
 BSL n3 n1 [(.int .i64 n0)] n1 [(n0, x134)] h135 fun x138 h139 =>
 FA n4 x3 fun x140 =>
 ST n1 x140 x138 h139 fun h141 =>
 j16  h141) kp)) kp
def B239x143 (cl : CL) (x0 : AV) (h54 : Heap) (x3 : AV) (j16 : Heap → Ans) (kp : KP) : Ans := cl n111 [x0, (.str n4 (nat_lit 1954047342))] h54 (fun x59 h60 =>
 IFB x59 (FA n0 x3 fun x63 =>
 ST n1 x63 (.int .i64 n49) h60 fun h64 =>
 j16  h64)
 (cl n111 [x0, (.str n4 (nat_lit 1953069157))] h60 (fun x65 h66 =>
 IFB x65 (B239x84 x3 h66 cl x0 j16 kp)
 (cl n111 [x0, (.str n6 (nat_lit 121437875889522))] h66 (fun x85 h86 =>
 IFB x85 (B239x104 x3 h86 cl x0 j16 kp)
 (B239x142 cl x0 h86 x3 j16 kp)) kp)) kp)) kp
def B239x144 (cl : CL) (x0 : AV) (h36 : Heap) (x3 : AV) (j16 : Heap → Ans) (kp : KP) : Ans := cl n111 [x0, (.str n5 (nat_lit 461195539042))] h36 (fun x47 h48 =>
 IFB x47 (FA n0 x3 fun x51 =>
 ST n1 x51 (.int .i64 n47) h48 fun h52 =>
 j16  h52)
 (cl n111 [x0, (.str n8 (nat_lit 7310870969309884259))] h48 (fun x53 h54 =>
 IFB x53 (FA n0 x3 fun x57 =>
 ST n1 x57 (.int .i64 n48) h54 fun h58 =>
 j16  h58)
 (B239x143 cl x0 h54 x3 j16 kp)) kp)) kp
def B239x145 (cl : CL) (x0 : AV) (h18 : Heap) (x3 : AV) (j16 : Heap → Ans) (kp : KP) : Ans := cl n111 [x0, (.str n6 (nat_lit 112650254643824))] h18 (fun x35 h36 =>
 IFB x35 (FA n0 x3 fun x39 =>
 ST n1 x39 (.int .i64 n42) h36 fun h40 =>
 cl n289 [x0] h40 (fun x41 h42 =>
 FA n4 x3 fun x45 =>
 ST n1 x45 x41 h42 fun h46 =>
 j16  h46) kp)
 (B239x144 cl x0 h36 x3 j16 kp)) kp
def F239 (fu : Nat) (oR : Orc) (cl : CL) (args : List AV) (h1 : Heap) (kr : KR) (kp : KP) : Ans := AR1 args fun x0 =>
 OV (buildA Pr 108 [(n0, (.int .i64 n40))]) fun x2 =>
 NEWC (.n (some (.int .i64 n0)) (.n (some (.str n0 n0)) (.n (some (.int .i64 n0)) .e .e) .e) (.n (some (.str n0 n0)) (.n (some (.nilslice)) .e .e) .e)) n5 108 h1 fun x3 h4 =>
 ST n5 x3 x2 h4 fun h5 =>
 JO (fun h6 =>
 cl n169 [x0, (.str n1 n59)] h6 (fun x7 h8 =>
 LDN n5 x3 h8 fun x11 =>
 cl n173 [x0, x11] h8 (fun x12 h13 =>
 kr x12 h13) kp) kp) fun j16 =>
 cl n111 [x0, (.str n5 (nat_lit 500068610672))] h5 (fun x17 h18 =>
 IFB x17 (B239x34 x3 h18 cl x0 j16 kp)
 (B239x145 cl x0 h18 x3 j16 kp)) kp

theorem eqF239 : F239 = fun fu oR => compF Pr fu oR 239 1 := by kernel_rfl

def F241 (fu : Nat) (oR : Orc) (cl : CL) (args : List AV) (h2 : Heap) (kr : KR) (kp : KP) : Ans := AR2 args fun x0 x1 =>
 GEN (callF Pr h2 290 [x0, x1]) cl (fun x3 h4 =>
 kr x3 h4) kp

theorem eqF241 : F241 = fun fu oR => compF Pr fu oR 241 2 := by kernel_rfl

def F246 (fu : Nat) (oR : Orc) (cl : CL) (args : List AV) (h1 : Heap) (kr : KR) (kp : KP) : Ans := AR1 args fun x0 =>
 cl n292 [x0, (.int .i64 n10)] h1 (fun x2 h3 =>
 kr x2 h3) kp

theorem eqF246 : F246 = fun fu oR => compF Pr fu oR 246 1 := by kernel_rfl

def B247x28 (x7 : AV) (x3 : AV) (j5 : AV → Heap → Ans) (kr : KR) (x16 : AV) (x18 : AV) (h19 : Heap) : Ans := JO (fun x20 h21 =>
 SEL x7 x20 (.bool false) fun x22 =>
 IFB x22 (LENT x3 fun x23 =>
 SUB Pr 3 true x23 (.int .i64 n1) fun x24 =>
 OV (sliceA Pr 9 x3 none (some x24) none) fun x25 =>
 j5 x25 h21)
 (kr x3 h21)) fun j26 =>
 GW true x7 (EQL Pr 5 false x16 x18 fun x27 =>
 j26 x27 h19)
 (j26 undefA h19)
def B247x34 (x7 : AV) (x3 : AV) (j5 : AV → Heap → Ans) (kr : KR) (x1 : AV) (x8 : AV) (x12 : AV) (h13 : Heap) : Ans := JO (fun x14 h15 =>
 JO (fun x16 h17 =>
 JO (fun x18 h19 =>
 B247x28 x7 x3 j5 kr x16 x18 h19) fun j29 =>
 GW true x7 (j29 x1 h17)
 (j29 undefA h17)) fun j30 =>
 GW true x7 (SAT x8 x14 fun x31 =>
 j30 x31 h15)
 (j30 undefA h15)) fun j32 =>
 GW true x7 (SUB Pr 3 true x12 (.int .i64 n1) fun x33 =>
 j32 x33 h13)
 (j32 undefA h13)
def B247x39 (x3 : AV) (j5 : AV → Heap → Ans) (kr : KR) (x1 : AV) (h4 : Heap) : Ans := LENT x3 fun x6 =>
 GTR Pr 3 true x6 (.int .i64 n0) fun x7 =>
 JO (fun x8 h9 =>
 JO (fun x10 h11 =>
 JO (fun x12 h13 =>
 B247x34 x7 x3 j5 kr x1 x8 x12 h13) fun j35 =>
 GW true x7 (LENT x10 fun x36 =>
 j35 x36 h11)
 (j35 undefA h11)) fun j37 =>
 GW true x7 (j37 x3 h9)
 (j37 undefA h9)) fun j38 =>
 GW true x7 (j38 x3 h4)
 (j38 undefA h4)
def F247 (fu : Nat) (oR : Orc) (cl : CL) (args : List AV) (h2 : Heap) (kr : KR) (kp : KP) : Ans := AR2 args fun x0 x1 =>
 LP fu (fun _ _ => Ans.no) (fun j5 x3 h4 =>
 B247x39 x3 j5 kr x1 h4) x0 h2

theorem eqF247 : F247 = fun fu oR => compF Pr fu oR 247 2 := by kernel_rfl

def F252 (fu : Nat) (oR : Orc) (cl : CL) (args : List AV) (h0 : Heap) (kr : KR) (kp : KP) : Ans := AR0 args <|
 BSL n9 n1 [(.str n0 n0), (.str n0 n0), (.str n0 n0), (.str n0 n0), (.str n0 n0), (.str n0 n0), (.str n0 n0), (.str n0 n0), (.str n0 n0), (.str n0 n0), (.str n0 n0), (.str n0 n0), (.str n0 n0), (.str n0 n0), (.str n0 n0), (.str n0 n0), (.str n0 n0), (.str n0 n0), (.str n0 n0), (.str n0 n0), (.str n0 n0), (.str n0 n0)] n22 [(n0, (.str n5 (nat_lit 336236856642))), (n1, (.str n3 (nat_lit 4476485))), (n2, (.str n8 (nat_lit 7957695015192261990))), (n3, (.str n2 (nat_lit 26217))), (n4, (.str n4 (nat_lit 1702063205))), (n5, (.str n5 (nat_lit 435610544247))), (n6, (.str n3 (nat_lit 7499622))), (n7, (.str n2 (nat_lit 28265))), (n8, (.str n5 (nat_lit 461195539042))), (n9, (.str n8 (nat_lit 7310870969309884259))), (n10, (.str n4 (nat_lit 1954047342))), (n11, (.str n4 (nat_lit 1953069157))), (n12, (.str n6 (nat_lit 121437875889522))), (n13, (.str n6 (nat_lit 111550592214372))), (n14, (.str n5 (nat_lit 500068610672))), (n15, (.str n6 (nat_lit 112650254643824))), (n16, (.str n6 (nat_lit 114849160783212))), (n17, (.str n6 (nat_lit 125844477605235))), (n18, (.str n5 (nat_lit 517097156201))), (n19, (.str n5 (nat_lit 499984920691))), (n20, (.str n7 (nat_lit 32199680942501748))), (n21, (.str n3 (nat_lit 7630441)))] h0 fun x1 h2 =>
 kr x1 h2

theorem eqF252 : F252 = fun fu oR => compF Pr fu oR 252 0 := by kernel_rfl

def B253x24 (x5 : AV) (kr : KR) (x1 : AV) (x6 : AV) (x10 : AV) (h11 : Heap) : Ans := JO (fun x12 h13 =>
 JO (fun x14 h15 =>
 JO (fun x16 h17 =>
 SEL x5 x16 (.bool false) fun x18 =>
 kr x18 h17) fun j19 =>
 GW true x5 (EQL Pr 9 false x12 x14 fun x20 =>
 j19 x20 h15)
 (j19 undefA h15)) fun j21 =>
 GW true x5 (j21 x1 h13)
 (j21 undefA h13)) fun j22 =>
 GW true x5 (OV (sliceA Pr 9 x6 none (some x10) none) fun x23 =>
 j22 x23 h11)
 (j22 undefA h11)
def F253 (fu : Nat) (oR : Orc) (cl : CL) (args : List AV) (h2 : Heap) (kr : KR) (kp : KP) : Ans := AR2 args fun x0 x1 =>
 LENT x0 fun x3 =>
 LENT x1 fun x4 =>
 GEQ Pr 3 false x3 x4 fun x5 =>
 JO (fun x6 h7 =>
 JO (fun x8 h9 =>
 JO (fun x10 h11 =>
 B253x24 x5 kr x1 x6 x10 h11) fun j25 =>
 GW true x5 (LENT x8 fun x26 =>
 j25 x26 h9)
 (j25 undefA h9)) fun j27 =>
 GW true x5 (j27 x1 h7)
 (j27 undefA h7)) fun j28 =>
 GW true x5 (j28 x0 h2)
 (j28 undefA h2)

theorem eqF253 : F253 = fun fu oR => compF Pr fu oR 253 2 := by kernel_rfl

def B254x31 (x0 : AV) (h4 : Heap) (x1 : AV) (x3 : AV) (kr : KR) : Ans := NC x0 fun x20 =>
 FA n0 x20 fun x21 =>
 LD x21 h4 fun x22 =>
 NC x0 fun x23 =>
 FA n1 x23 fun x24 =>
 LD x24 h4 fun x25 =>
 ADD Pr 3 false x25 x1 fun x26 =>
 SA n4 x22 x26 fun x27 =>
 LDN n4 x27 h4 fun x28 =>
 ST n4 x3 x28 h4 fun h29 =>
 LDN n4 x3 h29 fun x30 =>
 kr x30 h29
def F254 (fu : Nat) (oR : Orc) (cl : CL) (args : List AV) (h2 : Heap) (kr : KR) (kp : KP) : Ans := AR2 args fun x0 x1 =>
 NEWC (.n (some (.int .i64 n0)) (.n (some (.str n0 n0)) (.n (some (.int .i64 n0)) .e .e) .e) (.n (some (.int .i64 n0)) .e .e)) n4 130 h2 fun x3 h4 =>
 NC x0 fun x5 =>
 FA n1 x5 fun x6 =>
 LD x6 h4 fun x7 =>
 ADD Pr 3 false x7 x1 fun x8 =>
 NC x0 fun x9 =>
 FA n0 x9 fun x10 =>
 LD x10 h4 fun x11 =>
 LENS x11 fun x12 =>
 GEQ Pr 3 false x8 x12 fun x13 =>
 IFB x13 (NC x0 fun x14 =>
 FA n2 x14 fun x15 =>
 LD x15 h4 fun x16 =>
 OV (buildA Pr 130 [(n3, x16)]) fun x17 =>
 ST n4 x3 x17 h4 fun h18 =>
 LDN n4 x3 h18 fun x19 =>
 kr x19 h18)
 (B254x31 x0 h4 x1 x3 kr)

theorem eqF254 : F254 = fun fu oR => compF Pr fu oR 254 2 := by kernel_rfl

def B255x27 (x8 : AV) (kr : KR) (cl : CL) (x9 : AV) (kp : KP) (x4 : AV) (h10 : Heap) : Ans := JO (fun x11 h12 =>
 JO (fun x13 h14 =>
 JO (fun x15 h16 =>
 SEL x8 x15 (.bool false) fun x17 =>
 kr x17 h16) fun j18 =>
 GW true x8 (cl n213 [x9, x13] h14 (fun x19 h20 =>
 j18 x19 h20) kp)
 (j18 undefA h14)) fun j23 =>
 GW true x8 (LD x11 h12 fun x24 =>
 j23 x24 h12)
 (j23 undefA h12)) fun j25 =>
 GW true x8 (FA n1 x4 fun x26 =>
 j25 x26 h10)
 (j25 undefA h10)
def F255 (fu : Nat) (oR : Orc) (cl : CL) (args : List AV) (h3 : Heap) (kr : KR) (kp : KP) : Ans := AR3 args fun x0 x1 x2 =>
 BOX 130 x0 h3 fun x4 h5 =>
 FA n0 x4 fun x6 =>
 LD x6 h5 fun x7 =>
 EQL Pr 3 false x7 x1 fun x8 =>
 JO (fun x9 h10 =>
 B255x27 x8 kr cl x9 kp x4 h10) fun j28 =>
 GW true x8 (j28 x2 h5)
 (j28 undefA h5)

theorem eqF255 : F255 = fun fu oR => compF Pr fu oR 255 3 := by kernel_rfl

def B257x22 (x0 : AV) (h3 : Heap) (x1 : AV) (cl : CL) (kr : KR) (kp : KP) : Ans := NC x0 fun x4 =>
 FA n3 x4 fun x5 =>
 LD x5 h3 fun x6 =>
 ADD Pr 3 true x6 (.int .i64 n1) fun x7 =>
 NC x0 fun x8 =>
 FA n3 x8 fun x9 =>
 ST n1 x9 x7 h3 fun h10 =>
 GEN (callV Pr (some x1) [] h10) cl (fun x11 h12 =>
 NC x0 fun x15 =>
 FA n3 x15 fun x16 =>
 LD x16 h12 fun x17 =>
 SUB Pr 3 true x17 (.int .i64 n1) fun x18 =>
 NC x0 fun x19 =>
 FA n3 x19 fun x20 =>
 ST n1 x20 x18 h12 fun h21 =>
 kr x11 h21) kp
def F257 (fu : Nat) (oR : Orc) (cl : CL) (args : List AV) (h2 : Heap) (kr : KR) (kp : KP) : Ans := AR2 args fun x0 x1 =>
 JO (fun h3 =>
 B257x22 x0 h3 x1 cl kr kp) fun j23 =>
 NC x0 fun x24 =>
 FA n3 x24 fun x25 =>
 LD x25 h2 fun x26 =>
 EQL Pr 3 true x26 (.int .i64 n40) fun x27 =>
 IFB x27 (cl n256 [x0] h2 (fun x28 h29 =>
 j23  h29) kp)
 (j23  h2)

theorem eqF257 : F257 = fun fu oR => compF Pr fu oR 257 2 := by kernel_rfl

def B258x42 (x0 : AV) (h27 : Heap) (cl : CL) (x3 : AV) (x26 : AV) (kr : KR) (kp : KP) : Ans := LD x0 h27 fun x28 =>
 LD x0 h27 fun x29 =>
 cl n204 [x29] h27 (fun x30 h31 =>
 LD x0 h31 fun x34 =>
 EQV x28 x34 <|
 BSL n3 n1 [(.int .i64 n0), (.int .i64 n0)] n2 [(n0, x3), (n1, x30)] h31 fun x35 h36 =>
 LD x0 h36 fun x37 =>
 EQV x28 x37 <|
 cl n260 [x28, x26, x35] h36 (fun x38 h39 =>
 kr x38 h39) kp) kp
def B258x51 (x0 : AV) (cl : CL) (x3 : AV) (kr : KR) (kp : KP) (h23 : Heap) : Ans := JO (fun x26 h27 =>
 B258x42 x0 h27 cl x3 x26 kr kp) fun j43 =>
 LD x0 h23 fun x44 =>
 cl n200 [x44] h23 (fun x45 h46 =>
 OV (fieldA Pr 130 x45 1) fun x49 =>
 EQL Pr 9 true x49 (.str n2 (nat_lit 15659)) fun x50 =>
 IFB x50 (j43 (.int .i64 n8) h46)
 (j43 (.int .i64 n7) h46)) kp
def B258x52 (x0 : AV) (h18 : Heap) (cl : CL) (x3 : AV) (kr : KR) (kp : KP) (j16 : Heap → Ans) : Ans := LD x0 h18 fun x19 =>
 BSL n9 n1 [(.str n0 n0), (.str n0 n0)] n2 [(n0, (.str n1 n61)), (n1, (.str n2 (nat_lit 15659)))] h18 fun x20 h21 =>
 cl n203 [x19, x20] h21 (fun x22 h23 =>
 IFB x22 (B258x51 x0 cl x3 kr kp h23)
 (j16  h23)) kp
def F258 (fu : Nat) (oR : Orc) (cl : CL) (args : List AV) (h1 : Heap) (kr : KR) (kp : KP) : Ans := AR1 args fun x0 =>
 LD x0 h1 fun x2 =>
 cl n259 [x2] h1 (fun x3 h4 =>
 LD x0 h4 fun x7 =>
 NC x7 fun x8 =>
 FA n4 x8 fun x9 =>
 FA n0 x9 fun x10 =>
 LD x10 h4 fun x11 =>
 SA n5 x11 x3 fun x12 =>
 FA n0 x12 fun x13 =>
 LD x13 h4 fun x14 =>
 JO (fun h15 =>
 kr x3 h15) fun j16 =>
 JO (fun x17 h18 =>
 IFB x17 (B258x52 x0 h18 cl x3 kr kp j16)
 (j16  h18)) fun j53 =>
 EQL Pr 3 true x14 (.int .i64 n3) fun x54 =>
 IFB x54 (j53 x54 h4)
 (EQL Pr 3 true x14 (.int .i64 n4) fun x55 =>
 IFB x55 (j53 x55 h4)
 (EQL Pr 3 true x14 (.int .i64 n5) fun x56 =>
 j53 x56 h4))) kp

theorem eqF258 : F258 = fun fu oR => compF Pr fu oR 258 1 := by kernel_rfl

def B259x38 (x0 : AV) (h9 : Heap) (cl : CL) (x2 : AV) (kr : KR) (kp : KP) : Ans := NC x0 fun x13 =>
 FA n1 x13 fun x14 =>
 LD x14 h9 fun x15 =>
 ADD Pr 3 true x15 (.int .i64 n1) fun x16 =>
 NC x0 fun x17 =>
 FA n1 x17 fun x18 =>
 ST n1 x18 x16 h9 fun h19 =>
 cl n204 [x0] h19 (fun x20 h21 =>
 cl n202 [x0, (.str n1 n58)] h21 (fun x24 h25 =>
 cl n204 [x0] h25 (fun x28 h29 =>
 BSL n3 n1 [(.int .i64 n0), (.int .i64 n0), (.int .i64 n0)] n3 [(n0, x2), (n1, x20), (n2, x28)] h29 fun x32 h33 =>
 cl n260 [x0, (.int .i64 n9), x32] h33 (fun x34 h35 =>
 kr x34 h35) kp) kp) kp) kp
def F259 (fu : Nat) (oR : Orc) (cl : CL) (args : List AV) (h1 : Heap) (kr : KR) (kp : KP) : Ans := AR1 args fun x0 =>
 cl n296 [x0] h1 (fun x2 h3 =>
 BSL n9 n1 [(.str n0 n0)] n1 [(n0, (.str n1 n63))] h3 fun x6 h7 =>
 cl n203 [x0, x6] h7 (fun x8 h9 =>
 OV (unOpA .not x8) fun x12 =>
 IFB x12 (kr x2 h9)
 (B259x38 x0 h9 cl x2 kr kp)) kp) kp

theorem eqF259 : F259 = fun fu oR => compF Pr fu oR 259 1 := by kernel_rfl

def F260 (fu : Nat) (oR : Orc) (cl : CL) (args : List AV) (h3 : Heap) (kr : KR) (kp : KP) : Ans := AR3 args fun x0 x1 x2 =>
 OV (buildA Pr 108 [(n0, x1), (n4, x2)]) fun x4 =>
 cl n297 [x0, x4] h3 (fun x5 h6 =>
 kr x5 h6) kp

theorem eqF260 : F260 = fun fu oR => compF Pr fu oR 260 3 := by kernel_rfl

def F261 (fu : Nat) (oR : Orc) (cl : CL) (args : List AV) (h1 : Heap) (kr : KR) (kp : KP) : Ans := AR1 args fun x0 =>
 cl n257 [x0, (.func (.func 298) [x0] [])] h1 (fun x2 h3 =>
 kr x2 h3) kp

theorem eqF261 : F261 = fun fu oR => compF Pr fu oR 261 1 := by kernel_rfl

def B264x59 (x33 : AV) (x0 : AV) (j7 : Heap → Ans) (cl : CL) (x40 : AV) (h41 : Heap) (kp : KP) : Ans := JO (fun x42 h43 =>
 SEL x33 x42 (.bool false) fun x44 =>
 IFB x44 (NC x0 fun x45 =>
 FA n2 x45 fun x46 =>
 LD x46 h43 fun x47 =>
 NC x47 fun x48 =>
 FA n1 x48 fun x49 =>
 LD x49 h43 fun x50 =>
 NC x0 fun x51 =>
 FA n1 x51 fun x52 =>
 ST n1 x52 x50 h43 fun h53 =>
 j7  h53)
 (j7  h43)) fun j54 =>
 GW true x33 (cl n264 [x40] h41 (fun x55 h56 =>
 j54 x55 h56) kp)
 (j54 undefA h41)
def B264x66 (x33 : AV) (x0 : AV) (j7 : Heap → Ans) (cl : CL) (kp : KP) (x34 : AV) (h35 : Heap) : Ans := JO (fun x36 h37 =>
 JO (fun x38 h39 =>
 JO (fun x40 h41 =>
 B264x59 x33 x0 j7 cl x40 h41 kp) fun j60 =>
 GW true x33 (LD x38 h39 fun x61 =>
 j60 x61 h39)
 (j60 undefA h39)) fun j62 =>
 GW true x33 (FA n2 x36 fun x63 =>
 j62 x63 h37)
 (j62 undefA h37)) fun j64 =>
 GW true x33 (NC x34 fun x65 =>
 j64 x65 h35)
 (j64 undefA h35)
def B264x72 (x22 : AV) (x0 : AV) (j7 : Heap → Ans) (cl : CL) (kp : KP) (x27 : AV) (h28 : Heap) : Ans := JO (fun x29 h30 =>
 JO (fun x31 h32 =>
 SEL x22 x31 (.bool false) fun x33 =>
 JO (fun x34 h35 =>
 B264x66 x33 x0 j7 cl kp x34 h35) fun j67 =>
 GW true x33 (j67 x0 h32)
 (j67 undefA h32)) fun j68 =>
 GW true x22 (NEQ Pr 230 true x29 (.nilp) fun x69 =>
 j68 x69 h30)
 (j68 undefA h30)) fun j70 =>
 GW true x22 (LD x27 h28 fun x71 =>
 j70 x71 h28)
 (j70 undefA h28)
def B264x78 (x11 : AV) (x20 : AV) (x0 : AV) (j7 : Heap → Ans) (cl : CL) (kp : KP) (h21 : Heap) : Ans := SEL x11 x20 (.bool false) fun x22 =>
 JO (fun x23 h24 =>
 JO (fun x25 h26 =>
 JO (fun x27 h28 =>
 B264x72 x22 x0 j7 cl kp x27 h28) fun j73 =>
 GW true x22 (FA n2 x25 fun x74 =>
 j73 x74 h26)
 (j73 undefA h26)) fun j75 =>
 GW true x22 (NC x23 fun x76 =>
 j75 x76 h24)
 (j75 undefA h24)) fun j77 =>
 GW true x22 (j77 x0 h21)
 (j77 undefA h21)
def B264x85 (x11 : AV) (x0 : AV) (j7 : Heap → Ans) (cl : CL) (kp : KP) (x14 : AV) (h15 : Heap) : Ans := JO (fun x16 h17 =>
 JO (fun x18 h19 =>
 JO (fun x20 h21 =>
 B264x78 x11 x20 x0 j7 cl kp h21) fun j79 =>
 GW true x11 (EQL Pr 270 true x18 (.nilp) fun x80 =>
 j79 x80 h19)
 (j79 undefA h19)) fun j81 =>
 GW true x11 (LD x16 h17 fun x82 =>
 j81 x82 h17)
 (j81 undefA h17)) fun j83 =>
 GW true x11 (FA n0 x14 fun x84 =>
 j83 x84 h15)
 (j83 undefA h15)
def F264 (fu : Nat) (oR : Orc) (cl : CL) (args : List AV) (h1 : Heap) (kr : KR) (kp : KP) : Ans := AR1 args fun x0 =>
 JO (fun h2 =>
 NC x0 fun x3 =>
 FA n1 x3 fun x4 =>
 LD x4 h2 fun x5 =>
 NEQ Pr 189 true x5 (.nilmap) fun x6 =>
 kr x6 h2) fun j7 =>
 NC x0 fun x8 =>
 FA n1 x8 fun x9 =>
 LD x9 h1 fun x10 =>
 EQL Pr 189 true x10 (.nilmap) fun x11 =>
 JO (fun x12 h13 =>
 JO (fun x14 h15 =>
 B264x85 x11 x0 j7 cl kp x14 h15) fun j86 =>
 GW true x11 (NC x12 fun x87 =>
 j86 x87 h13)
 (j86 undefA h13)) fun j88 =>
 GW true x11 (j88 x0 h1)
 (j88 undefA h1)

theorem eqF264 : F264 = fun fu oR => compF Pr fu oR 264 1 := by kernel_rfl

def F265 (fu : Nat) (oR : Orc) (cl : CL) (args : List AV) (h2 : Heap) (kr : KR) (kp : KP) : Ans := AR2 args fun x0 x1 =>
 LENS x0 fun x3 =>
 LP fu (fun _ _ => Ans.no) (fun j6 x4 h5 =>
 LSS Pr 3 false x4 x3 fun x7 =>
 IFB x7 (SA n1 x0 x4 fun x8 =>
 LD x8 h5 fun x9 =>
 EQL Pr 9 false x1 x9 fun x10 =>
 IFB x10 (kr x4 h5)
 (ADD Pr 3 true x4 (.int .i64 n1) fun x11 =>
 j6 x11 h5))
 (kr (.int .i64 (nat_lit 18446744073709551615)) h5)) (.int .i64 n0) h2

theorem eqF265 : F265 = fun fu oR => compF Pr fu oR 265 2 := by kernel_rfl

def B266x31 (x8 : AV) (kr : KR) (x13 : AV) (x17 : AV) (x7 : AV) (h18 : Heap) : Ans := JO (fun x19 h20 =>
 JO (fun x21 h22 =>
 JO (fun x23 h24 =>
 SEL x8 x23 (.bool false) fun x25 =>
 kr x25 h24) fun j26 =>
 GW true x8 (EQL Pr 3 false x13 x21 fun x27 =>
 j26 x27 h22)
 (j26 undefA h22)) fun j28 =>
 GW true x8 (SUB Pr 3 false x17 x19 fun x29 =>
 j28 x29 h20)
 (j28 undefA h20)) fun j30 =>
 GW true x8 (j30 x7 h18)
 (j30 undefA h18)
def B266x40 (x8 : AV) (kr : KR) (x7 : AV) (x0 : AV) (cl : CL) (x9 : AV) (x11 : AV) (h12 : Heap) (kp : KP) : Ans := JO (fun x13 h14 =>
 JO (fun x15 h16 =>
 JO (fun x17 h18 =>
 B266x31 x8 kr x13 x17 x7 h18) fun j32 =>
 GW true x8 (LENT x15 fun x33 =>
 j32 x33 h16)
 (j32 undefA h16)) fun j34 =>
 GW true x8 (j34 x0 h14)
 (j34 undefA h14)) fun j35 =>
 GW true x8 (cl n133 [x9, x11, (.func (.func 132) [] [])] h12 (fun x36 h37 =>
 j35 x36 h37) kp)
 (j35 undefA h12)
def F266 (fu : Nat) (oR : Orc) (cl : CL) (args : List AV) (h1 : Heap) (kr : KR) (kp : KP) : Ans := AR1 args fun x0 =>
 cl n191 [x0] h1 (fun x2 h3 =>
 EX n0 x2 fun x6 =>
 EX n1 x2 fun x7 =>
 GTR Pr 3 true x7 (.int .i64 n0) fun x8 =>
 JO (fun x9 h10 =>
 JO (fun x11 h12 =>
 B266x40 x8 kr x7 x0 cl x9 x11 h12 kp) fun j41 =>
 GW true x8 (j41 x7 h10)
 (j41 undefA h10)) fun j42 =>
 GW true x8 (j42 x0 h3)
 (j42 undefA h3)) kp

theorem eqF266 : F266 = fun fu oR => compF Pr fu oR 266 1 := by kernel_rfl

def F269 (fu : Nat) (oR : Orc) (cl : CL) (args : List AV) (h2 : Heap) (kr : KR) (kp : KP) : Ans := AR2 args fun x0 x1 =>
 cl n306 [x0, x1] h2 (fun x3 h4 =>
 OV (unOpA .not x3) fun x7 =>
 IFB x7 (kr (.tuple [(.int .i64 n0), (.bool false)]) h4)
 (ADD Pr 3 false x0 x1 fun x8 =>
 cl n307 [x8] h4 (fun x9 h10 =>
 EX n0 x9 fun x13 =>
 EX n1 x9 fun x14 =>
 kr (.tuple [x13, x14]) h10) kp)) kp

theorem eqF269 : F269 = fun fu oR => compF Pr fu oR 269 2 := by kernel_rfl

def B274x23 (x7 : AV) (kr : KR) (x1 : AV) (x8 : AV) (h9 : Heap) : Ans := JO (fun x10 h11 =>
 JO (fun x12 h13 =>
 JO (fun x14 h15 =>
 SEL x7 x14 (.bool false) fun x16 =>
 kr x16 h15) fun j17 =>
 GW true x7 (EQL Pr 9 false x10 x12 fun x18 =>
 j17 x18 h13)
 (j17 undefA h13)) fun j19 =>
 GW true x7 (LD x1 h11 fun x20 =>
 j19 x20 h11)
 (j19 undefA h11)) fun j21 =>
 GW true x7 (LD x8 h9 fun x22 =>
 j21 x22 h9)
 (j21 undefA h9)
def F274 (fu : Nat) (oR : Orc) (cl : CL) (args : List AV) (h2 : Heap) (kr : KR) (kp : KP) : Ans := AR2 args fun x0 x1 =>
 BOX 61 x0 h2 fun x3 h4 =>
 FA n0 x3 fun x5 =>
 LD x5 h4 fun x6 =>
 EQL Pr 3 true x6 (.int .i64 n4) fun x7 =>
 JO (fun x8 h9 =>
 B274x23 x7 kr x1 x8 h9) fun j24 =>
 GW true x7 (FA n1 x3 fun x25 =>
 j24 x25 h4)
 (j24 undefA h4)

theorem eqF274 : F274 = fun fu oR => compF Pr fu oR 274 2 := by kernel_rfl

def B287x24 (cl : CL) (x0 : AV) (h10 : Heap) (x6 : AV) (j8 : AV → Heap → Ans) (kp : KP) : Ans := cl n316 [x0] h10 (fun x13 h14 =>
 BSL n3 n1 [(.int .i64 n0), (.int .i64 n0)] n2 [(n0, x6), (n1, x13)] h14 fun x17 h18 =>
 OV (buildA Pr 108 [(n0, (.int .i64 n11)), (n4, x17)]) fun x19 =>
 cl n173 [x0, x19] h18 (fun x20 h21 =>
 j8 x20 h21) kp) kp
def F287 (fu : Nat) (oR : Orc) (cl : CL) (args : List AV) (h1 : Heap) (kr : KR) (kp : KP) : Ans := AR1 args fun x0 =>
 cl n316 [x0] h1 (fun x2 h3 =>
 LP fu (fun _ _ => Ans.no) (fun j8 x6 h7 =>
 cl n111 [x0, (.str n2 n9766)] h7 (fun x9 h10 =>
 IFB x9 (B287x24 cl x0 h10 x6 j8 kp)
 (kr x6 h10)) kp) x2 h3) kp

theorem eqF287 : F287 = fun fu oR => compF Pr fu oR 287 1 := by kernel_rfl

def B289x25 (cl : CL) (x0 : AV) (h9 : Heap) (x8 : AV) (j10 : AV → Heap → Ans) (kp : KP) (kr : KR) : Ans := cl n111 [x0, (.str n1 n44)] h9 (fun x11 h12 =>
 IFB x11 (cl n114 [x0] h12 (fun x15 h16 =>
 BSL n3 n1 [(.int .i64 n0)] n1 [(n0, x15)] h16 fun x19 h20 =>
 GEN (builtinF .append Pr [106, 106] [x8, x19] h20) cl (fun x21 h22 =>
 j10 x21 h22) kp) kp)
 (kr x8 h12)) kp
def F289 (fu : Nat) (oR : Orc) (cl : CL) (args : List AV) (h1 : Heap) (kr : KR) (kp : KP) : Ans := AR1 args fun x0 =>
 cl n114 [x0] h1 (fun x2 h3 =>
 BSL n3 n1 [(.int .i64 n0)] n1 [(n0, x2)] h3 fun x6 h7 =>
 LP fu (fun _ _ => Ans.no) (fun j10 x8 h9 =>
 B289x25 cl x0 h9 x8 j10 kp kr) x6 h7) kp

theorem eqF289 : F289 = fun fu oR => compF Pr fu oR 289 1 := by kernel_rfl

def B292x38 (cl : CL) (x17 : AV) (h18 : Heap) (x14 : AV) (x0 : AV) (kr : KR) (kp : KP) : Ans := cl n318 [x17] h18 (fun x19 h20 =>
 ADD Pr 3 true (.int .i64 n1) x19 fun x23 =>
 OV (sliceA Pr 311 x14 (some (.int .i64 n1)) (some x23) none) fun x24 =>
 cl n319 [x24, x17] h20 (fun x25 h26 =>
 LSS Pr 2 true x0 (.int .i64 n0) fun x29 =>
 IFB x29 (RA n24 n1 x14 (.int .i64 n0) fun x30 =>
 ST n1 x30 (.int .u8 n45) h26 fun h31 =>
 ADD Pr 3 true (.int .i64 n1) x19 fun x32 =>
 OV (sliceA Pr 311 x14 none (some x32) none) fun x33 =>
 OV (convV Pr h31 22 9 x33) fun x34 =>
 kr x34 h31)
 (ADD Pr 3 true (.int .i64 n1) x19 fun x35 =>
 OV (sliceA Pr 311 x14 (some (.int .i64 n1)) (some x35) none) fun x36 =>
 OV (convV Pr h26 22 9 x36) fun x37 =>
 kr x37 h26)) kp) kp
def B292x42 (h8 : Heap) (x0 : AV) (cl : CL) (kr : KR) (kp : KP) : Ans := NEWC (.n (some (.int .u8 n0)) (.n (some (.int .u8 n0)) (.n (some (.int .u8 n0)) (.n (some (.int .u8 n0)) (.n (some (.int .u8 n0)) .e .e) (.n (some (.int .u8 n0)) .e .e)) (.n (some (.int .u8 n0)) (.n (some (.int .u8 n0)) .e .e) .e)) (.n (some (.int .u8 n0)) (.n (some (.int .u8 n0)) (.n (some (.int .u8 n0)) .e .e) .e) (.n (some (.int .u8 n0)) (.n (some (.int .u8 n0)) .e .e) .e))) (.n (some (.int .u8 n0)) (.n (some (.int .u8 n0)) (.n (some (.int .u8 n0)) (.n (some (.int .u8 n0)) .e .e) .e) (.n (some (.int .u8 n0)) (.n (some (.int .u8 n0)) .e .e) .e)) (.n (some (.int .u8 n0)) (.n (some (.int .u8 n0)) (.n (some (.int .u8 n0)) .e .e) .e) (.n (some (.int .u8 n0)) (.n (some (.int .u8 n0)) .e .e) .e)))) n24 311 h8 fun x14 h15 =>
 OV (convV Pr h15 2 158 x0) fun x16 =>
 JO (fun x17 h18 =>
 B292x38 cl x17 h18 x14 x0 kr kp) fun j39 =>
 LSS Pr 2 true x0 (.int .i64 n0) fun x40 =>
 IFB x40 (OV (unOpA .neg x16) fun x41 =>
 j39 x41 h15)
 (j39 x16 h15)
def B292x46 (x0 : AV) (cl : CL) (kr : KR) (kp : KP) (h2 : Heap) : Ans := LEQ Pr 2 true (.int .i64 n0) x0 fun x4 =>
 JO (fun x5 h6 =>
 JO (fun x7 h8 =>
 SEL x4 x7 (.bool false) fun x9 =>
 IFB x9 (cl n317 [x0] h8 (fun x10 h11 =>
 kr x10 h11) kp)
 (B292x42 h8 x0 cl kr kp)) fun j43 =>
 GW true x4 (LSS Pr 2 true x5 (.int .i64 n100) fun x44 =>
 j43 x44 h6)
 (j43 undefA h6)) fun j45 =>
 GW true x4 (j45 x0 h2)
 (j45 undefA h2)
def F292 (fu : Nat) (oR : Orc) (cl : CL) (args : List AV) (h2 : Heap) (kr : KR) (kp : KP) : Ans := AR2 args fun x0 x1 =>
 EQL Pr 3 true x1 (.int .i64 n10) fun x3 =>
 IFB x3 (B292x46 x0 cl kr kp h2)
 (OV (convV Pr h2 2 158 x0) fun x47 =>
 LSS Pr 2 true x0 (.int .i64 n0) fun x48 =>
 cl n320 [(.nilslice), x47, x1, x48, (.bool false)] h2 (fun x49 h50 =>
 EX n0 x49 fun x53 =>
 EX n1 x49 fun x54 =>
 kr x54 h50) kp)

theorem eqF292 : F292 = fun fu oR => compF Pr fu oR 292 2 := by kernel_rfl

def F296 (fu : Nat) (oR : Orc) (cl : CL) (args : List AV) (h1 : Heap) (kr : KR) (kp : KP) : Ans := AR1 args fun x0 =>
 BSL n9 n1 [(.str n0 n0)] n1 [(n0, (.str n2 (nat_lit 31868)))] h1 fun x2 h3 =>
 BSL n3 n1 [(.int .i64 n0)] n1 [(n0, (.int .i64 n10))] h3 fun x4 h5 =>
 cl n323 [x0, (.func (.func 324) [x0] []), x2, x4] h5 (fun x6 h7 =>
 kr x6 h7) kp

theorem eqF296 : F296 = fun fu oR => compF Pr fu oR 296 1 := by kernel_rfl

def F297 (fu : Nat) (oR : Orc) (cl : CL) (args : List AV) (h2 : Heap) (kr : KR) (kp : KP) : Ans := AR2 args fun x0 x1 =>
 BOX 108 x1 h2 fun x3 h4 =>
 NC x0 fun x5 =>
 FA n4 x5 fun x6 =>
 FA n0 x6 fun x7 =>
 LD x7 h4 fun x8 =>
 LDN n5 x3 h4 fun x9 =>
 BSL n108 n5 [(.int .i64 n0), (.str n0 n0), (.str n0 n0), (.int .i64 n0), (.nilslice)] n1 [(n0, x9)] h4 fun x10 h11 =>
 LD x7 h11 fun x12 =>
 EQV x8 x12 <|
 GEN (builtinF .append Pr [30, 30] [x8, x10] h11) cl (fun x13 h14 =>
 NC x0 fun x17 =>
 FA n4 x17 fun x18 =>
 FA n0 x18 fun x19 =>
 ST n1 x19 x13 h14 fun h20 =>
 NC x0 fun x21 =>
 FA n4 x21 fun x22 =>
 FA n0 x22 fun x23 =>
 LD x23 h20 fun x24 =>
 LENS x24 fun x25 =>
 SUB Pr 3 true x25 (.int .i64 n1) fun x26 =>
 kr x26 h20) kp

theorem eqF297 : F297 = fun fu oR => compF Pr fu oR 297 2 := by kernel_rfl

def B298x71 (x0 : AV) (h51 : Heap) (cl : CL) (x37 : AV) (j47 : AV → Heap → Ans) (kp : KP) : Ans := NC x0 fun x54 =>
 FA n1 x54 fun x55 =>
 LD x55 h51 fun x56 =>
 ADD Pr 3 true x56 (.int .i64 n1) fun x57 =>
 NC x0 fun x58 =>
 FA n1 x58 fun x59 =>
 ST n1 x59 x57 h51 fun h60 =>
 cl n261 [x0] h60 (fun x61 h62 =>
 BSL n3 n1 [(.int .i64 n0)] n1 [(n0, x61)] h62 fun x65 h66 =>
 GEN (builtinF .append Pr [106, 106] [x37, x65] h66) cl (fun x67 h68 =>
 j47 x67 h68) kp) kp
def B298x72 (x0 : AV) (h15 : Heap) (cl : CL) (kr : KR) (kp : KP) : Ans := NC x0 fun x18 =>
 FA n1 x18 fun x19 =>
 LD x19 h15 fun x20 =>
 ADD Pr 3 true x20 (.int .i64 n1) fun x21 =>
 NC x0 fun x22 =>
 FA n1 x22 fun x23 =>
 ST n1 x23 x21 h15 fun h24 =>
 cl n325 [x0] h24 (fun x25 h26 =>
 BSL n3 n1 [(.int .i64 n0)] n1 [(n0, x25)] h26 fun x29 h30 =>
 cl n261 [x0] h30 (fun x31 h32 =>
 BSL n3 n1 [(.int .i64 n0)] n1 [(n0, x31)] h32 fun x35 h36 =>
 GEN (builtinF .append Pr [106, 106] [x29, x35] h36) cl (fun x37 h38 =>
 JO (fun x41 h42 =>
 cl n260 [x0, (.int .i64 n43), x41] h42 (fun x43 h44 =>
 kr x43 h44) kp) fun j47 =>
 BSL n9 n1 [(.str n0 n0)] n1 [(n0, (.str n4 (nat_lit 1702063205)))] h38 fun x48 h49 =>
 cl n199 [x0, x48] h49 (fun x50 h51 =>
 IFB x50 (B298x71 x0 h51 cl x37 j47 kp)
 (j47 x37 h51)) kp) kp) kp) kp
def B298x100 (x0 : AV) (h76 : Heap) (cl : CL) (kr : KR) (kp : KP) : Ans := NC x0 fun x79 =>
 FA n1 x79 fun x80 =>
 LD x80 h76 fun x81 =>
 ADD Pr 3 true x81 (.int .i64 n1) fun x82 =>
 NC x0 fun x83 =>
 FA n1 x83 fun x84 =>
 ST n1 x84 x82 h76 fun h85 =>
 cl n325 [x0] h85 (fun x86 h87 =>
 cl n261 [x0] h87 (fun x90 h91 =>
 BSL n3 n1 [(.int .i64 n0), (.int .i64 n0)] n2 [(n0, x86), (n1, x90)] h91 fun x94 h95 =>
 cl n260 [x0, (.int .i64 n44), x94] h95 (fun x96 h97 =>
 kr x96 h97) kp) kp) kp
def B298x127 (cl : CL) (x0 : AV) (h104 : Heap) (kr : KR) (kp : KP) : Ans := cl n327 [x0] h104 (fun x111 h112 =>
 NEWC (.n (some (.int .i64 n0)) (.n (some (.str n0 n0)) (.n (some (.int .i64 n0)) .e .e) .e) (.n (some (.str n0 n0)) (.n (some (.nilslice)) .e .e) .e)) n5 108 h112 fun x115 h116 =>
 ST n5 x115 x111 h116 fun h117 =>
 cl n202 [x0, (.str n1 n59)] h117 (fun x118 h119 =>
 LDN n5 x115 h119 fun x122 =>
 cl n297 [x0, x122] h119 (fun x123 h124 =>
 kr x123 h124) kp) kp) kp
def B298x128 (h76 : Heap) (cl : CL) (x0 : AV) (kr : KR) (kp : KP) : Ans := BSL n9 n1 [(.str n0 n0)] n1 [(n0, (.str n3 (nat_lit 7499622)))] h76 fun x101 h102 =>
 cl n199 [x0, x101] h102 (fun x103 h104 =>
 IFB x103 (cl n326 [x0] h104 (fun x107 h108 =>
 kr x107 h108) kp)
 (B298x127 cl x0 h104 kr kp)) kp
def B298x129 (h5 : Heap) (cl : CL) (x0 : AV) (kr : KR) (kp : KP) : Ans := BSL n9 n1 [(.str n0 n0)] n1 [(n0, (.str n2 (nat_lit 26217)))] h5 fun x12 h13 =>
 cl n199 [x0, x12] h13 (fun x14 h15 =>
 IFB x14 (B298x72 x0 h15 cl kr kp)
 (BSL n9 n1 [(.str n0 n0)] n1 [(n0, (.str n5 (nat_lit 435610544247)))] h15 fun x73 h74 =>
 cl n199 [x0, x73] h74 (fun x75 h76 =>
 IFB x75 (B298x100 x0 h76 cl kr kp)
 (B298x128 h76 cl x0 kr kp)) kp)) kp
def F298 (fu : Nat) (oR : Orc) (cl : CL) (args : List AV) (h1 : Heap) (kr : KR) (kp : KP) : Ans := AR1 args fun x0 =>
 BSL n9 n1 [(.str n0 n0)] n1 [(n0, (.str n1 n123))] h1 fun x2 h3 =>
 cl n203 [x0, x2] h3 (fun x4 h5 =>
 IFB x4 (cl n205 [x0] h5 (fun x8 h9 =>
 kr x8 h9) kp)
 (B298x129 h5 cl x0 kr kp)) kp

theorem eqF298 : F298 = fun fu oR => compF Pr fu oR 298 1 := by kernel_rfl

def F306 (fu : Nat) (oR : Orc) (cl : CL) (args : List AV) (h2 : Heap) (kr : KR) (kp : KP) : Ans := AR2 args fun x0 x1 =>
 cl n185 [x0] h2 (fun x3 h4 =>
 JO (fun x7 h8 =>
 JO (fun x9 h10 =>
 SEL x3 x9 (.bool false) fun x11 =>
 kr x11 h10) fun j12 =>
 GW true x3 (cl n185 [x7] h8 (fun x13 h14 =>
 j12 x13 h14) kp)
 (j12 undefA h8)) fun j17 =>
 GW true x3 (j17 x1 h4)
 (j17 undefA h4)) kp

theorem eqF306 : F306 = fun fu oR => compF Pr fu oR 306 2 := by kernel_rfl

def F307 (fu : Nat) (oR : Orc) (cl : CL) (args : List AV) (h1 : Heap) (kr : KR) (kp : KP) : Ans := AR1 args fun x0 =>
 cl n185 [x0] h1 (fun x2 h3 =>
 OV (unOpA .not x2) fun x6 =>
 IFB x6 (kr (.tuple [(.int .i64 n0), (.bool false)]) h3)
 (kr (.tuple [x0, (.bool true)]) h3)) kp

theorem eqF307 : F307 = fun fu oR => compF Pr fu oR 307 1 := by kernel_rfl

def B316x24 (cl : CL) (x0 : AV) (h10 : Heap) (x6 : AV) (j8 : AV → Heap → Ans) (kp : KP) : Ans := cl n170 [x0] h10 (fun x13 h14 =>
 BSL n3 n1 [(.int .i64 n0)] n1 [(n0, x6)] h14 fun x17 h18 =>
 OV (buildA Pr 108 [(n0, (.int .i64 n6)), (n1, x13), (n4, x17)]) fun x19 =>
 cl n173 [x0, x19] h18 (fun x20 h21 =>
 j8 x20 h21) kp) kp
def F316 (fu : Nat) (oR : Orc) (cl : CL) (args : List AV) (h1 : Heap) (kr : KR) (kp : KP) : Ans := AR1 args fun x0 =>
 cl n340 [x0] h1 (fun x2 h3 =>
 LP fu (fun _ _ => Ans.no) (fun j8 x6 h7 =>
 cl n111 [x0, (.str n2 (nat_lit 28265))] h7 (fun x9 h10 =>
 IFB x9 (B316x24 cl x0 h10 x6 j8 kp)
 (kr x6 h10)) kp) x2 h3) kp

theorem eqF316 : F316 = fun fu oR => compF Pr fu oR 316 1 := by kernel_rfl

def B317x9 (x0 : AV) (kr : KR) (h1 : Heap) : Ans := BOP Pr .mul 3 true x0 (.int .i64 n2) fun x5 =>
 BOP Pr .mul 3 true x0 (.int .i64 n2) fun x6 =>
 ADD Pr 3 true x6 (.int .i64 n2) fun x7 =>
 OV (sliceA Pr 9 (.str n200 (nat_lit 9938655150514779720929161263213647789093395803754561035662628441001274968862597953692946393464194303251501229616933063375291039650253924995779037586872666250072396106842829501851083234932712366962979930255066872747696324303968523733872590022915936937156789320557469720923390131174387415513794469201054844961267015441141542819553679203788501627738430154234325528792480477051962324423099068299719245009424585859096469223093538032153047611602695245052081125123941502624659711709950000)) (some x5) (some x7) none) fun x8 =>
 kr x8 h1
def F317 (fu : Nat) (oR : Orc) (cl : CL) (args : List AV) (h1 : Heap) (kr : KR) (kp : KP) : Ans := AR1 args fun x0 =>
 LSS Pr 3 true x0 (.int .i64 n10) fun x2 =>
 IFB x2 (ADD Pr 3 true x0 (.int .i64 n1) fun x3 =>
 OV (sliceA Pr 9 (.str n36 (nat_lit 237927390410950444456928663707796224754864904193074819559483181009558347043374296609072)) (some x0) (some x3) none) fun x4 =>
 kr x4 h1)
 (B317x9 x0 kr h1)

theorem eqF317 : F317 = fun fu oR => compF Pr fu oR 317 1 := by kernel_rfl

def F318 (fu : Nat) (oR : Orc) (cl : CL) (args : List AV) (h1 : Heap) (kr : KR) (kp : KP) : Ans := AR1 args fun x0 =>
 cl n102 [x0] h1 (fun x2 h3 =>
 cl n341 [x2] h3 (fun x6 h7 =>
 RA n20 n1 (.ptr n5 n0) x6 fun x10 =>
 LD x10 h7 fun x11 =>
 GEQ Pr 158 false x0 x11 fun x12 =>
 cl n342 [x12] h7 (fun x13 h14 =>
 ADD Pr 3 false x6 x13 fun x17 =>
 kr x17 h14) kp) kp) kp

theorem eqF318 : F318 = fun fu oR => compF Pr fu oR 318 1 := by kernel_rfl

def B319x59 (x5 : AV) (h6 : Heap) (x4 : AV) (x0 : AV) (j7 : AV → AV → Heap → Ans) : Ans := BOP Pr .rem 158 true x5 (.int .u64 (nat_lit 100000000)) fun x9 =>
 OV (convV Pr h6 158 156 x9) fun x10 =>
 BOP Pr .quo 158 true x5 (.int .u64 (nat_lit 100000000)) fun x11 =>
 BOP Pr .quo 156 true x10 (.int .u32 (nat_lit 10000)) fun x12 =>
 BOP Pr .rem 156 true x10 (.int .u32 (nat_lit 10000)) fun x13 =>
 BOP Pr .quo 156 true x13 (.int .u32 n100) fun x14 =>
 BOP Pr .mul 156 true x14 (.int .u32 n2) fun x15 =>
 BOP Pr .rem 156 true x13 (.int .u32 n100) fun x16 =>
 BOP Pr .mul 156 true x16 (.int .u32 n2) fun x17 =>
 BOP Pr .quo 156 true x12 (.int .u32 n100) fun x18 =>
 BOP Pr .mul 156 true x18 (.int .u32 n2) fun x19 =>
 BOP Pr .rem 156 true x12 (.int .u32 n100) fun x20 =>
 BOP Pr .mul 156 true x20 (.int .u32 n2) fun x21 =>
 SUB Pr 3 true x4 (.int .i64 n1) fun x22 =>
 SUB Pr 3 true x4 (.int .i64 n2) fun x23 =>
 ADD Pr 156 true x17 (.int .u32 n1) fun x24 =>
 SAT (.str n200 (nat_lit 9938655150514779720929161263213647789093395803754561035662628441001274968862597953692946393464194303251501229616933063375291039650253924995779037586872666250072396106842829501851083234932712366962979930255066872747696324303968523733872590022915936937156789320557469720923390131174387415513794469201054844961267015441141542819553679203788501627738430154234325528792480477051962324423099068299719245009424585859096469223093538032153047611602695245052081125123941502624659711709950000)) x24 fun x25 =>
 SAT (.str n200 (nat_lit 9938655150514779720929161263213647789093395803754561035662628441001274968862597953692946393464194303251501229616933063375291039650253924995779037586872666250072396106842829501851083234932712366962979930255066872747696324303968523733872590022915936937156789320557469720923390131174387415513794469201054844961267015441141542819553679203788501627738430154234325528792480477051962324423099068299719245009424585859096469223093538032153047611602695245052081125123941502624659711709950000)) x17 fun x26 =>
 SA n1 x0 x22 fun x27 =>
 ST n1 x27 x25 h6 fun h28 =>
 SA n1 x0 x23 fun x29 =>
 ST n1 x29 x26 h28 fun h30 =>
 SUB Pr 3 true x4 (.int .i64 n3) fun x31 =>
 SUB Pr 3 true x4 (.int .i64 n4) fun x32 =>
 ADD Pr 156 true x15 (.int .u32 n1) fun x33 =>
 SAT (.str n200 (nat_lit 9938655150514779720929161263213647789093395803754561035662628441001274968862597953692946393464194303251501229616933063375291039650253924995779037586872666250072396106842829501851083234932712366962979930255066872747696324303968523733872590022915936937156789320557469720923390131174387415513794469201054844961267015441141542819553679203788501627738430154234325528792480477051962324423099068299719245009424585859096469223093538032153047611602695245052081125123941502624659711709950000)) x33 fun x34 =>
 SAT (.str n200 (nat_lit 9938655150514779720929161263213647789093395803754561035662628441001274968862597953692946393464194303251501229616933063375291039650253924995779037586872666250072396106842829501851083234932712366962979930255066872747696324303968523733872590022915936937156789320557469720923390131174387415513794469201054844961267015441141542819553679203788501627738430154234325528792480477051962324423099068299719245009424585859096469223093538032153047611602695245052081125123941502624659711709950000)) x15 fun x35 =>
 SA n1 x0 x31 fun x36 =>
 ST n1 x36 x34 h30 fun h37 =>
 SA n1 x0 x32 fun x38 =>
 ST n1 x38 x35 h37 fun h39 =>
 SUB Pr 3 true x4 (.int .i64 n5) fun x40 =>
 SUB Pr 3 true x4 (.int .i64 n6) fun x41 =>
 ADD Pr 156 true x21 (.int .u32 n1) fun x42 =>
 SAT (.str n200 (nat_lit 9938655150514779720929161263213647789093395803754561035662628441001274968862597953692946393464194303251501229616933063375291039650253924995779037586872666250072396106842829501851083234932712366962979930255066872747696324303968523733872590022915936937156789320557469720923390131174387415513794469201054844961267015441141542819553679203788501627738430154234325528792480477051962324423099068299719245009424585859096469223093538032153047611602695245052081125123941502624659711709950000)) x42 fun x43 =>
 SAT (.str n200 (nat_lit 9938655150514779720929161263213647789093395803754561035662628441001274968862597953692946393464194303251501229616933063375291039650253924995779037586872666250072396106842829501851083234932712366962979930255066872747696324303968523733872590022915936937156789320557469720923390131174387415513794469201054844961267015441141542819553679203788501627738430154234325528792480477051962324423099068299719245009424585859096469223093538032153047611602695245052081125123941502624659711709950000)) x21 fun x44 =>
 SA n1 x0 x40 fun x45 =>
 ST n1 x45 x43 h39 fun h46 =>
 SA n1 x0 x41 fun x47 =>
 ST n1 x47 x44 h46 fun h48 =>
 SUB Pr 3 true x4 (.int .i64 n7) fun x49 =>
 SUB Pr 3 true x4 (.int .i64 n8) fun x50 =>
 ADD Pr 156 true x19 (.int .u32 n1) fun x51 =>
 SAT (.str n200 (nat_lit 9938655150514779720929161263213647789093395803754561035662628441001274968862597953692946393464194303251501229616933063375291039650253924995779037586872666250072396106842829501851083234932712366962979930255066872747696324303968523733872590022915936937156789320557469720923390131174387415513794469201054844961267015441141542819553679203788501627738430154234325528792480477051962324423099068299719245009424585859096469223093538032153047611602695245052081125123941502624659711709950000)) x51 fun x52 =>
 SAT (.str n200 (nat_lit 9938655150514779720929161263213647789093395803754561035662628441001274968862597953692946393464194303251501229616933063375291039650253924995779037586872666250072396106842829501851083234932712366962979930255066872747696324303968523733872590022915936937156789320557469720923390131174387415513794469201054844961267015441141542819553679203788501627738430154234325528792480477051962324423099068299719245009424585859096469223093538032153047611602695245052081125123941502624659711709950000)) x19 fun x53 =>
 SA n1 x0 x49 fun x54 =>
 ST n1 x54 x52 h48 fun h55 =>
 SA n1 x0 x50 fun x56 =>
 ST n1 x56 x53 h55 fun h57 =>
 SUB Pr 3 true x4 (.int .i64 n8) fun x58 =>
 j7 x58 x11 h57
def B319x87 (x61 : AV) (x62 : AV) (x0 : AV) (h63 : Heap) (j72 : AV → AV → Heap → Ans) : Ans := BOP Pr .rem 156 true x61 (.int .u32 n100) fun x74 =>
 BOP Pr .mul 156 true x74 (.int .u32 n2) fun x75 =>
 BOP Pr .quo 156 true x61 (.int .u32 n100) fun x76 =>
 SUB Pr 3 true x62 (.int .i64 n1) fun x77 =>
 SUB Pr 3 true x62 (.int .i64 n2) fun x78 =>
 ADD Pr 156 true x75 (.int .u32 n1) fun x79 =>
 SAT (.str n200 (nat_lit 9938655150514779720929161263213647789093395803754561035662628441001274968862597953692946393464194303251501229616933063375291039650253924995779037586872666250072396106842829501851083234932712366962979930255066872747696324303968523733872590022915936937156789320557469720923390131174387415513794469201054844961267015441141542819553679203788501627738430154234325528792480477051962324423099068299719245009424585859096469223093538032153047611602695245052081125123941502624659711709950000)) x79 fun x80 =>
 SAT (.str n200 (nat_lit 9938655150514779720929161263213647789093395803754561035662628441001274968862597953692946393464194303251501229616933063375291039650253924995779037586872666250072396106842829501851083234932712366962979930255066872747696324303968523733872590022915936937156789320557469720923390131174387415513794469201054844961267015441141542819553679203788501627738430154234325528792480477051962324423099068299719245009424585859096469223093538032153047611602695245052081125123941502624659711709950000)) x75 fun x81 =>
 SA n1 x0 x77 fun x82 =>
 ST n1 x82 x80 h63 fun h83 =>
 SA n1 x0 x78 fun x84 =>
 ST n1 x84 x81 h83 fun h85 =>
 SUB Pr 3 true x62 (.int .i64 n2) fun x86 =>
 j72 x76 x86 h85
def B319x88 (x0 : AV) (kr : KR) (x62 : AV) (x61 : AV) (h63 : Heap) : Ans := JO (fun x64 x65 h66 =>
 GTR Pr 3 true x65 (.int .i64 n0) fun x67 =>
 IFB x67 (ADD Pr 156 true (.int .u32 n48) x64 fun x68 =>
 OV (convV Pr h66 156 5 x68) fun x69 =>
 SA n1 x0 (.int .i64 n0) fun x70 =>
 ST n1 x70 x69 h66 fun h71 =>
 kr (.tuple []) h71)
 (kr (.tuple []) h66)) fun j72 =>
 GEQ Pr 3 true x62 (.int .i64 n2) fun x73 =>
 IFB x73 (B319x87 x61 x62 x0 h63 j72)
 (j72 x61 x62 h63)
def B319x116 (x60 : AV) (x4 : AV) (x0 : AV) (h6 : Heap) (j89 : AV → AV → Heap → Ans) : Ans := BOP Pr .rem 156 true x60 (.int .u32 (nat_lit 10000)) fun x91 =>
 BOP Pr .quo 156 true x60 (.int .u32 (nat_lit 10000)) fun x92 =>
 BOP Pr .quo 156 true x91 (.int .u32 n100) fun x93 =>
 BOP Pr .mul 156 true x93 (.int .u32 n2) fun x94 =>
 BOP Pr .rem 156 true x91 (.int .u32 n100) fun x95 =>
 BOP Pr .mul 156 true x95 (.int .u32 n2) fun x96 =>
 SUB Pr 3 true x4 (.int .i64 n1) fun x97 =>
 SUB Pr 3 true x4 (.int .i64 n2) fun x98 =>
 ADD Pr 156 true x96 (.int .u32 n1) fun x99 =>
 SAT (.str n200 (nat_lit 9938655150514779720929161263213647789093395803754561035662628441001274968862597953692946393464194303251501229616933063375291039650253924995779037586872666250072396106842829501851083234932712366962979930255066872747696324303968523733872590022915936937156789320557469720923390131174387415513794469201054844961267015441141542819553679203788501627738430154234325528792480477051962324423099068299719245009424585859096469223093538032153047611602695245052081125123941502624659711709950000)) x99 fun x100 =>
 SAT (.str n200 (nat_lit 9938655150514779720929161263213647789093395803754561035662628441001274968862597953692946393464194303251501229616933063375291039650253924995779037586872666250072396106842829501851083234932712366962979930255066872747696324303968523733872590022915936937156789320557469720923390131174387415513794469201054844961267015441141542819553679203788501627738430154234325528792480477051962324423099068299719245009424585859096469223093538032153047611602695245052081125123941502624659711709950000)) x96 fun x101 =>
 SA n1 x0 x97 fun x102 =>
 ST n1 x102 x100 h6 fun h103 =>
 SA n1 x0 x98 fun x104 =>
 ST n1 x104 x101 h103 fun h105 =>
 SUB Pr 3 true x4 (.int .i64 n3) fun x106 =>
 SUB Pr 3 true x4 (.int .i64 n4) fun x107 =>
 ADD Pr 156 true x94 (.int .u32 n1) fun x108 =>
 SAT (.str n200 (nat_lit 9938655150514779720929161263213647789093395803754561035662628441001274968862597953692946393464194303251501229616933063375291039650253924995779037586872666250072396106842829501851083234932712366962979930255066872747696324303968523733872590022915936937156789320557469720923390131174387415513794469201054844961267015441141542819553679203788501627738430154234325528792480477051962324423099068299719245009424585859096469223093538032153047611602695245052081125123941502624659711709950000)) x108 fun x109 =>
 SAT (.str n200 (nat_lit 9938655150514779720929161263213647789093395803754561035662628441001274968862597953692946393464194303251501229616933063375291039650253924995779037586872666250072396106842829501851083234932712366962979930255066872747696324303968523733872590022915936937156789320557469720923390131174387415513794469201054844961267015441141542819553679203788501627738430154234325528792480477051962324423099068299719245009424585859096469223093538032153047611602695245052081125123941502624659711709950000)) x94 fun x110 =>
 SA n1 x0 x106 fun x111 =>
 ST n1 x111 x109 h105 fun h112 =>
 SA n1 x0 x107 fun x113 =>
 ST n1 x113 x110 h112 fun h114 =>
 SUB Pr 3 true x4 (.int .i64 n4) fun x115 =>
 j89 x92 x115 h114
def F319 (fu : Nat) (oR : Orc) (cl : CL) (args : List AV) (h2 : Heap) (kr : KR) (kp : KP) : Ans := AR2 args fun x0 x1 =>
 LENS x0 fun x3 =>
 LP fu (fun _ _ _ => Ans.no) (fun j7 x4 x5 h6 =>
 GEQ Pr 3 true x4 (.int .i64 n8) fun x8 =>
 IFB x8 (B319x59 x5 h6 x4 x0 j7)
 (OV (convV Pr h6 158 156 x5) fun x60 =>
 JO (fun x61 x62 h63 =>
 B319x88 x0 kr x62 x61 h63) fun j89 =>
 GEQ Pr 3 true x4 (.int .i64 n4) fun x90 =>
 IFB x90 (B319x116 x60 x4 x0 h6 j89)
 (j89 x60 x4 h6))) x3 x1 h2

theorem eqF319 : F319 = fun fu oR => compF Pr fu oR 319 2 := by kernel_rfl

def B323x37 (cl : CL) (x0 : AV) (h13 : Heap) (x2 : AV) (x3 : AV) (x1 : AV) (x9 : AV) (j11 : AV → Heap → Ans) (kp : KP) : Ans := cl n200 [x0] h13 (fun x16 h17 =>
 OV (fieldA Pr 130 x16 1) fun x20 =>
 cl n265 [x2, x20] h17 (fun x21 h22 =>
 SA n1 x3 x21 fun x25 =>
 LD x25 h22 fun x26 =>
 GEN (callV Pr (some x1) [] h22) cl (fun x27 h28 =>
 BSL n3 n1 [(.int .i64 n0), (.int .i64 n0)] n2 [(n0, x9), (n1, x27)] h28 fun x31 h32 =>
 cl n260 [x0, x26, x31] h32 (fun x33 h34 =>
 j11 x33 h34) kp) kp) kp) kp
def F323 (fu : Nat) (oR : Orc) (cl : CL) (args : List AV) (h4 : Heap) (kr : KR) (kp : KP) : Ans := AR4 args fun x0 x1 x2 x3 =>
 GEN (callV Pr (some x1) [] h4) cl (fun x5 h6 =>
 LP fu (fun _ _ => Ans.no) (fun j11 x9 h10 =>
 cl n203 [x0, x2] h10 (fun x12 h13 =>
 IFB x12 (B323x37 cl x0 h13 x2 x3 x1 x9 j11 kp)
 (kr x9 h13)) kp) x5 h6) kp

theorem eqF323 : F323 = fun fu oR => compF Pr fu oR 323 4 := by kernel_rfl

def F324 (fu : Nat) (oR : Orc) (cl : CL) (args : List AV) (h1 : Heap) (kr : KR) (kp : KP) : Ans := AR1 args fun x0 =>
 BSL n9 n1 [(.str n0 n0)] n1 [(n0, (.str n2 n9766))] h1 fun x2 h3 =>
 BSL n3 n1 [(.int .i64 n0)] n1 [(n0, (.int .i64 n11))] h3 fun x4 h5 =>
 cl n323 [x0, (.func (.func 346) [x0] []), x2, x4] h5 (fun x6 h7 =>
 kr x6 h7) kp

theorem eqF324 : F324 = fun fu oR => compF Pr fu oR 324 1 := by kernel_rfl

def F325 (fu : Nat) (oR : Orc) (cl : CL) (args : List AV) (h1 : Heap) (kr : KR) (kp : KP) : Ans := AR1 args fun x0 =>
 cl n202 [x0, (.str n1 n40)] h1 (fun x2 h3 =>
 cl n204 [x0] h3 (fun x6 h7 =>
 cl n202 [x0, (.str n1 n41)] h7 (fun x10 h11 =>
 kr x6 h11) kp) kp) kp

theorem eqF325 : F325 = fun fu oR => compF Pr fu oR 325 1 := by kernel_rfl

def B327x33 (x0 : AV) (h7 : Heap) (cl : CL) (x2 : AV) (kr : KR) (kp : KP) : Ans := NC x0 fun x10 =>
 FA n1 x10 fun x11 =>
 LD x11 h7 fun x12 =>
 ADD Pr 3 true x12 (.int .i64 n1) fun x13 =>
 NC x0 fun x14 =>
 FA n1 x14 fun x15 =>
 ST n1 x15 x13 h7 fun h16 =>
 BSL n9 n1 [(.str n0 n0)] n1 [(n0, (.str n1 n59))] h16 fun x17 h18 =>
 cl n203 [x0, x17] h18 (fun x19 h20 =>
 IFB x19 (OV (buildA Pr 108 [(n0, (.int .i64 n41))]) fun x23 =>
 ST n5 x2 x23 h20 fun h24 =>
 LDN n5 x2 h24 fun x25 =>
 kr x25 h24)
 (cl n347 [x0] h20 (fun x26 h27 =>
 OV (buildA Pr 108 [(n0, (.int .i64 n41)), (n4, x26)]) fun x30 =>
 ST n5 x2 x30 h27 fun h31 =>
 LDN n5 x2 h31 fun x32 =>
 kr x32 h31) kp)) kp
def B327x54 (x0 : AV) (h37 : Heap) (cl : CL) (x2 : AV) (kr : KR) (kp : KP) : Ans := NC x0 fun x40 =>
 FA n1 x40 fun x41 =>
 LD x41 h37 fun x42 =>
 ADD Pr 3 true x42 (.int .i64 n1) fun x43 =>
 NC x0 fun x44 =>
 FA n1 x44 fun x45 =>
 ST n1 x45 x43 h37 fun h46 =>
 cl n347 [x0] h46 (fun x47 h48 =>
 OV (buildA Pr 108 [(n0, (.int .i64 n42)), (n4, x47)]) fun x51 =>
 ST n5 x2 x51 h48 fun h52 =>
 LDN n5 x2 h52 fun x53 =>
 kr x53 h52) kp
def B327x71 (x0 : AV) (h58 : Heap) (x2 : AV) (kr : KR) : Ans := NC x0 fun x61 =>
 FA n1 x61 fun x62 =>
 LD x62 h58 fun x63 =>
 ADD Pr 3 true x63 (.int .i64 n1) fun x64 =>
 NC x0 fun x65 =>
 FA n1 x65 fun x66 =>
 ST n1 x66 x64 h58 fun h67 =>
 OV (buildA Pr 108 [(n0, (.int .i64 n47))]) fun x68 =>
 ST n5 x2 x68 h67 fun h69 =>
 LDN n5 x2 h69 fun x70 =>
 kr x70 h69
def B327x88 (x0 : AV) (h75 : Heap) (x2 : AV) (kr : KR) : Ans := NC x0 fun x78 =>
 FA n1 x78 fun x79 =>
 LD x79 h75 fun x80 =>
 ADD Pr 3 true x80 (.int .i64 n1) fun x81 =>
 NC x0 fun x82 =>
 FA n1 x82 fun x83 =>
 ST n1 x83 x81 h75 fun h84 =>
 OV (buildA Pr 108 [(n0, (.int .i64 n48))]) fun x85 =>
 ST n5 x2 x85 h84 fun h86 =>
 LDN n5 x2 h86 fun x87 =>
 kr x87 h86
def B327x105 (x0 : AV) (h92 : Heap) (x2 : AV) (kr : KR) : Ans := NC x0 fun x95 =>
 FA n1 x95 fun x96 =>
 LD x96 h92 fun x97 =>
 ADD Pr 3 true x97 (.int .i64 n1) fun x98 =>
 NC x0 fun x99 =>
 FA n1 x99 fun x100 =>
 ST n1 x100 x98 h92 fun h101 =>
 OV (buildA Pr 108 [(n0, (.int .i64 n49))]) fun x102 =>
 ST n5 x2 x102 h101 fun h103 =>
 LDN n5 x2 h103 fun x104 =>
 kr x104 h103
def B327x137 (x113 : AV) (x2 : AV) (kr : KR) (h116 : Heap) (cl : CL) (x0 : AV) (kp : KP) : Ans := JO (fun h117 =>
 LDN n5 x113 h117 fun x118 =>
 ST n5 x2 x118 h117 fun h119 =>
 LDN n5 x2 h119 fun x120 =>
 kr x120 h119) fun j121 =>
 BSL n9 n1 [(.str n0 n0)] n1 [(n0, (.str n1 n59))] h116 fun x122 h123 =>
 cl n203 [x0, x122] h123 (fun x124 h125 =>
 OV (unOpA .not x124) fun x128 =>
 IFB x128 (cl n204 [x0] h125 (fun x129 h130 =>
 BSL n3 n1 [(.int .i64 n0)] n1 [(n0, x129)] h130 fun x133 h134 =>
 FA n4 x113 fun x135 =>
 ST n1 x135 x133 h134 fun h136 =>
 j121  h136) kp)
 (j121  h125)) kp
def B327x147 (h109 : Heap) (x2 : AV) (kr : KR) (cl : CL) (x0 : AV) (kp : KP) : Ans := OV (buildA Pr 108 [(n0, (.int .i64 n50))]) fun x112 =>
 NEWC (.n (some (.int .i64 n0)) (.n (some (.str n0 n0)) (.n (some (.int .i64 n0)) .e .e) .e) (.n (some (.str n0 n0)) (.n (some (.nilslice)) .e .e) .e)) n5 108 h109 fun x113 h114 =>
 ST n5 x113 x112 h114 fun h115 =>
 JO (fun h116 =>
 B327x137 x113 x2 kr h116 cl x0 kp) fun j138 =>
 cl n200 [x0] h115 (fun x139 h140 =>
 OV (fieldA Pr 130 x139 1) fun x143 =>
 EQL Pr 9 true x143 (.str n6 (nat_lit 121437875889522)) fun x144 =>
 IFB x144 (FA n0 x113 fun x145 =>
 ST n1 x145 (.int .i64 n51) h140 fun h146 =>
 j138  h146)
 (j138  h140)) kp
def B327x190 (x0 : AV) (h151 : Heap) (cl : CL) (x2 : AV) (kr : KR) (kp : KP) : Ans := NC x0 fun x154 =>
 FA n1 x154 fun x155 =>
 LD x155 h151 fun x156 =>
 ADD Pr 3 true x156 (.int .i64 n1) fun x157 =>
 NC x0 fun x158 =>
 FA n1 x158 fun x159 =>
 ST n1 x159 x157 h151 fun h160 =>
 BSL n3 n1 [(.int .i64 n0)] n1 [(n0, (.int .i64 n4))] h160 fun x161 h162 =>
 cl n201 [x0, x161] h162 (fun x163 h164 =>
 OV (buildA Pr 108 [(n0, (.int .i64 n52)), (n1, x163)]) fun x167 =>
 NEWC (.n (some (.int .i64 n0)) (.n (some (.str n0 n0)) (.n (some (.int .i64 n0)) .e .e) .e) (.n (some (.str n0 n0)) (.n (some (.nilslice)) .e .e) .e)) n5 108 h164 fun x168 h169 =>
 ST n5 x168 x167 h169 fun h170 =>
 cl n202 [x0, (.str n1 n91)] h170 (fun x171 h172 =>
 cl n204 [x0] h172 (fun x175 h176 =>
 BSL n3 n1 [(.int .i64 n0)] n1 [(n0, x175)] h176 fun x179 h180 =>
 FA n4 x168 fun x181 =>
 ST n1 x181 x179 h180 fun h182 =>
 cl n202 [x0, (.str n1 n93)] h182 (fun x183 h184 =>
 LDN n5 x168 h184 fun x187 =>
 ST n5 x2 x187 h184 fun h188 =>
 LDN n5 x2 h188 fun x189 =>
 kr x189 h188) kp) kp) kp) kp
def B327x200 (cl : CL) (x0 : AV) (h151 : Heap) (x2 : AV) (kr : KR) (kp : KP) : Ans := cl n204 [x0] h151 (fun x191 h192 =>
 BSL n3 n1 [(.int .i64 n0)] n1 [(n0, x191)] h192 fun x195 h196 =>
 OV (buildA Pr 108 [(n0, (.int .i64 n40)), (n4, x195)]) fun x197 =>
 ST n5 x2 x197 h196 fun h198 =>
 LDN n5 x2 h198 fun x199 =>
 kr x199 h198) kp
def B327x201 (h92 : Heap) (cl : CL) (x0 : AV) (x2 : AV) (kr : KR) (kp : KP) : Ans := BSL n9 n1 [(.str n0 n0), (.str n0 n0)] n2 [(n0, (.str n4 (nat_lit 1953069157))), (n1, (.str n6 (nat_lit 121437875889522)))] h92 fun x106 h107 =>
 cl n199 [x0, x106] h107 (fun x108 h109 =>
 IFB x108 (B327x147 h109 x2 kr cl x0 kp)
 (BSL n9 n1 [(.str n0 n0)] n1 [(n0, (.str n6 (nat_lit 111550592214372)))] h109 fun x148 h149 =>
 cl n199 [x0, x148] h149 (fun x150 h151 =>
 IFB x150 (B327x190 x0 h151 cl x2 kr kp)
 (B327x200 cl x0 h151 x2 kr kp)) kp)) kp
def B327x202 (h58 : Heap) (cl : CL) (x0 : AV) (x2 : AV) (kr : KR) (kp : KP) : Ans := BSL n9 n1 [(.str n0 n0)] n1 [(n0, (.str n8 (nat_lit 7310870969309884259)))] h58 fun x72 h73 =>
 cl n199 [x0, x72] h73 (fun x74 h75 =>
 IFB x74 (B327x88 x0 h75 x2 kr)
 (BSL n9 n1 [(.str n0 n0)] n1 [(n0, (.str n4 (nat_lit 1954047342)))] h75 fun x89 h90 =>
 cl n199 [x0, x89] h90 (fun x91 h92 =>
 IFB x91 (B327x105 x0 h92 x2 kr)
 (B327x201 h92 cl x0 x2 kr kp)) kp)) kp
def B327x203 (h7 : Heap) (cl : CL) (x0 : AV) (x2 : AV) (kr : KR) (kp : KP) : Ans := BSL n9 n1 [(.str n0 n0)] n1 [(n0, (.str n6 (nat_lit 112650254643824)))] h7 fun x34 h35 =>
 cl n199 [x0, x34] h35 (fun x36 h37 =>
 IFB x36 (B327x54 x0 h37 cl x2 kr kp)
 (BSL n9 n1 [(.str n0 n0)] n1 [(n0, (.str n5 (nat_lit 461195539042)))] h37 fun x55 h56 =>
 cl n199 [x0, x55] h56 (fun x57 h58 =>
 IFB x57 (B327x71 x0 h58 x2 kr)
 (B327x202 h58 cl x0 x2 kr kp)) kp)) kp
def F327 (fu : Nat) (oR : Orc) (cl : CL) (args : List AV) (h1 : Heap) (kr : KR) (kp : KP) : Ans := AR1 args fun x0 =>
 NEWC (.n (some (.int .i64 n0)) (.n (some (.str n0 n0)) (.n (some (.int .i64 n0)) .e .e) .e) (.n (some (.str n0 n0)) (.n (some (.nilslice)) .e .e) .e)) n5 108 h1 fun x2 h3 =>
 BSL n9 n1 [(.str n0 n0)] n1 [(n0, (.str n5 (nat_lit 500068610672)))] h3 fun x4 h5 =>
 cl n199 [x0, x4] h5 (fun x6 h7 =>
 IFB x6 (B327x33 x0 h7 cl x2 kr kp)
 (B327x203 h7 cl x0 x2 kr kp)) kp

theorem eqF327 : F327 = fun fu oR => compF Pr fu oR 327 1 := by kernel_rfl

def B340x46 (x0 : AV) (h27 : Heap) (cl : CL) (x6 : AV) (x26 : AV) (j8 : AV → Heap → Ans) (kp : KP) : Ans := NC x0 fun x28 =>
 FA n1 x28 fun x29 =>
 LD x29 h27 fun x30 =>
 ADD Pr 3 true x30 (.int .i64 n1) fun x31 =>
 NC x0 fun x32 =>
 FA n1 x32 fun x33 =>
 ST n1 x33 x31 h27 fun h34 =>
 cl n358 [x0] h34 (fun x35 h36 =>
 BSL n3 n1 [(.int .i64 n0), (.int .i64 n0)] n2 [(n0, x6), (n1, x35)] h36 fun x39 h40 =>
 OV (buildA Pr 108 [(n0, x26), (n4, x39)]) fun x41 =>
 cl n173 [x0, x41] h40 (fun x42 h43 =>
 j8 x42 h43) kp) kp
def B340x54 (x12 : AV) (x0 : AV) (cl : CL) (x6 : AV) (j8 : AV → Heap → Ans) (kp : KP) (kr : KR) (x17 : AV) (x21 : AV) (h22 : Heap) : Ans := JO (fun x23 h24 =>
 SEL x12 x23 (.bool false) fun x25 =>
 IFB x25 (JO (fun x26 h27 =>
 B340x46 x0 h27 cl x6 x26 j8 kp) fun j47 =>
 cl n113 [x0, (.str n2 (nat_lit 32289))] h24 (fun x48 h49 =>
 IFB x48 (j47 (.int .i64 n14) h49)
 (j47 (.int .i64 n13) h49)) kp)
 (kr x6 h24)) fun j52 =>
 GW true x12 (SEL x17 (.bool true) x21 fun x53 =>
 j52 x53 h22)
 (j52 undefA h22)
def B340x62 (x12 : AV) (x0 : AV) (cl : CL) (x6 : AV) (j8 : AV → Heap → Ans) (kp : KP) (kr : KR) (x15 : AV) (h16 : Heap) : Ans := JO (fun x17 h18 =>
 JO (fun x19 h20 =>
 JO (fun x21 h22 =>
 B340x54 x12 x0 cl x6 j8 kp kr x17 x21 h22) fun j55 =>
 GW false x17 (cl n113 [x19, (.str n2 (nat_lit 32289))] h20 (fun x56 h57 =>
 j55 x56 h57) kp)
 (j55 undefA h20)) fun j60 =>
 GW false x17 (j60 x0 h18)
 (j60 undefA h18)) fun j61 =>
 GW true x12 (j61 x15 h16)
 (j61 undefA h16)
def B340x69 (x0 : AV) (h7 : Heap) (cl : CL) (x6 : AV) (j8 : AV → Heap → Ans) (kp : KP) (kr : KR) : Ans := NC x0 fun x9 =>
 FA n5 x9 fun x10 =>
 LD x10 h7 fun x11 =>
 OV (unOpA .not x11) fun x12 =>
 JO (fun x13 h14 =>
 JO (fun x15 h16 =>
 B340x62 x12 x0 cl x6 j8 kp kr x15 h16) fun j63 =>
 GW true x12 (cl n113 [x13, (.str n1 n126)] h14 (fun x64 h65 =>
 j63 x64 h65) kp)
 (j63 undefA h14)) fun j68 =>
 GW true x12 (j68 x0 h7)
 (j68 undefA h7)
def F340 (fu : Nat) (oR : Orc) (cl : CL) (args : List AV) (h1 : Heap) (kr : KR) (kp : KP) : Ans := AR1 args fun x0 =>
 cl n358 [x0] h1 (fun x2 h3 =>
 LP fu (fun _ _ => Ans.no) (fun j8 x6 h7 =>
 B340x69 x0 h7 cl x6 j8 kp kr) x2 h3) kp

theorem eqF340 : F340 = fun fu oR => compF Pr fu oR 340 1 := by kernel_rfl

def F341 (fu : Nat) (oR : Orc) (cl : CL) (args : List AV) (h1 : Heap) (kr : KR) (kp : KP) : Ans := AR1 args fun x0 =>
 BOP Pr .mul 3 true x0 (.int .i64 (nat_lit 78913)) fun x2 =>
 BOP Pr .shr 3 true x2 (.int .u64 n18) fun x3 =>
 kr x3 h1

theorem eqF341 : F341 = fun fu oR => compF Pr fu oR 341 1 := by kernel_rfl

def F342 (fu : Nat) (oR : Orc) (cl : CL) (args : List AV) (h1 : Heap) (kr : KR) (kp : KP) : Ans := AR1 args fun x0 =>
 IFB x0 (kr (.int .i64 n1) h1)
 (kr (.int .i64 n0) h1)

theorem eqF342 : F342 = fun fu oR => compF Pr fu oR 342 1 := by kernel_rfl

def B346x35 (x0 : AV) (h12 : Heap) (cl : CL) (x6 : AV) (j8 : AV → Heap → Ans) (kp : KP) : Ans := NC x0 fun x15 =>
 FA n1 x15 fun x16 =>
 LD x16 h12 fun x17 =>
 ADD Pr 3 true x17 (.int .i64 n1) fun x18 =>
 NC x0 fun x19 =>
 FA n1 x19 fun x20 =>
 ST n1 x20 x18 h12 fun h21 =>
 BSL n3 n1 [(.int .i64 n0)] n1 [(n0, (.int .i64 n4))] h21 fun x22 h23 =>
 cl n201 [x0, x22] h23 (fun x24 h25 =>
 BSL n3 n1 [(.int .i64 n0)] n1 [(n0, x6)] h25 fun x28 h29 =>
 OV (buildA Pr 108 [(n0, (.int .i64 n6)), (n1, x24), (n4, x28)]) fun x30 =>
 cl n297 [x0, x30] h29 (fun x31 h32 =>
 j8 x31 h32) kp) kp
def F346 (fu : Nat) (oR : Orc) (cl : CL) (args : List AV) (h1 : Heap) (kr : KR) (kp : KP) : Ans := AR1 args fun x0 =>
 cl n361 [x0] h1 (fun x2 h3 =>
 LP fu (fun _ _ => Ans.no) (fun j8 x6 h7 =>
 BSL n9 n1 [(.str n0 n0)] n1 [(n0, (.str n2 (nat_lit 28265)))] h7 fun x9 h10 =>
 cl n199 [x0, x9] h10 (fun x11 h12 =>
 IFB x11 (B346x35 x0 h12 cl x6 j8 kp)
 (kr x6 h12)) kp) x2 h3) kp

theorem eqF346 : F346 = fun fu oR => compF Pr fu oR 346 1 := by kernel_rfl

def B347x34 (x0 : AV) (h14 : Heap) (cl : CL) (x8 : AV) (j10 : AV → Heap → Ans) (kp : KP) : Ans := NC x0 fun x17 =>
 FA n1 x17 fun x18 =>
 LD x18 h14 fun x19 =>
 ADD Pr 3 true x19 (.int .i64 n1) fun x20 =>
 NC x0 fun x21 =>
 FA n1 x21 fun x22 =>
 ST n1 x22 x20 h14 fun h23 =>
 cl n204 [x0] h23 (fun x24 h25 =>
 BSL n3 n1 [(.int .i64 n0)] n1 [(n0, x24)] h25 fun x28 h29 =>
 GEN (builtinF .append Pr [106, 106] [x8, x28] h29) cl (fun x30 h31 =>
 j10 x30 h31) kp) kp
def F347 (fu : Nat) (oR : Orc) (cl : CL) (args : List AV) (h1 : Heap) (kr : KR) (kp : KP) : Ans := AR1 args fun x0 =>
 cl n204 [x0] h1 (fun x2 h3 =>
 BSL n3 n1 [(.int .i64 n0)] n1 [(n0, x2)] h3 fun x6 h7 =>
 LP fu (fun _ _ => Ans.no) (fun j10 x8 h9 =>
 BSL n9 n1 [(.str n0 n0)] n1 [(n0, (.str n1 n44))] h9 fun x11 h12 =>
 cl n203 [x0, x11] h12 (fun x13 h14 =>
 IFB x13 (B347x34 x0 h14 cl x8 j10 kp)
 (kr x8 h14)) kp) x6 h7) kp

theorem eqF347 : F347 = fun fu oR => compF Pr fu oR 347 1 := by kernel_rfl

def B358x30 (cl : CL) (x0 : AV) (h15 : Heap) (x8 : AV) (x2 : AV) (kr : KR) (kp : KP) : Ans := cl n369 [x0] h15 (fun x18 h19 =>
 ADD Pr 3 true (.int .i64 n15) x8 fun x22 =>
 BSL n3 n1 [(.int .i64 n0), (.int .i64 n0)] n2 [(n0, x2), (n1, x18)] h19 fun x23 h24 =>
 OV (buildA Pr 108 [(n0, x22), (n4, x23)]) fun x25 =>
 cl n173 [x0, x25] h24 (fun x26 h27 =>
 kr x26 h27) kp) kp
def F358 (fu : Nat) (oR : Orc) (cl : CL) (args : List AV) (h1 : Heap) (kr : KR) (kp : KP) : Ans := AR1 args fun x0 =>
 cl n369 [x0] h1 (fun x2 h3 =>
 BSL n9 n1 [(.str n0 n0), (.str n0 n0), (.str n0 n0), (.str n0 n0)] n4 [(n0, (.str n1 n60)), (n1, (.str n2 (nat_lit 15676))), (n2, (.str n2 (nat_lit 15677))), (n3, (.str n2 (nat_lit 15649)))] h3 fun x6 h7 =>
 LP fu (fun _ _ => Ans.no) (fun j10 x8 h9 =>
 LSS Pr 3 true x8 (.int .i64 n4) fun x11 =>
 IFB x11 (SA n1 x6 x8 fun x12 =>
 LD x12 h9 fun x13 =>
 cl n111 [x0, x13] h9 (fun x14 h15 =>
 IFB x14 (B358x30 cl x0 h15 x8 x2 kr kp)
 (ADD Pr 3 true x8 (.int .i64 n1) fun x31 =>
 j10 x31 h15)) kp)
 (kr x2 h9)) (.int .i64 n0) h7) kp

theorem eqF358 : F358 = fun fu oR => compF Pr fu oR 358 1 := by kernel_rfl

def F361 (fu : Nat) (oR : Orc) (cl : CL) (args : List AV) (h1 : Heap) (kr : KR) (kp : KP) : Ans := AR1 args fun x0 =>
 BSL n9 n1 [(.str n0 n0), (.str n0 n0)] n2 [(n0, (.str n1 n126)), (n1, (.str n2 (nat_lit 32289)))] h1 fun x2 h3 =>
 BSL n3 n1 [(.int .i64 n0), (.int .i64 n0)] n2 [(n0, (.int .i64 n13)), (n1, (.int .i64 n14))] h3 fun x4 h5 =>
 cl n323 [x0, (.func (.func 370) [x0] []), x2, x4] h5 (fun x6 h7 =>
 kr x6 h7) kp

theorem eqF361 : F361 = fun fu oR => compF Pr fu oR 361 1 := by kernel_rfl

def B369x29 (cl : CL) (x0 : AV) (h16 : Heap) (x6 : AV) (j8 : AV → Heap → Ans) (kp : KP) : Ans := cl n372 [x0] h16 (fun x18 h19 =>
 BSL n3 n1 [(.int .i64 n0), (.int .i64 n0)] n2 [(n0, x6), (n1, x18)] h19 fun x22 h23 =>
 OV (buildA Pr 108 [(n0, (.int .i64 n19)), (n4, x22)]) fun x24 =>
 cl n173 [x0, x24] h23 (fun x25 h26 =>
 j8 x25 h26) kp) kp
def B369x36 (x0 : AV) (h7 : Heap) (cl : CL) (x6 : AV) (j8 : AV → Heap → Ans) (kp : KP) (kr : KR) : Ans := NC x0 fun x9 =>
 FA n5 x9 fun x10 =>
 LD x10 h7 fun x11 =>
 OV (unOpA .not x11) fun x12 =>
 JO (fun x13 h14 =>
 JO (fun x15 h16 =>
 SEL x12 x15 (.bool false) fun x17 =>
 IFB x17 (B369x29 cl x0 h16 x6 j8 kp)
 (kr x6 h16)) fun j30 =>
 GW true x12 (cl n373 [x13] h14 (fun x31 h32 =>
 j30 x31 h32) kp)
 (j30 undefA h14)) fun j35 =>
 GW true x12 (j35 x0 h7)
 (j35 undefA h7)
def F369 (fu : Nat) (oR : Orc) (cl : CL) (args : List AV) (h1 : Heap) (kr : KR) (kp : KP) : Ans := AR1 args fun x0 =>
 cl n372 [x0] h1 (fun x2 h3 =>
 LP fu (fun _ _ => Ans.no) (fun j8 x6 h7 =>
 B369x36 x0 h7 cl x6 j8 kp kr) x2 h3) kp

theorem eqF369 : F369 = fun fu oR => compF Pr fu oR 369 1 := by kernel_rfl

def B370x33 (cl : CL) (x0 : AV) (h9 : Heap) (x6 : AV) (x2 : AV) (kr : KR) (kp : KP) : Ans := cl n200 [x0] h9 (fun x13 h14 =>
 OV (fieldA Pr 130 x13 1) fun x17 =>
 cl n265 [x6, x17] h14 (fun x18 h19 =>
 ADD Pr 3 true (.int .i64 n15) x18 fun x22 =>
 cl n374 [x0] h19 (fun x23 h24 =>
 BSL n3 n1 [(.int .i64 n0), (.int .i64 n0)] n2 [(n0, x2), (n1, x23)] h24 fun x27 h28 =>
 cl n260 [x0, x22, x27] h28 (fun x29 h30 =>
 kr x29 h30) kp) kp) kp) kp
def F370 (fu : Nat) (oR : Orc) (cl : CL) (args : List AV) (h1 : Heap) (kr : KR) (kp : KP) : Ans := AR1 args fun x0 =>
 cl n374 [x0] h1 (fun x2 h3 =>
 BSL n9 n1 [(.str n0 n0), (.str n0 n0), (.str n0 n0), (.str n0 n0)] n4 [(n0, (.str n1 n60)), (n1, (.str n2 (nat_lit 15676))), (n2, (.str n2 (nat_lit 15677))), (n3, (.str n2 (nat_lit 15649)))] h3 fun x6 h7 =>
 cl n203 [x0, x6] h7 (fun x8 h9 =>
 OV (unOpA .not x8) fun x12 =>
 IFB x12 (kr x2 h9)
 (B370x33 cl x0 h9 x6 x2 kr kp)) kp) kp

theorem eqF370 : F370 = fun fu oR => compF Pr fu oR 370 1 := by kernel_rfl

def B372x46 (x0 : AV) (h27 : Heap) (cl : CL) (x6 : AV) (x26 : AV) (j8 : AV → Heap → Ans) (kp : KP) : Ans := NC x0 fun x28 =>
 FA n1 x28 fun x29 =>
 LD x29 h27 fun x30 =>
 ADD Pr 3 true x30 (.int .i64 n1) fun x31 =>
 NC x0 fun x32 =>
 FA n1 x32 fun x33 =>
 ST n1 x33 x31 h27 fun h34 =>
 cl n375 [x0] h34 (fun x35 h36 =>
 BSL n3 n1 [(.int .i64 n0), (.int .i64 n0)] n2 [(n0, x6), (n1, x35)] h36 fun x39 h40 =>
 OV (buildA Pr 108 [(n0, x26), (n4, x39)]) fun x41 =>
 cl n173 [x0, x41] h40 (fun x42 h43 =>
 j8 x42 h43) kp) kp
def B372x54 (x12 : AV) (x0 : AV) (cl : CL) (x6 : AV) (j8 : AV → Heap → Ans) (kp : KP) (kr : KR) (x17 : AV) (x21 : AV) (h22 : Heap) : Ans := JO (fun x23 h24 =>
 SEL x12 x23 (.bool false) fun x25 =>
 IFB x25 (JO (fun x26 h27 =>
 B372x46 x0 h27 cl x6 x26 j8 kp) fun j47 =>
 cl n113 [x0, (.str n1 n45)] h24 (fun x48 h49 =>
 IFB x48 (j47 (.int .i64 n21) h49)
 (j47 (.int .i64 n20) h49)) kp)
 (kr x6 h24)) fun j52 =>
 GW true x12 (SEL x17 (.bool true) x21 fun x53 =>
 j52 x53 h22)
 (j52 undefA h22)
def B372x62 (x12 : AV) (x0 : AV) (cl : CL) (x6 : AV) (j8 : AV → Heap → Ans) (kp : KP) (kr : KR) (x15 : AV) (h16 : Heap) : Ans := JO (fun x17 h18 =>
 JO (fun x19 h20 =>
 JO (fun x21 h22 =>
 B372x54 x12 x0 cl x6 j8 kp kr x17 x21 h22) fun j55 =>
 GW false x17 (cl n113 [x19, (.str n1 n45)] h20 (fun x56 h57 =>
 j55 x56 h57) kp)
 (j55 undefA h20)) fun j60 =>
 GW false x17 (j60 x0 h18)
 (j60 undefA h18)) fun j61 =>
 GW true x12 (j61 x15 h16)
 (j61 undefA h16)
def B372x69 (x0 : AV) (h7 : Heap) (cl : CL) (x6 : AV) (j8 : AV → Heap → Ans) (kp : KP) (kr : KR) : Ans := NC x0 fun x9 =>
 FA n5 x9 fun x10 =>
 LD x10 h7 fun x11 =>
 OV (unOpA .not x11) fun x12 =>
 JO (fun x13 h14 =>
 JO (fun x15 h16 =>
 B372x62 x12 x0 cl x6 j8 kp kr x15 h16) fun j63 =>
 GW true x12 (cl n113 [x13, (.str n1 n43)] h14 (fun x64 h65 =>
 j63 x64 h65) kp)
 (j63 undefA h14)) fun j68 =>
 GW true x12 (j68 x0 h7)
 (j68 undefA h7)
def F372 (fu : Nat) (oR : Orc) (cl : CL) (args : List AV) (h1 : Heap) (kr : KR) (kp : KP) : Ans := AR1 args fun x0 =>
 cl n375 [x0] h1 (fun x2 h3 =>
 LP fu (fun _ _ => Ans.no) (fun j8 x6 h7 =>
 B372x69 x0 h7 cl x6 j8 kp kr) x2 h3) kp

theorem eqF372 : F372 = fun fu oR => compF Pr fu oR 372 1 := by kernel_rfl

def B373x30 (x6 : AV) (h12 : Heap) (kr : KR) : Ans := FA n1 x6 fun x14 =>
 LD x14 h12 fun x15 =>
 EQL Pr 9 true x15 (.str n1 n40) fun x16 =>
 JO (fun x17 h18 =>
 JO (fun x19 h20 =>
 JO (fun x21 h22 =>
 SEL x16 (.bool true) x21 fun x23 =>
 kr x23 h22) fun j24 =>
 GW false x16 (EQL Pr 9 true x19 (.str n1 n36) fun x25 =>
 j24 x25 h20)
 (j24 undefA h20)) fun j26 =>
 GW false x16 (LD x17 h18 fun x27 =>
 j26 x27 h18)
 (j26 undefA h18)) fun j28 =>
 GW false x16 (FA n1 x6 fun x29 =>
 j28 x29 h12)
 (j28 undefA h12)
def B373x76 (x55 : AV) (x60 : AV) (kr : KR) (x6 : AV) (h61 : Heap) : Ans := SEL x55 (.bool true) x60 fun x62 =>
 JO (fun x63 h64 =>
 JO (fun x65 h66 =>
 JO (fun x67 h68 =>
 SEL x62 (.bool true) x67 fun x69 =>
 kr x69 h68) fun j70 =>
 GW false x62 (EQL Pr 9 true x65 (.str n3 (nat_lit 7630441)) fun x71 =>
 j70 x71 h66)
 (j70 undefA h66)) fun j72 =>
 GW false x62 (LD x63 h64 fun x73 =>
 j72 x73 h64)
 (j72 undefA h64)) fun j74 =>
 GW false x62 (FA n1 x6 fun x75 =>
 j74 x75 h61)
 (j74 undefA h61)
def B373x83 (x48 : AV) (x53 : AV) (kr : KR) (x6 : AV) (h54 : Heap) : Ans := SEL x48 (.bool true) x53 fun x55 =>
 JO (fun x56 h57 =>
 JO (fun x58 h59 =>
 JO (fun x60 h61 =>
 B373x76 x55 x60 kr x6 h61) fun j77 =>
 GW false x55 (EQL Pr 9 true x58 (.str n7 (nat_lit 32199680942501748)) fun x78 =>
 j77 x78 h59)
 (j77 undefA h59)) fun j79 =>
 GW false x55 (LD x56 h57 fun x80 =>
 j79 x80 h57)
 (j79 undefA h57)) fun j81 =>
 GW false x55 (FA n1 x6 fun x82 =>
 j81 x82 h54)
 (j81 undefA h54)
def B373x90 (x41 : AV) (x46 : AV) (kr : KR) (x6 : AV) (h47 : Heap) : Ans := SEL x41 (.bool true) x46 fun x48 =>
 JO (fun x49 h50 =>
 JO (fun x51 h52 =>
 JO (fun x53 h54 =>
 B373x83 x48 x53 kr x6 h54) fun j84 =>
 GW false x48 (EQL Pr 9 true x51 (.str n5 (nat_lit 499984920691)) fun x85 =>
 j84 x85 h52)
 (j84 undefA h52)) fun j86 =>
 GW false x48 (LD x49 h50 fun x87 =>
 j86 x87 h50)
 (j86 undefA h50)) fun j88 =>
 GW false x48 (FA n1 x6 fun x89 =>
 j88 x89 h47)
 (j88 undefA h47)
def B373x97 (x34 : AV) (x39 : AV) (kr : KR) (x6 : AV) (h40 : Heap) : Ans := SEL x34 (.bool true) x39 fun x41 =>
 JO (fun x42 h43 =>
 JO (fun x44 h45 =>
 JO (fun x46 h47 =>
 B373x90 x41 x46 kr x6 h47) fun j91 =>
 GW false x41 (EQL Pr 9 true x44 (.str n5 (nat_lit 517097156201)) fun x92 =>
 j91 x92 h45)
 (j91 undefA h45)) fun j93 =>
 GW false x41 (LD x42 h43 fun x94 =>
 j93 x94 h43)
 (j93 undefA h43)) fun j95 =>
 GW false x41 (FA n1 x6 fun x96 =>
 j95 x96 h40)
 (j95 undefA h40)
def B373x104 (x6 : AV) (h12 : Heap) (kr : KR) : Ans := FA n1 x6 fun x32 =>
 LD x32 h12 fun x33 =>
 EQL Pr 9 true x33 (.str n6 (nat_lit 114849160783212)) fun x34 =>
 JO (fun x35 h36 =>
 JO (fun x37 h38 =>
 JO (fun x39 h40 =>
 B373x97 x34 x39 kr x6 h40) fun j98 =>
 GW false x34 (EQL Pr 9 true x37 (.str n6 (nat_lit 125844477605235)) fun x99 =>
 j98 x99 h38)
 (j98 undefA h38)) fun j100 =>
 GW false x34 (LD x35 h36 fun x101 =>
 j100 x101 h36)
 (j100 undefA h36)) fun j102 =>
 GW false x34 (FA n1 x6 fun x103 =>
 j102 x103 h12)
 (j102 undefA h12)
def F373 (fu : Nat) (oR : Orc) (cl : CL) (args : List AV) (h1 : Heap) (kr : KR) (kp : KP) : Ans := AR1 args fun x0 =>
 cl n168 [x0] h1 (fun x2 h3 =>
 NEWC (.n (some (.int .i64 n0)) (.n (some (.str n0 n0)) (.n (some (.int .i64 n0)) .e .e) .e) (.n (some (.int .i64 n0)) .e .e)) n4 130 h3 fun x6 h7 =>
 ST n4 x6 x2 h7 fun h8 =>
 FA n0 x6 fun x9 =>
 LD x9 h8 fun x10 =>
 JO (fun x11 h12 =>
 IFB x11 (kr (.bool true) h12)
 (EQL Pr 3 true x10 (.int .i64 n7) fun x13 =>
 IFB x13 (B373x30 x6 h12 kr)
 (EQL Pr 3 true x10 (.int .i64 n6) fun x31 =>
 IFB x31 (B373x104 x6 h12 kr)
 (kr (.bool false) h12)))) fun j105 =>
 EQL Pr 3 true x10 (.int .i64 n1) fun x106 =>
 IFB x106 (j105 x106 h8)
 (EQL Pr 3 true x10 (.int .i64 n2) fun x107 =>
 IFB x107 (j105 x107 h8)
 (EQL Pr 3 true x10 (.int .i64 n4) fun x108 =>
 IFB x108 (j105 x108 h8)
 (EQL Pr 3 true x10 (.int .i64 n5) fun x109 =>
 j105 x109 h8)))) kp

theorem eqF373 : F373 = fun fu oR => compF Pr fu oR 373 1 := by kernel_rfl

def B374x45 (j27 : Heap → Ans) (kr : KR) (x6 : AV) (h29 : Heap) (cl : CL) (x0 : AV) (kp : KP) : Ans := JO (fun x30 h31 =>
 IFB x30 (j27  h31)
 (kr x6 h31)) fun j32 =>
 BSL n9 n1 [(.str n0 n0), (.str n0 n0), (.str n0 n0), (.str n0 n0), (.str n0 n0), (.str n0 n0)] n6 [(n0, (.str n6 (nat_lit 114849160783212))), (n1, (.str n6 (nat_lit 125844477605235))), (n2, (.str n5 (nat_lit 517097156201))), (n3, (.str n5 (nat_lit 499984920691))), (n4, (.str n7 (nat_lit 32199680942501748))), (n5, (.str n3 (nat_lit 7630441)))] h29 fun x33 h34 =>
 cl n199 [x0, x33] h34 (fun x35 h36 =>
 IFB x35 (j32 x35 h36)
 (BSL n9 n1 [(.str n0 n0), (.str n0 n0)] n2 [(n0, (.str n1 n40)), (n1, (.str n1 n36))] h36 fun x39 h40 =>
 cl n203 [x0, x39] h40 (fun x41 h42 =>
 j32 x41 h42) kp)) kp
def B374x59 (x13 : AV) (h15 : Heap) (j46 : AV → Heap → Ans) : Ans := FA n0 x13 fun x50 =>
 LD x50 h15 fun x51 =>
 EQL Pr 3 true x51 (.int .i64 n2) fun x52 =>
 IFB x52 (j46 x52 h15)
 (FA n0 x13 fun x53 =>
 LD x53 h15 fun x54 =>
 EQL Pr 3 true x54 (.int .i64 n4) fun x55 =>
 IFB x55 (j46 x55 h15)
 (FA n0 x13 fun x56 =>
 LD x56 h15 fun x57 =>
 EQL Pr 3 true x57 (.int .i64 n5) fun x58 =>
 j46 x58 h15))
def B374x60 (cl : CL) (x0 : AV) (h7 : Heap) (x6 : AV) (j8 : AV → Heap → Ans) (kp : KP) (kr : KR) : Ans := cl n254 [x0, (.int .i64 n0)] h7 (fun x9 h10 =>
 NEWC (.n (some (.int .i64 n0)) (.n (some (.str n0 n0)) (.n (some (.int .i64 n0)) .e .e) .e) (.n (some (.int .i64 n0)) .e .e)) n4 130 h10 fun x13 h14 =>
 ST n4 x13 x9 h14 fun h15 =>
 JO (fun h16 =>
 cl n376 [x0] h16 (fun x17 h18 =>
 BSL n3 n1 [(.int .i64 n0), (.int .i64 n0)] n2 [(n0, x6), (n1, x17)] h18 fun x21 h22 =>
 cl n260 [x0, (.int .i64 n19), x21] h22 (fun x23 h24 =>
 j8 x23 h24) kp) kp) fun j27 =>
 JO (fun x28 h29 =>
 IFB x28 (j27  h29)
 (B374x45 j27 kr x6 h29 cl x0 kp)) fun j46 =>
 FA n0 x13 fun x47 =>
 LD x47 h15 fun x48 =>
 EQL Pr 3 true x48 (.int .i64 n1) fun x49 =>
 IFB x49 (j46 x49 h15)
 (B374x59 x13 h15 j46)) kp
def F374 (fu : Nat) (oR : Orc) (cl : CL) (args : List AV) (h1 : Heap) (kr : KR) (kp : KP) : Ans := AR1 args fun x0 =>
 cl n376 [x0] h1 (fun x2 h3 =>
 LP fu (fun _ _ => Ans.no) (fun j8 x6 h7 =>
 B374x60 cl x0 h7 x6 j8 kp kr) x2 h3) kp

theorem eqF374 : F374 = fun fu oR => compF Pr fu oR 374 1 := by kernel_rfl

def B375x56 (x0 : AV) (h37 : Heap) (cl : CL) (x6 : AV) (x36 : AV) (j8 : AV → Heap → Ans) (kp : KP) : Ans := NC x0 fun x38 =>
 FA n1 x38 fun x39 =>
 LD x39 h37 fun x40 =>
 ADD Pr 3 true x40 (.int .i64 n1) fun x41 =>
 NC x0 fun x42 =>
 FA n1 x42 fun x43 =>
 ST n1 x43 x41 h37 fun h44 =>
 cl n377 [x0] h44 (fun x45 h46 =>
 BSL n3 n1 [(.int .i64 n0), (.int .i64 n0)] n2 [(n0, x6), (n1, x45)] h46 fun x49 h50 =>
 OV (buildA Pr 108 [(n0, x36), (n4, x49)]) fun x51 =>
 cl n173 [x0, x51] h50 (fun x52 h53 =>
 j8 x52 h53) kp) kp
def B375x67 (x0 : AV) (cl : CL) (x6 : AV) (j8 : AV → Heap → Ans) (kp : KP) (h32 : Heap) : Ans := JO (fun x34 h35 =>
 JO (fun x36 h37 =>
 B375x56 x0 h37 cl x6 x36 j8 kp) fun j57 =>
 cl n113 [x0, (.str n1 n37)] h35 (fun x58 h59 =>
 IFB x58 (j57 (.int .i64 n24) h59)
 (j57 x34 h59)) kp) fun j62 =>
 cl n113 [x0, (.str n1 n47)] h32 (fun x63 h64 =>
 IFB x63 (j62 (.int .i64 n23) h64)
 (j62 (.int .i64 n22) h64)) kp
def B375x75 (x12 : AV) (x0 : AV) (cl : CL) (x6 : AV) (j8 : AV → Heap → Ans) (kp : KP) (kr : KR) (x25 : AV) (x27 : AV) (h28 : Heap) : Ans := JO (fun x29 h30 =>
 JO (fun x31 h32 =>
 SEL x12 x31 (.bool false) fun x33 =>
 IFB x33 (B375x67 x0 cl x6 j8 kp h32)
 (kr x6 h32)) fun j68 =>
 GW true x12 (SEL x25 (.bool true) x29 fun x69 =>
 j68 x69 h30)
 (j68 undefA h30)) fun j70 =>
 GW false x25 (cl n113 [x27, (.str n1 n37)] h28 (fun x71 h72 =>
 j70 x71 h72) kp)
 (j70 undefA h28)
def B375x80 (x12 : AV) (x0 : AV) (cl : CL) (x6 : AV) (j8 : AV → Heap → Ans) (kp : KP) (kr : KR) (x17 : AV) (x21 : AV) (h22 : Heap) : Ans := JO (fun x23 h24 =>
 JO (fun x25 h26 =>
 JO (fun x27 h28 =>
 B375x75 x12 x0 cl x6 j8 kp kr x25 x27 h28) fun j76 =>
 GW false x25 (j76 x0 h26)
 (j76 undefA h26)) fun j77 =>
 GW true x12 (j77 x23 h24)
 (j77 undefA h24)) fun j78 =>
 GW true x12 (SEL x17 (.bool true) x21 fun x79 =>
 j78 x79 h22)
 (j78 undefA h22)
def B375x88 (x12 : AV) (x0 : AV) (cl : CL) (x6 : AV) (j8 : AV → Heap → Ans) (kp : KP) (kr : KR) (x15 : AV) (h16 : Heap) : Ans := JO (fun x17 h18 =>
 JO (fun x19 h20 =>
 JO (fun x21 h22 =>
 B375x80 x12 x0 cl x6 j8 kp kr x17 x21 h22) fun j81 =>
 GW false x17 (cl n113 [x19, (.str n1 n47)] h20 (fun x82 h83 =>
 j81 x82 h83) kp)
 (j81 undefA h20)) fun j86 =>
 GW false x17 (j86 x0 h18)
 (j86 undefA h18)) fun j87 =>
 GW true x12 (j87 x15 h16)
 (j87 undefA h16)
def B375x95 (x0 : AV) (h7 : Heap) (cl : CL) (x6 : AV) (j8 : AV → Heap → Ans) (kp : KP) (kr : KR) : Ans := NC x0 fun x9 =>
 FA n5 x9 fun x10 =>
 LD x10 h7 fun x11 =>
 OV (unOpA .not x11) fun x12 =>
 JO (fun x13 h14 =>
 JO (fun x15 h16 =>
 B375x88 x12 x0 cl x6 j8 kp kr x15 h16) fun j89 =>
 GW true x12 (cl n113 [x13, (.str n1 n42)] h14 (fun x90 h91 =>
 j89 x90 h91) kp)
 (j89 undefA h14)) fun j94 =>
 GW true x12 (j94 x0 h7)
 (j94 undefA h7)
def F375 (fu : Nat) (oR : Orc) (cl : CL) (args : List AV) (h1 : Heap) (kr : KR) (kp : KP) : Ans := AR1 args fun x0 =>
 cl n377 [x0] h1 (fun x2 h3 =>
 LP fu (fun _ _ => Ans.no) (fun j8 x6 h7 =>
 B375x95 x0 h7 cl x6 j8 kp kr) x2 h3) kp

theorem eqF375 : F375 = fun fu oR => compF Pr fu oR 375 1 := by kernel_rfl

def F376 (fu : Nat) (oR : Orc) (cl : CL) (args : List AV) (h1 : Heap) (kr : KR) (kp : KP) : Ans := AR1 args fun x0 =>
 BSL n9 n1 [(.str n0 n0), (.str n0 n0)] n2 [(n0, (.str n1 n43)), (n1, (.str n1 n45))] h1 fun x2 h3 =>
 BSL n3 n1 [(.int .i64 n0), (.int .i64 n0)] n2 [(n0, (.int .i64 n20)), (n1, (.int .i64 n21))] h3 fun x4 h5 =>
 cl n323 [x0, (.func (.func 378) [x0] []), x2, x4] h5 (fun x6 h7 =>
 kr x6 h7) kp

theorem eqF376 : F376 = fun fu oR => compF Pr fu oR 376 1 := by kernel_rfl

def B377x43 (cl : CL) (x0 : AV) (h21 : Heap) (x2 : AV) (kr : KR) (kp : KP) : Ans := cl n377 [x0] h21 (fun x25 h26 =>
 NC x0 fun x29 =>
 FA n2 x29 fun x30 =>
 LD x30 h26 fun x31 =>
 SUB Pr 3 true x31 (.int .i64 n1) fun x32 =>
 NC x0 fun x33 =>
 FA n2 x33 fun x34 =>
 ST n1 x34 x32 h26 fun h35 =>
 BSL n3 n1 [(.int .i64 n0)] n1 [(n0, x25)] h35 fun x36 h37 =>
 OV (buildA Pr 108 [(n0, x2), (n4, x36)]) fun x38 =>
 cl n173 [x0, x38] h37 (fun x39 h40 =>
 kr x39 h40) kp) kp
def B377x46 (x8 : AV) (cl : CL) (x0 : AV) (kr : KR) (kp : KP) (x2 : AV) (x11 : AV) (h12 : Heap) : Ans := JO (fun x13 h14 =>
 SEL x8 x13 (.bool false) fun x15 =>
 IFB x15 (cl n379 [x0] h14 (fun x16 h17 =>
 kr x16 h17) kp)
 (cl n171 [x0] h14 (fun x20 h21 =>
 OV (unOpA .not x20) fun x24 =>
 IFB x24 (kr (.int .i64 n0) h21)
 (B377x43 cl x0 h21 x2 kr kp)) kp)) fun j44 =>
 GW true x8 (OV (unOpA .not x11) fun x45 =>
 j44 x45 h12)
 (j44 undefA h12)
def B377x53 (cl : CL) (x0 : AV) (h3 : Heap) (kr : KR) (kp : KP) (x2 : AV) : Ans := cl n111 [x0, (.str n1 n45)] h3 (fun x4 h5 =>
 OV (unOpA .not x4) fun x8 =>
 JO (fun x9 h10 =>
 JO (fun x11 h12 =>
 B377x46 x8 cl x0 kr kp x2 x11 h12) fun j47 =>
 GW true x8 (cl n111 [x9, (.str n1 n33)] h10 (fun x48 h49 =>
 j47 x48 h49) kp)
 (j47 undefA h10)) fun j52 =>
 GW true x8 (j52 x0 h5)
 (j52 undefA h5)) kp
def F377 (fu : Nat) (oR : Orc) (cl : CL) (args : List AV) (h1 : Heap) (kr : KR) (kp : KP) : Ans := AR1 args fun x0 =>
 JO (fun x2 h3 =>
 B377x53 cl x0 h3 kr kp x2) fun j54 =>
 cl n113 [x0, (.str n1 n33)] h1 (fun x55 h56 =>
 IFB x55 (j54 (.int .i64 n12) h56)
 (j54 (.int .i64 n25) h56)) kp

theorem eqF377 : F377 = fun fu oR => compF Pr fu oR 377 1 := by kernel_rfl

def F378 (fu : Nat) (oR : Orc) (cl : CL) (args : List AV) (h1 : Heap) (kr : KR) (kp : KP) : Ans := AR1 args fun x0 =>
 BSL n9 n1 [(.str n0 n0), (.str n0 n0), (.str n0 n0)] n3 [(n0, (.str n1 n42)), (n1, (.str n1 n47)), (n2, (.str n1 n37))] h1 fun x2 h3 =>
 BSL n3 n1 [(.int .i64 n0), (.int .i64 n0), (.int .i64 n0)] n3 [(n0, (.int .i64 n22)), (n1, (.int .i64 n23)), (n2, (.int .i64 n24))] h3 fun x4 h5 =>
 cl n323 [x0, (.func (.func 380) [x0] []), x2, x4] h5 (fun x6 h7 =>
 kr x6 h7) kp

theorem eqF378 : F378 = fun fu oR => compF Pr fu oR 378 1 := by kernel_rfl

def B379x34 (x0 : AV) (h11 : Heap) (x9 : AV) (cl : CL) (kr : KR) (kp : KP) : Ans := NC x0 fun x20 =>
 FA n1 x20 fun x21 =>
 LD x21 h11 fun x22 =>
 ADD Pr 3 true x22 (.int .i64 n1) fun x23 =>
 NC x0 fun x24 =>
 FA n1 x24 fun x25 =>
 ST n1 x25 x23 h11 fun h26 =>
 FA n2 x9 fun x27 =>
 LD x27 h26 fun x28 =>
 OV (buildA Pr 108 [(n0, (.int .i64 n0)), (n3, x28)]) fun x29 =>
 cl n173 [x0, x29] h26 (fun x30 h31 =>
 kr x30 h31) kp
def B379x50 (x0 : AV) (h11 : Heap) (x9 : AV) (cl : CL) (kr : KR) (kp : KP) : Ans := NC x0 fun x36 =>
 FA n1 x36 fun x37 =>
 LD x37 h11 fun x38 =>
 ADD Pr 3 true x38 (.int .i64 n1) fun x39 =>
 NC x0 fun x40 =>
 FA n1 x40 fun x41 =>
 ST n1 x41 x39 h11 fun h42 =>
 FA n1 x9 fun x43 =>
 LD x43 h42 fun x44 =>
 OV (buildA Pr 108 [(n0, (.int .i64 n1)), (n1, x44)]) fun x45 =>
 cl n173 [x0, x45] h42 (fun x46 h47 =>
 kr x46 h47) kp
def B379x66 (x0 : AV) (h11 : Heap) (x9 : AV) (cl : CL) (kr : KR) (kp : KP) : Ans := NC x0 fun x52 =>
 FA n1 x52 fun x53 =>
 LD x53 h11 fun x54 =>
 ADD Pr 3 true x54 (.int .i64 n1) fun x55 =>
 NC x0 fun x56 =>
 FA n1 x56 fun x57 =>
 ST n1 x57 x55 h11 fun h58 =>
 FA n1 x9 fun x59 =>
 LD x59 h58 fun x60 =>
 OV (buildA Pr 108 [(n0, (.int .i64 n2)), (n1, x60)]) fun x61 =>
 cl n173 [x0, x61] h58 (fun x62 h63 =>
 kr x62 h63) kp
def B379x96 (cl : CL) (x0 : AV) (h76 : Heap) (x9 : AV) (kr : KR) (kp : KP) : Ans := cl n114 [x0] h76 (fun x79 h80 =>
 cl n169 [x0, (.str n1 n93)] h80 (fun x83 h84 =>
 FA n1 x9 fun x87 =>
 LD x87 h84 fun x88 =>
 BSL n3 n1 [(.int .i64 n0)] n1 [(n0, x79)] h84 fun x89 h90 =>
 OV (buildA Pr 108 [(n0, (.int .i64 n5)), (n1, x88), (n4, x89)]) fun x91 =>
 cl n173 [x0, x91] h90 (fun x92 h93 =>
 kr x92 h93) kp) kp) kp
def B379x104 (x0 : AV) (h11 : Heap) (cl : CL) (x9 : AV) (kr : KR) (kp : KP) : Ans := NC x0 fun x68 =>
 FA n1 x68 fun x69 =>
 LD x69 h11 fun x70 =>
 ADD Pr 3 true x70 (.int .i64 n1) fun x71 =>
 NC x0 fun x72 =>
 FA n1 x72 fun x73 =>
 ST n1 x73 x71 h11 fun h74 =>
 cl n111 [x0, (.str n1 n91)] h74 (fun x75 h76 =>
 IFB x75 (B379x96 cl x0 h76 x9 kr kp)
 (FA n1 x9 fun x97 =>
 LD x97 h76 fun x98 =>
 OV (buildA Pr 108 [(n0, (.int .i64 n3)), (n1, x98)]) fun x99 =>
 cl n173 [x0, x99] h76 (fun x100 h101 =>
 kr x100 h101) kp)) kp
def B379x124 (x0 : AV) (h11 : Heap) (cl : CL) (x9 : AV) (kr : KR) (kp : KP) : Ans := NC x0 fun x106 =>
 FA n1 x106 fun x107 =>
 LD x107 h11 fun x108 =>
 ADD Pr 3 true x108 (.int .i64 n1) fun x109 =>
 NC x0 fun x110 =>
 FA n1 x110 fun x111 =>
 ST n1 x111 x109 h11 fun h112 =>
 cl n381 [x0, (.int .i64 n0), (.int .i64 n4000)] h112 (fun x113 h114 =>
 FA n1 x9 fun x117 =>
 LD x117 h114 fun x118 =>
 OV (buildA Pr 108 [(n0, (.int .i64 n26)), (n1, x118), (n4, x113)]) fun x119 =>
 cl n173 [x0, x119] h114 (fun x120 h121 =>
 kr x120 h121) kp) kp
def B379x176 (cl : CL) (x0 : AV) (h154 : Heap) (kr : KR) (kp : KP) : Ans := cl n379 [x0] h154 (fun x158 h159 =>
 NC x0 fun x162 =>
 FA n2 x162 fun x163 =>
 LD x163 h159 fun x164 =>
 SUB Pr 3 true x164 (.int .i64 n1) fun x165 =>
 NC x0 fun x166 =>
 FA n2 x166 fun x167 =>
 ST n1 x167 x165 h159 fun h168 =>
 BSL n3 n1 [(.int .i64 n0)] n1 [(n0, x158)] h168 fun x169 h170 =>
 OV (buildA Pr 108 [(n0, (.int .i64 n4)), (n4, x169)]) fun x171 =>
 cl n173 [x0, x171] h170 (fun x172 h173 =>
 kr x172 h173) kp) kp
def B379x177 (cl : CL) (x0 : AV) (h11 : Heap) (kr : KR) (kp : KP) (j18 : Heap → Ans) : Ans := cl n111 [x0, (.str n1 n40)] h11 (fun x137 h138 =>
 IFB x137 (cl n114 [x0] h138 (fun x141 h142 =>
 cl n169 [x0, (.str n1 n41)] h142 (fun x145 h146 =>
 kr x141 h146) kp) kp)
 (cl n111 [x0, (.str n1 n36)] h138 (fun x149 h150 =>
 IFB x149 (cl n171 [x0] h150 (fun x153 h154 =>
 OV (unOpA .not x153) fun x157 =>
 IFB x157 (kr (.int .i64 n0) h154)
 (B379x176 cl x0 h154 kr kp)) kp)
 (j18  h150)) kp)) kp
def B379x178 (x13 : AV) (cl : CL) (x0 : AV) (h11 : Heap) (x9 : AV) (kr : KR) (kp : KP) (j18 : Heap → Ans) : Ans := EQL Pr 3 true x13 (.int .i64 n6) fun x125 =>
 IFB x125 (cl n373 [x0] h11 (fun x126 h127 =>
 IFB x126 (FA n1 x9 fun x130 =>
 LD x130 h127 fun x131 =>
 cl n382 [x0, x131] h127 (fun x132 h133 =>
 kr x132 h133) kp)
 (j18  h127)) kp)
 (EQL Pr 3 true x13 (.int .i64 n7) fun x136 =>
 IFB x136 (B379x177 cl x0 h11 kr kp j18)
 (j18  h11))
def B379x179 (x13 : AV) (x0 : AV) (h11 : Heap) (x9 : AV) (cl : CL) (kr : KR) (kp : KP) (j18 : Heap → Ans) : Ans := EQL Pr 3 true x13 (.int .i64 n3) fun x51 =>
 IFB x51 (B379x66 x0 h11 x9 cl kr kp)
 (EQL Pr 3 true x13 (.int .i64 n4) fun x67 =>
 IFB x67 (B379x104 x0 h11 cl x9 kr kp)
 (EQL Pr 3 true x13 (.int .i64 n5) fun x105 =>
 IFB x105 (B379x124 x0 h11 cl x9 kr kp)
 (B379x178 x13 cl x0 h11 x9 kr kp j18)))
def B379x180 (cl : CL) (x0 : AV) (h1 : Heap) (kr : KR) (kp : KP) : Ans := cl n168 [x0] h1 (fun x5 h6 =>
 NEWC (.n (some (.int .i64 n0)) (.n (some (.str n0 n0)) (.n (some (.int .i64 n0)) .e .e) .e) (.n (some (.int .i64 n0)) .e .e)) n4 130 h6 fun x9 h10 =>
 ST n4 x9 x5 h10 fun h11 =>
 FA n0 x9 fun x12 =>
 LD x12 h11 fun x13 =>
 JO (fun h14 =>
 NC x0 fun x15 =>
 FA n5 x15 fun x16 =>
 ST n1 x16 (.bool true) h14 fun h17 =>
 kr (.int .i64 n0) h17) fun j18 =>
 EQL Pr 3 true x13 (.int .i64 n1) fun x19 =>
 IFB x19 (B379x34 x0 h11 x9 cl kr kp)
 (EQL Pr 3 true x13 (.int .i64 n2) fun x35 =>
 IFB x35 (B379x50 x0 h11 x9 cl kr kp)
 (B379x179 x13 x0 h11 x9 cl kr kp j18))) kp
def F379 (fu : Nat) (oR : Orc) (cl : CL) (args : List AV) (h1 : Heap) (kr : KR) (kp : KP) : Ans := AR1 args fun x0 =>
 NC x0 fun x2 =>
 FA n5 x2 fun x3 =>
 LD x3 h1 fun x4 =>
 IFB x4 (kr (.int .i64 n0) h1)
 (B379x180 cl x0 h1 kr kp)

theorem eqF379 : F379 = fun fu oR => compF Pr fu oR 379 1 := by kernel_rfl

def B380x32 (cl : CL) (x0 : AV) (kr : KR) (kp : KP) (h5 : Heap) : Ans := JO (fun x13 h14 =>
 cl n257 [x0, (.func (.func 380) [x0] [])] h14 (fun x15 h16 =>
 BSL n3 n1 [(.int .i64 n0)] n1 [(n0, x15)] h16 fun x19 h20 =>
 cl n260 [x0, x13, x19] h20 (fun x21 h22 =>
 kr x21 h22) kp) kp) fun j25 =>
 cl n200 [x0] h5 (fun x26 h27 =>
 OV (fieldA Pr 130 x26 1) fun x30 =>
 EQL Pr 9 true x30 (.str n1 n33) fun x31 =>
 IFB x31 (j25 (.int .i64 n12) h27)
 (j25 (.int .i64 n25) h27)) kp
def F380 (fu : Nat) (oR : Orc) (cl : CL) (args : List AV) (h1 : Heap) (kr : KR) (kp : KP) : Ans := AR1 args fun x0 =>
 BSL n9 n1 [(.str n0 n0), (.str n0 n0)] n2 [(n0, (.str n1 n45)), (n1, (.str n1 n33))] h1 fun x2 h3 =>
 cl n203 [x0, x2] h3 (fun x4 h5 =>
 OV (unOpA .not x4) fun x8 =>
 IFB x8 (cl n383 [x0] h5 (fun x9 h10 =>
 kr x9 h10) kp)
 (B380x32 cl x0 kr kp h5)) kp

theorem eqF380 : F380 = fun fu oR => compF Pr fu oR 380 1 := by kernel_rfl

def B381x55 (x28 : AV) (x31 : AV) (cl : CL) (x0 : AV) (h32 : Heap) (x24 : AV) (j26 : AV → Heap → Ans) (kp : KP) (kr : KR) (x1 : AV) : Ans := SEL x28 x31 (.bool false) fun x33 =>
 IFB x33 (cl n114 [x0] h32 (fun x34 h35 =>
 BSL n3 n1 [(.int .i64 n0)] n1 [(n0, x34)] h35 fun x38 h39 =>
 GEN (builtinF .append Pr [106, 106] [x24, x38] h39) cl (fun x40 h41 =>
 j26 x40 h41) kp) kp)
 (JO (fun h44 =>
 cl n169 [x0, (.str n1 n41)] h44 (fun x45 h46 =>
 kr x24 h46) kp) fun j49 =>
 LENS x24 fun x50 =>
 LSS Pr 3 false x50 x1 fun x51 =>
 IFB x51 (NC x0 fun x52 =>
 FA n5 x52 fun x53 =>
 ST n1 x53 (.bool true) h32 fun h54 =>
 j49  h54)
 (j49  h32))
def B381x62 (x24 : AV) (x2 : AV) (cl : CL) (x0 : AV) (j26 : AV → Heap → Ans) (kp : KP) (kr : KR) (x1 : AV) (h25 : Heap) : Ans := LENS x24 fun x27 =>
 LSS Pr 3 false x27 x2 fun x28 =>
 JO (fun x29 h30 =>
 JO (fun x31 h32 =>
 B381x55 x28 x31 cl x0 h32 x24 j26 kp kr x1) fun j56 =>
 GW true x28 (cl n111 [x29, (.str n1 n44)] h30 (fun x57 h58 =>
 j56 x57 h58) kp)
 (j56 undefA h30)) fun j61 =>
 GW true x28 (j61 x0 h25)
 (j61 undefA h25)
def B381x63 (cl : CL) (x0 : AV) (h12 : Heap) (fu : Nat) (x2 : AV) (kp : KP) (kr : KR) (x1 : AV) : Ans := cl n114 [x0] h12 (fun x14 h15 =>
 BSL n3 n1 [(.int .i64 n0)] n1 [(n0, x14)] h15 fun x18 h19 =>
 GEN (builtinF .append Pr [106, 106] [(.nilslice), x18] h19) cl (fun x20 h21 =>
 LP fu (fun _ _ => Ans.no) (fun j26 x24 h25 =>
 B381x62 x24 x2 cl x0 j26 kp kr x1 h25) x20 h21) kp) kp
def F381 (fu : Nat) (oR : Orc) (cl : CL) (args : List AV) (h3 : Heap) (kr : KR) (kp : KP) : Ans := AR3 args fun x0 x1 x2 =>
 cl n169 [x0, (.str n1 n40)] h3 (fun x4 h5 =>
 EQL Pr 3 true x1 (.int .i64 n0) fun x8 =>
 JO (fun x9 h10 =>
 JO (fun x11 h12 =>
 SEL x8 x11 (.bool false) fun x13 =>
 IFB x13 (kr (.nilslice) h12)
 (B381x63 cl x0 h12 fu x2 kp kr x1)) fun j64 =>
 GW true x8 (cl n111 [x9, (.str n1 n41)] h10 (fun x65 h66 =>
 j64 x65 h66) kp)
 (j64 undefA h10)) fun j69 =>
 GW true x8 (j69 x0 h5)
 (j69 undefA h5)) kp

theorem eqF381 : F381 = fun fu oR => compF Pr fu oR 381 3 := by kernel_rfl

def B383x26 (x0 : AV) (h8 : Heap) (x6 : AV) (cl : CL) (kr : KR) (kp : KP) : Ans := NC x0 fun x12 =>
 FA n1 x12 fun x13 =>
 LD x13 h8 fun x14 =>
 ADD Pr 3 true x14 (.int .i64 n1) fun x15 =>
 NC x0 fun x16 =>
 FA n1 x16 fun x17 =>
 ST n1 x17 x15 h8 fun h18 =>
 FA n2 x6 fun x19 =>
 LD x19 h18 fun x20 =>
 OV (buildA Pr 108 [(n0, (.int .i64 n0)), (n3, x20)]) fun x21 =>
 cl n297 [x0, x21] h18 (fun x22 h23 =>
 kr x22 h23) kp
def B383x42 (x0 : AV) (h8 : Heap) (x6 : AV) (cl : CL) (kr : KR) (kp : KP) : Ans := NC x0 fun x28 =>
 FA n1 x28 fun x29 =>
 LD x29 h8 fun x30 =>
 ADD Pr 3 true x30 (.int .i64 n1) fun x31 =>
 NC x0 fun x32 =>
 FA n1 x32 fun x33 =>
 ST n1 x33 x31 h8 fun h34 =>
 FA n1 x6 fun x35 =>
 LD x35 h34 fun x36 =>
 OV (buildA Pr 108 [(n0, (.int .i64 n1)), (n1, x36)]) fun x37 =>
 cl n297 [x0, x37] h34 (fun x38 h39 =>
 kr x38 h39) kp
def B383x58 (x0 : AV) (h8 : Heap) (x6 : AV) (cl : CL) (kr : KR) (kp : KP) : Ans := NC x0 fun x44 =>
 FA n1 x44 fun x45 =>
 LD x45 h8 fun x46 =>
 ADD Pr 3 true x46 (.int .i64 n1) fun x47 =>
 NC x0 fun x48 =>
 FA n1 x48 fun x49 =>
 ST n1 x49 x47 h8 fun h50 =>
 FA n1 x6 fun x51 =>
 LD x51 h50 fun x52 =>
 OV (buildA Pr 108 [(n0, (.int .i64 n2)), (n1, x52)]) fun x53 =>
 cl n297 [x0, x53] h50 (fun x54 h55 =>
 kr x54 h55) kp
def B383x105 (x0 : AV) (h70 : Heap) (cl : CL) (x6 : AV) (kr : KR) (kp : KP) : Ans := NC x0 fun x81 =>
 FA n1 x81 fun x82 =>
 LD x82 h70 fun x83 =>
 ADD Pr 3 true x83 (.int .i64 n1) fun x84 =>
 NC x0 fun x85 =>
 FA n1 x85 fun x86 =>
 ST n1 x86 x84 h70 fun h87 =>
 cl n204 [x0] h87 (fun x88 h89 =>
 cl n202 [x0, (.str n1 n93)] h89 (fun x92 h93 =>
 FA n1 x6 fun x96 =>
 LD x96 h93 fun x97 =>
 BSL n3 n1 [(.int .i64 n0)] n1 [(n0, x88)] h93 fun x98 h99 =>
 OV (buildA Pr 108 [(n0, (.int .i64 n5)), (n1, x97), (n4, x98)]) fun x100 =>
 cl n297 [x0, x100] h99 (fun x101 h102 =>
 kr x101 h102) kp) kp) kp
def B383x106 (x0 : AV) (h8 : Heap) (cl : CL) (x6 : AV) (kr : KR) (kp : KP) : Ans := NC x0 fun x60 =>
 FA n1 x60 fun x61 =>
 LD x61 h8 fun x62 =>
 ADD Pr 3 true x62 (.int .i64 n1) fun x63 =>
 NC x0 fun x64 =>
 FA n1 x64 fun x65 =>
 ST n1 x65 x63 h8 fun h66 =>
 BSL n9 n1 [(.str n0 n0)] n1 [(n0, (.str n1 n91))] h66 fun x67 h68 =>
 cl n203 [x0, x67] h68 (fun x69 h70 =>
 OV (unOpA .not x69) fun x73 =>
 IFB x73 (FA n1 x6 fun x74 =>
 LD x74 h70 fun x75 =>
 OV (buildA Pr 108 [(n0, (.int .i64 n3)), (n1, x75)]) fun x76 =>
 cl n297 [x0, x76] h70 (fun x77 h78 =>
 kr x77 h78) kp)
 (B383x105 x0 h70 cl x6 kr kp)) kp
def B383x149 (x0 : AV) (h8 : Heap) (cl : CL) (x6 : AV) (kr : KR) (kp : KP) : Ans := NC x0 fun x108 =>
 FA n1 x108 fun x109 =>
 LD x109 h8 fun x110 =>
 ADD Pr 3 true x110 (.int .i64 n1) fun x111 =>
 NC x0 fun x112 =>
 FA n1 x112 fun x113 =>
 ST n1 x113 x111 h8 fun h114 =>
 cl n202 [x0, (.str n1 n40)] h114 (fun x115 h116 =>
 FA n1 x6 fun x119 =>
 LD x119 h116 fun x120 =>
 OV (buildA Pr 108 [(n0, (.int .i64 n26)), (n1, x120)]) fun x121 =>
 NEWC (.n (some (.int .i64 n0)) (.n (some (.str n0 n0)) (.n (some (.int .i64 n0)) .e .e) .e) (.n (some (.str n0 n0)) (.n (some (.nilslice)) .e .e) .e)) n5 108 h116 fun x122 h123 =>
 ST n5 x122 x121 h123 fun h124 =>
 JO (fun h125 =>
 cl n202 [x0, (.str n1 n41)] h125 (fun x126 h127 =>
 LDN n5 x122 h127 fun x130 =>
 cl n297 [x0, x130] h127 (fun x131 h132 =>
 kr x131 h132) kp) kp) fun j135 =>
 BSL n9 n1 [(.str n0 n0)] n1 [(n0, (.str n1 n41))] h124 fun x136 h137 =>
 cl n203 [x0, x136] h137 (fun x138 h139 =>
 OV (unOpA .not x138) fun x142 =>
 IFB x142 (cl n347 [x0] h139 (fun x143 h144 =>
 FA n4 x122 fun x147 =>
 ST n1 x147 x143 h144 fun h148 =>
 j135  h148) kp)
 (j135  h139)) kp) kp
def B383x188 (x0 : AV) (h168 : Heap) (cl : CL) (kr : KR) (kp : KP) : Ans := NC x0 fun x171 =>
 FA n1 x171 fun x172 =>
 LD x172 h168 fun x173 =>
 ADD Pr 3 true x173 (.int .i64 n1) fun x174 =>
 NC x0 fun x175 =>
 FA n1 x175 fun x176 =>
 ST n1 x176 x174 h168 fun h177 =>
 cl n257 [x0, (.func (.func 383) [x0] [])] h177 (fun x178 h179 =>
 BSL n3 n1 [(.int .i64 n0)] n1 [(n0, x178)] h179 fun x182 h183 =>
 cl n260 [x0, (.int .i64 n4), x182] h183 (fun x184 h185 =>
 kr x184 h185) kp) kp
def B383x193 (h158 : Heap) (cl : CL) (x0 : AV) (kr : KR) (kp : KP) : Ans := BSL n9 n1 [(.str n0 n0)] n1 [(n0, (.str n1 n36))] h158 fun x165 h166 =>
 cl n203 [x0, x165] h166 (fun x167 h168 =>
 IFB x167 (B383x188 x0 h168 cl kr kp)
 (cl n256 [x0] h168 (fun x189 h190 =>
 kr (.int .i64 n0) h190) kp)) kp
def B383x194 (x10 : AV) (cl : CL) (x0 : AV) (h8 : Heap) (kr : KR) (kp : KP) : Ans := EQL Pr 3 true x10 (.int .i64 n6) fun x150 =>
 IFB x150 (cl n384 [x0] h8 (fun x151 h152 =>
 kr x151 h152) kp)
 (BSL n9 n1 [(.str n0 n0)] n1 [(n0, (.str n1 n40))] h8 fun x155 h156 =>
 cl n203 [x0, x155] h156 (fun x157 h158 =>
 IFB x157 (cl n325 [x0] h158 (fun x161 h162 =>
 kr x161 h162) kp)
 (B383x193 h158 cl x0 kr kp)) kp)
def B383x195 (x10 : AV) (x0 : AV) (h8 : Heap) (x6 : AV) (cl : CL) (kr : KR) (kp : KP) : Ans := EQL Pr 3 true x10 (.int .i64 n3) fun x43 =>
 IFB x43 (B383x58 x0 h8 x6 cl kr kp)
 (EQL Pr 3 true x10 (.int .i64 n4) fun x59 =>
 IFB x59 (B383x106 x0 h8 cl x6 kr kp)
 (EQL Pr 3 true x10 (.int .i64 n5) fun x107 =>
 IFB x107 (B383x149 x0 h8 cl x6 kr kp)
 (B383x194 x10 cl x0 h8 kr kp)))
def F383 (fu : Nat) (oR : Orc) (cl : CL) (args : List AV) (h1 : Heap) (kr : KR) (kp : KP) : Ans := AR1 args fun x0 =>
 cl n254 [x0, (.int .i64 n0)] h1 (fun x2 h3 =>
 NEWC (.n (some (.int .i64 n0)) (.n (some (.str n0 n0)) (.n (some (.int .i64 n0)) .e .e) .e) (.n (some (.int .i64 n0)) .e .e)) n4 130 h3 fun x6 h7 =>
 ST n4 x6 x2 h7 fun h8 =>
 FA n0 x6 fun x9 =>
 LD x9 h8 fun x10 =>
 EQL Pr 3 true x10 (.int .i64 n1) fun x11 =>
 IFB x11 (B383x26 x0 h8 x6 cl kr kp)
 (EQL Pr 3 true x10 (.int .i64 n2) fun x27 =>
 IFB x27 (B383x42 x0 h8 x6 cl kr kp)
 (B383x195 x10 x0 h8 x6 cl kr kp))) kp

theorem eqF383 : F383 = fun fu oR => compF Pr fu oR 383 1 := by kernel_rfl
end
end Go.Ev
