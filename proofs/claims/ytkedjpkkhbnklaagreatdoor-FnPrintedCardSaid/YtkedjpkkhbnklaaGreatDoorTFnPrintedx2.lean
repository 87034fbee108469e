import Derived.Test.YtkedjpkkhbnklaaGreatDoorTFnPrintedx0
set_option linter.all false
namespace Go.Ev
noncomputable section

def B372x46 (x0 : AV) (h27 : Heap) (cl : CL) (x6 : AV) (x26 : AV) (j8 : AV → Heap → Ans) (kp : KP) : Ans := NC x0 fun x28 =>
 FA n1 x28 fun x29 =>
 LD x29 h27 fun x30 =>
 ADD Pr 3 true x30 (.int .i64 n1) fun x31 =>
 NC x0 fun x32 =>
 FA n1 x32 fun x33 =>
 ST n1 x33 x31 h27 fun h34 =>
 cl n375 [x0] h34 (fun x35 h36 =>
 BSL n3 n1 [(.int .i64 n0), (.int .i64 n0)] n2 [(n0, x6), (n1, x35)] h36 fun x39 h40 =>
 OV (buildA Pr 108 [(n0, x26), (n4, x39)]) fun x41 =>
 cl n173 [x0, x41] h40 (fun x42 h43 =>
 j8 x42 h43) kp) kp
def B372x54 (x12 : AV) (x0 : AV) (cl : CL) (x6 : AV) (j8 : AV → Heap → Ans) (kp : KP) (kr : KR) (x17 : AV) (x21 : AV) (h22 : Heap) : Ans := JO (fun x23 h24 =>
 SEL x12 x23 (.bool false) fun x25 =>
 IFB x25 (JO (fun x26 h27 =>
 B372x46 x0 h27 cl x6 x26 j8 kp) fun j47 =>
 cl n113 [x0, (.str n1 n45)] h24 (fun x48 h49 =>
 IFB x48 (j47 (.int .i64 n21) h49)
 (j47 (.int .i64 n20) h49)) kp)
 (kr x6 h24)) fun j52 =>
 GW true x12 (SEL x17 (.bool true) x21 fun x53 =>
 j52 x53 h22)
 (j52 undefA h22)
def B372x62 (x12 : AV) (x0 : AV) (cl : CL) (x6 : AV) (j8 : AV → Heap → Ans) (kp : KP) (kr : KR) (x15 : AV) (h16 : Heap) : Ans := JO (fun x17 h18 =>
 JO (fun x19 h20 =>
 JO (fun x21 h22 =>
 B372x54 x12 x0 cl x6 j8 kp kr x17 x21 h22) fun j55 =>
 GW false x17 (cl n113 [x19, (.str n1 n45)] h20 (fun x56 h57 =>
 j55 x56 h57) kp)
 (j55 undefA h20)) fun j60 =>
 GW false x17 (j60 x0 h18)
 (j60 undefA h18)) fun j61 =>
 GW true x12 (j61 x15 h16)
 (j61 undefA h16)
def B372x69 (x0 : AV) (h7 : Heap) (cl : CL) (x6 : AV) (j8 : AV → Heap → Ans) (kp : KP) (kr : KR) : Ans := NC x0 fun x9 =>
 FA n5 x9 fun x10 =>
 LD x10 h7 fun x11 =>
 OV (unOpA .not x11) fun x12 =>
 JO (fun x13 h14 =>
 JO (fun x15 h16 =>
 B372x62 x12 x0 cl x6 j8 kp kr x15 h16) fun j63 =>
 GW true x12 (cl n113 [x13, (.str n1 n43)] h14 (fun x64 h65 =>
 j63 x64 h65) kp)
 (j63 undefA h14)) fun j68 =>
 GW true x12 (j68 x0 h7)
 (j68 undefA h7)
def F372 (fu : Nat) (oR : Orc) (cl : CL) (args : List AV) (h1 : Heap) (kr : KR) (kp : KP) : Ans := AR1 args fun x0 =>
 cl n375 [x0] h1 (fun x2 h3 =>
 LP fu (fun _ _ => Ans.no) (fun j8 x6 h7 =>
 B372x69 x0 h7 cl x6 j8 kp kr) x2 h3) kp

theorem eqF372 : F372 = fun fu oR => compF Pr fu oR 372 1 := by kernel_rfl

def B373x30 (x6 : AV) (h12 : Heap) (kr : KR) : Ans := FA n1 x6 fun x14 =>
 LD x14 h12 fun x15 =>
 EQL Pr 9 true x15 (.str n1 n40) fun x16 =>
 JO (fun x17 h18 =>
 JO (fun x19 h20 =>
 JO (fun x21 h22 =>
 SEL x16 (.bool true) x21 fun x23 =>
 kr x23 h22) fun j24 =>
 GW false x16 (EQL Pr 9 true x19 (.str n1 n36) fun x25 =>
 j24 x25 h20)
 (j24 undefA h20)) fun j26 =>
 GW false x16 (LD x17 h18 fun x27 =>
 j26 x27 h18)
 (j26 undefA h18)) fun j28 =>
 GW false x16 (FA n1 x6 fun x29 =>
 j28 x29 h12)
 (j28 undefA h12)
def B373x76 (x55 : AV) (x60 : AV) (kr : KR) (x6 : AV) (h61 : Heap) : Ans := SEL x55 (.bool true) x60 fun x62 =>
 JO (fun x63 h64 =>
 JO (fun x65 h66 =>
 JO (fun x67 h68 =>
 SEL x62 (.bool true) x67 fun x69 =>
 kr x69 h68) fun j70 =>
 GW false x62 (EQL Pr 9 true x65 (.str n3 (nat_lit 7630441)) fun x71 =>
 j70 x71 h66)
 (j70 undefA h66)) fun j72 =>
 GW false x62 (LD x63 h64 fun x73 =>
 j72 x73 h64)
 (j72 undefA h64)) fun j74 =>
 GW false x62 (FA n1 x6 fun x75 =>
 j74 x75 h61)
 (j74 undefA h61)
def B373x83 (x48 : AV) (x53 : AV) (kr : KR) (x6 : AV) (h54 : Heap) : Ans := SEL x48 (.bool true) x53 fun x55 =>
 JO (fun x56 h57 =>
 JO (fun x58 h59 =>
 JO (fun x60 h61 =>
 B373x76 x55 x60 kr x6 h61) fun j77 =>
 GW false x55 (EQL Pr 9 true x58 (.str n7 (nat_lit 32199680942501748)) fun x78 =>
 j77 x78 h59)
 (j77 undefA h59)) fun j79 =>
 GW false x55 (LD x56 h57 fun x80 =>
 j79 x80 h57)
 (j79 undefA h57)) fun j81 =>
 GW false x55 (FA n1 x6 fun x82 =>
 j81 x82 h54)
 (j81 undefA h54)
def B373x90 (x41 : AV) (x46 : AV) (kr : KR) (x6 : AV) (h47 : Heap) : Ans := SEL x41 (.bool true) x46 fun x48 =>
 JO (fun x49 h50 =>
 JO (fun x51 h52 =>
 JO (fun x53 h54 =>
 B373x83 x48 x53 kr x6 h54) fun j84 =>
 GW false x48 (EQL Pr 9 true x51 (.str n5 (nat_lit 499984920691)) fun x85 =>
 j84 x85 h52)
 (j84 undefA h52)) fun j86 =>
 GW false x48 (LD x49 h50 fun x87 =>
 j86 x87 h50)
 (j86 undefA h50)) fun j88 =>
 GW false x48 (FA n1 x6 fun x89 =>
 j88 x89 h47)
 (j88 undefA h47)
def B373x97 (x34 : AV) (x39 : AV) (kr : KR) (x6 : AV) (h40 : Heap) : Ans := SEL x34 (.bool true) x39 fun x41 =>
 JO (fun x42 h43 =>
 JO (fun x44 h45 =>
 JO (fun x46 h47 =>
 B373x90 x41 x46 kr x6 h47) fun j91 =>
 GW false x41 (EQL Pr 9 true x44 (.str n5 (nat_lit 517097156201)) fun x92 =>
 j91 x92 h45)
 (j91 undefA h45)) fun j93 =>
 GW false x41 (LD x42 h43 fun x94 =>
 j93 x94 h43)
 (j93 undefA h43)) fun j95 =>
 GW false x41 (FA n1 x6 fun x96 =>
 j95 x96 h40)
 (j95 undefA h40)
def B373x104 (x6 : AV) (h12 : Heap) (kr : KR) : Ans := FA n1 x6 fun x32 =>
 LD x32 h12 fun x33 =>
 EQL Pr 9 true x33 (.str n6 (nat_lit 114849160783212)) fun x34 =>
 JO (fun x35 h36 =>
 JO (fun x37 h38 =>
 JO (fun x39 h40 =>
 B373x97 x34 x39 kr x6 h40) fun j98 =>
 GW false x34 (EQL Pr 9 true x37 (.str n6 (nat_lit 125844477605235)) fun x99 =>
 j98 x99 h38)
 (j98 undefA h38)) fun j100 =>
 GW false x34 (LD x35 h36 fun x101 =>
 j100 x101 h36)
 (j100 undefA h36)) fun j102 =>
 GW false x34 (FA n1 x6 fun x103 =>
 j102 x103 h12)
 (j102 undefA h12)
def F373 (fu : Nat) (oR : Orc) (cl : CL) (args : List AV) (h1 : Heap) (kr : KR) (kp : KP) : Ans := AR1 args fun x0 =>
 cl n168 [x0] h1 (fun x2 h3 =>
 NEWC (.n (some (.int .i64 n0)) (.n (some (.str n0 n0)) (.n (some (.int .i64 n0)) .e .e) .e) (.n (some (.int .i64 n0)) .e .e)) n4 130 h3 fun x6 h7 =>
 ST n4 x6 x2 h7 fun h8 =>
 FA n0 x6 fun x9 =>
 LD x9 h8 fun x10 =>
 JO (fun x11 h12 =>
 IFB x11 (kr (.bool true) h12)
 (EQL Pr 3 true x10 (.int .i64 n7) fun x13 =>
 IFB x13 (B373x30 x6 h12 kr)
 (EQL Pr 3 true x10 (.int .i64 n6) fun x31 =>
 IFB x31 (B373x104 x6 h12 kr)
 (kr (.bool false) h12)))) fun j105 =>
 EQL Pr 3 true x10 (.int .i64 n1) fun x106 =>
 IFB x106 (j105 x106 h8)
 (EQL Pr 3 true x10 (.int .i64 n2) fun x107 =>
 IFB x107 (j105 x107 h8)
 (EQL Pr 3 true x10 (.int .i64 n4) fun x108 =>
 IFB x108 (j105 x108 h8)
 (EQL Pr 3 true x10 (.int .i64 n5) fun x109 =>
 j105 x109 h8)))) kp

theorem eqF373 : F373 = fun fu oR => compF Pr fu oR 373 1 := by kernel_rfl

def B374x45 (j27 : Heap → Ans) (kr : KR) (x6 : AV) (h29 : Heap) (cl : CL) (x0 : AV) (kp : KP) : Ans := JO (fun x30 h31 =>
 IFB x30 (j27  h31)
 (kr x6 h31)) fun j32 =>
 BSL n9 n1 [(.str n0 n0), (.str n0 n0), (.str n0 n0), (.str n0 n0), (.str n0 n0), (.str n0 n0)] n6 [(n0, (.str n6 (nat_lit 114849160783212))), (n1, (.str n6 (nat_lit 125844477605235))), (n2, (.str n5 (nat_lit 517097156201))), (n3, (.str n5 (nat_lit 499984920691))), (n4, (.str n7 (nat_lit 32199680942501748))), (n5, (.str n3 (nat_lit 7630441)))] h29 fun x33 h34 =>
 cl n199 [x0, x33] h34 (fun x35 h36 =>
 IFB x35 (j32 x35 h36)
 (BSL n9 n1 [(.str n0 n0), (.str n0 n0)] n2 [(n0, (.str n1 n40)), (n1, (.str n1 n36))] h36 fun x39 h40 =>
 cl n203 [x0, x39] h40 (fun x41 h42 =>
 j32 x41 h42) kp)) kp
def B374x59 (x13 : AV) (h15 : Heap) (j46 : AV → Heap → Ans) : Ans := FA n0 x13 fun x50 =>
 LD x50 h15 fun x51 =>
 EQL Pr 3 true x51 (.int .i64 n2) fun x52 =>
 IFB x52 (j46 x52 h15)
 (FA n0 x13 fun x53 =>
 LD x53 h15 fun x54 =>
 EQL Pr 3 true x54 (.int .i64 n4) fun x55 =>
 IFB x55 (j46 x55 h15)
 (FA n0 x13 fun x56 =>
 LD x56 h15 fun x57 =>
 EQL Pr 3 true x57 (.int .i64 n5) fun x58 =>
 j46 x58 h15))
def B374x60 (cl : CL) (x0 : AV) (h7 : Heap) (x6 : AV) (j8 : AV → Heap → Ans) (kp : KP) (kr : KR) : Ans := cl n254 [x0, (.int .i64 n0)] h7 (fun x9 h10 =>
 NEWC (.n (some (.int .i64 n0)) (.n (some (.str n0 n0)) (.n (some (.int .i64 n0)) .e .e) .e) (.n (some (.int .i64 n0)) .e .e)) n4 130 h10 fun x13 h14 =>
 ST n4 x13 x9 h14 fun h15 =>
 JO (fun h16 =>
 cl n376 [x0] h16 (fun x17 h18 =>
 BSL n3 n1 [(.int .i64 n0), (.int .i64 n0)] n2 [(n0, x6), (n1, x17)] h18 fun x21 h22 =>
 cl n260 [x0, (.int .i64 n19), x21] h22 (fun x23 h24 =>
 j8 x23 h24) kp) kp) fun j27 =>
 JO (fun x28 h29 =>
 IFB x28 (j27  h29)
 (B374x45 j27 kr x6 h29 cl x0 kp)) fun j46 =>
 FA n0 x13 fun x47 =>
 LD x47 h15 fun x48 =>
 EQL Pr 3 true x48 (.int .i64 n1) fun x49 =>
 IFB x49 (j46 x49 h15)
 (B374x59 x13 h15 j46)) kp
def F374 (fu : Nat) (oR : Orc) (cl : CL) (args : List AV) (h1 : Heap) (kr : KR) (kp : KP) : Ans := AR1 args fun x0 =>
 cl n376 [x0] h1 (fun x2 h3 =>
 LP fu (fun _ _ => Ans.no) (fun j8 x6 h7 =>
 B374x60 cl x0 h7 x6 j8 kp kr) x2 h3) kp

theorem eqF374 : F374 = fun fu oR => compF Pr fu oR 374 1 := by kernel_rfl

def B375x56 (x0 : AV) (h37 : Heap) (cl : CL) (x6 : AV) (x36 : AV) (j8 : AV → Heap → Ans) (kp : KP) : Ans := NC x0 fun x38 =>
 FA n1 x38 fun x39 =>
 LD x39 h37 fun x40 =>
 ADD Pr 3 true x40 (.int .i64 n1) fun x41 =>
 NC x0 fun x42 =>
 FA n1 x42 fun x43 =>
 ST n1 x43 x41 h37 fun h44 =>
 cl n377 [x0] h44 (fun x45 h46 =>
 BSL n3 n1 [(.int .i64 n0), (.int .i64 n0)] n2 [(n0, x6), (n1, x45)] h46 fun x49 h50 =>
 OV (buildA Pr 108 [(n0, x36), (n4, x49)]) fun x51 =>
 cl n173 [x0, x51] h50 (fun x52 h53 =>
 j8 x52 h53) kp) kp
def B375x67 (x0 : AV) (cl : CL) (x6 : AV) (j8 : AV → Heap → Ans) (kp : KP) (h32 : Heap) : Ans := JO (fun x34 h35 =>
 JO (fun x36 h37 =>
 B375x56 x0 h37 cl x6 x36 j8 kp) fun j57 =>
 cl n113 [x0, (.str n1 n37)] h35 (fun x58 h59 =>
 IFB x58 (j57 (.int .i64 n24) h59)
 (j57 x34 h59)) kp) fun j62 =>
 cl n113 [x0, (.str n1 n47)] h32 (fun x63 h64 =>
 IFB x63 (j62 (.int .i64 n23) h64)
 (j62 (.int .i64 n22) h64)) kp
def B375x75 (x12 : AV) (x0 : AV) (cl : CL) (x6 : AV) (j8 : AV → Heap → Ans) (kp : KP) (kr : KR) (x25 : AV) (x27 : AV) (h28 : Heap) : Ans := JO (fun x29 h30 =>
 JO (fun x31 h32 =>
 SEL x12 x31 (.bool false) fun x33 =>
 IFB x33 (B375x67 x0 cl x6 j8 kp h32)
 (kr x6 h32)) fun j68 =>
 GW true x12 (SEL x25 (.bool true) x29 fun x69 =>
 j68 x69 h30)
 (j68 undefA h30)) fun j70 =>
 GW false x25 (cl n113 [x27, (.str n1 n37)] h28 (fun x71 h72 =>
 j70 x71 h72) kp)
 (j70 undefA h28)
def B375x80 (x12 : AV) (x0 : AV) (cl : CL) (x6 : AV) (j8 : AV → Heap → Ans) (kp : KP) (kr : KR) (x17 : AV) (x21 : AV) (h22 : Heap) : Ans := JO (fun x23 h24 =>
 JO (fun x25 h26 =>
 JO (fun x27 h28 =>
 B375x75 x12 x0 cl x6 j8 kp kr x25 x27 h28) fun j76 =>
 GW false x25 (j76 x0 h26)
 (j76 undefA h26)) fun j77 =>
 GW true x12 (j77 x23 h24)
 (j77 undefA h24)) fun j78 =>
 GW true x12 (SEL x17 (.bool true) x21 fun x79 =>
 j78 x79 h22)
 (j78 undefA h22)
def B375x88 (x12 : AV) (x0 : AV) (cl : CL) (x6 : AV) (j8 : AV → Heap → Ans) (kp : KP) (kr : KR) (x15 : AV) (h16 : Heap) : Ans := JO (fun x17 h18 =>
 JO (fun x19 h20 =>
 JO (fun x21 h22 =>
 B375x80 x12 x0 cl x6 j8 kp kr x17 x21 h22) fun j81 =>
 GW false x17 (cl n113 [x19, (.str n1 n47)] h20 (fun x82 h83 =>
 j81 x82 h83) kp)
 (j81 undefA h20)) fun j86 =>
 GW false x17 (j86 x0 h18)
 (j86 undefA h18)) fun j87 =>
 GW true x12 (j87 x15 h16)
 (j87 undefA h16)
def B375x95 (x0 : AV) (h7 : Heap) (cl : CL) (x6 : AV) (j8 : AV → Heap → Ans) (kp : KP) (kr : KR) : Ans := NC x0 fun x9 =>
 FA n5 x9 fun x10 =>
 LD x10 h7 fun x11 =>
 OV (unOpA .not x11) fun x12 =>
 JO (fun x13 h14 =>
 JO (fun x15 h16 =>
 B375x88 x12 x0 cl x6 j8 kp kr x15 h16) fun j89 =>
 GW true x12 (cl n113 [x13, (.str n1 n42)] h14 (fun x90 h91 =>
 j89 x90 h91) kp)
 (j89 undefA h14)) fun j94 =>
 GW true x12 (j94 x0 h7)
 (j94 undefA h7)
def F375 (fu : Nat) (oR : Orc) (cl : CL) (args : List AV) (h1 : Heap) (kr : KR) (kp : KP) : Ans := AR1 args fun x0 =>
 cl n377 [x0] h1 (fun x2 h3 =>
 LP fu (fun _ _ => Ans.no) (fun j8 x6 h7 =>
 B375x95 x0 h7 cl x6 j8 kp kr) x2 h3) kp

theorem eqF375 : F375 = fun fu oR => compF Pr fu oR 375 1 := by kernel_rfl

def F376 (fu : Nat) (oR : Orc) (cl : CL) (args : List AV) (h1 : Heap) (kr : KR) (kp : KP) : Ans := AR1 args fun x0 =>
 BSL n9 n1 [(.str n0 n0), (.str n0 n0)] n2 [(n0, (.str n1 n43)), (n1, (.str n1 n45))] h1 fun x2 h3 =>
 BSL n3 n1 [(.int .i64 n0), (.int .i64 n0)] n2 [(n0, (.int .i64 n20)), (n1, (.int .i64 n21))] h3 fun x4 h5 =>
 cl n323 [x0, (.func (.func 378) [x0] []), x2, x4] h5 (fun x6 h7 =>
 kr x6 h7) kp

theorem eqF376 : F376 = fun fu oR => compF Pr fu oR 376 1 := by kernel_rfl

def B377x43 (cl : CL) (x0 : AV) (h21 : Heap) (x2 : AV) (kr : KR) (kp : KP) : Ans := cl n377 [x0] h21 (fun x25 h26 =>
 NC x0 fun x29 =>
 FA n2 x29 fun x30 =>
 LD x30 h26 fun x31 =>
 SUB Pr 3 true x31 (.int .i64 n1) fun x32 =>
 NC x0 fun x33 =>
 FA n2 x33 fun x34 =>
 ST n1 x34 x32 h26 fun h35 =>
 BSL n3 n1 [(.int .i64 n0)] n1 [(n0, x25)] h35 fun x36 h37 =>
 OV (buildA Pr 108 [(n0, x2), (n4, x36)]) fun x38 =>
 cl n173 [x0, x38] h37 (fun x39 h40 =>
 kr x39 h40) kp) kp
def B377x46 (x8 : AV) (cl : CL) (x0 : AV) (kr : KR) (kp : KP) (x2 : AV) (x11 : AV) (h12 : Heap) : Ans := JO (fun x13 h14 =>
 SEL x8 x13 (.bool false) fun x15 =>
 IFB x15 (cl n379 [x0] h14 (fun x16 h17 =>
 kr x16 h17) kp)
 (cl n171 [x0] h14 (fun x20 h21 =>
 OV (unOpA .not x20) fun x24 =>
 IFB x24 (kr (.int .i64 n0) h21)
 (B377x43 cl x0 h21 x2 kr kp)) kp)) fun j44 =>
 GW true x8 (OV (unOpA .not x11) fun x45 =>
 j44 x45 h12)
 (j44 undefA h12)
def B377x53 (cl : CL) (x0 : AV) (h3 : Heap) (kr : KR) (kp : KP) (x2 : AV) : Ans := cl n111 [x0, (.str n1 n45)] h3 (fun x4 h5 =>
 OV (unOpA .not x4) fun x8 =>
 JO (fun x9 h10 =>
 JO (fun x11 h12 =>
 B377x46 x8 cl x0 kr kp x2 x11 h12) fun j47 =>
 GW true x8 (cl n111 [x9, (.str n1 n33)] h10 (fun x48 h49 =>
 j47 x48 h49) kp)
 (j47 undefA h10)) fun j52 =>
 GW true x8 (j52 x0 h5)
 (j52 undefA h5)) kp
def F377 (fu : Nat) (oR : Orc) (cl : CL) (args : List AV) (h1 : Heap) (kr : KR) (kp : KP) : Ans := AR1 args fun x0 =>
 JO (fun x2 h3 =>
 B377x53 cl x0 h3 kr kp x2) fun j54 =>
 cl n113 [x0, (.str n1 n33)] h1 (fun x55 h56 =>
 IFB x55 (j54 (.int .i64 n12) h56)
 (j54 (.int .i64 n25) h56)) kp

theorem eqF377 : F377 = fun fu oR => compF Pr fu oR 377 1 := by kernel_rfl

def F378 (fu : Nat) (oR : Orc) (cl : CL) (args : List AV) (h1 : Heap) (kr : KR) (kp : KP) : Ans := AR1 args fun x0 =>
 BSL n9 n1 [(.str n0 n0), (.str n0 n0), (.str n0 n0)] n3 [(n0, (.str n1 n42)), (n1, (.str n1 n47)), (n2, (.str n1 n37))] h1 fun x2 h3 =>
 BSL n3 n1 [(.int .i64 n0), (.int .i64 n0), (.int .i64 n0)] n3 [(n0, (.int .i64 n22)), (n1, (.int .i64 n23)), (n2, (.int .i64 n24))] h3 fun x4 h5 =>
 cl n323 [x0, (.func (.func 380) [x0] []), x2, x4] h5 (fun x6 h7 =>
 kr x6 h7) kp

theorem eqF378 : F378 = fun fu oR => compF Pr fu oR 378 1 := by kernel_rfl

def B379x34 (x0 : AV) (h11 : Heap) (x9 : AV) (cl : CL) (kr : KR) (kp : KP) : Ans := NC x0 fun x20 =>
 FA n1 x20 fun x21 =>
 LD x21 h11 fun x22 =>
 ADD Pr 3 true x22 (.int .i64 n1) fun x23 =>
 NC x0 fun x24 =>
 FA n1 x24 fun x25 =>
 ST n1 x25 x23 h11 fun h26 =>
 FA n2 x9 fun x27 =>
 LD x27 h26 fun x28 =>
 OV (buildA Pr 108 [(n0, (.int .i64 n0)), (n3, x28)]) fun x29 =>
 cl n173 [x0, x29] h26 (fun x30 h31 =>
 kr x30 h31) kp
def B379x50 (x0 : AV) (h11 : Heap) (x9 : AV) (cl : CL) (kr : KR) (kp : KP) : Ans := NC x0 fun x36 =>
 FA n1 x36 fun x37 =>
 LD x37 h11 fun x38 =>
 ADD Pr 3 true x38 (.int .i64 n1) fun x39 =>
 NC x0 fun x40 =>
 FA n1 x40 fun x41 =>
 ST n1 x41 x39 h11 fun h42 =>
 FA n1 x9 fun x43 =>
 LD x43 h42 fun x44 =>
 OV (buildA Pr 108 [(n0, (.int .i64 n1)), (n1, x44)]) fun x45 =>
 cl n173 [x0, x45] h42 (fun x46 h47 =>
 kr x46 h47) kp
def B379x66 (x0 : AV) (h11 : Heap) (x9 : AV) (cl : CL) (kr : KR) (kp : KP) : Ans := NC x0 fun x52 =>
 FA n1 x52 fun x53 =>
 LD x53 h11 fun x54 =>
 ADD Pr 3 true x54 (.int .i64 n1) fun x55 =>
 NC x0 fun x56 =>
 FA n1 x56 fun x57 =>
 ST n1 x57 x55 h11 fun h58 =>
 FA n1 x9 fun x59 =>
 LD x59 h58 fun x60 =>
 OV (buildA Pr 108 [(n0, (.int .i64 n2)), (n1, x60)]) fun x61 =>
 cl n173 [x0, x61] h58 (fun x62 h63 =>
 kr x62 h63) kp
def B379x96 (cl : CL) (x0 : AV) (h76 : Heap) (x9 : AV) (kr : KR) (kp : KP) : Ans := cl n114 [x0] h76 (fun x79 h80 =>
 cl n169 [x0, (.str n1 n93)] h80 (fun x83 h84 =>
 FA n1 x9 fun x87 =>
 LD x87 h84 fun x88 =>
 BSL n3 n1 [(.int .i64 n0)] n1 [(n0, x79)] h84 fun x89 h90 =>
 OV (buildA Pr 108 [(n0, (.int .i64 n5)), (n1, x88), (n4, x89)]) fun x91 =>
 cl n173 [x0, x91] h90 (fun x92 h93 =>
 kr x92 h93) kp) kp) kp
def B379x104 (x0 : AV) (h11 : Heap) (cl : CL) (x9 : AV) (kr : KR) (kp : KP) : Ans := NC x0 fun x68 =>
 FA n1 x68 fun x69 =>
 LD x69 h11 fun x70 =>
 ADD Pr 3 true x70 (.int .i64 n1) fun x71 =>
 NC x0 fun x72 =>
 FA n1 x72 fun x73 =>
 ST n1 x73 x71 h11 fun h74 =>
 cl n111 [x0, (.str n1 n91)] h74 (fun x75 h76 =>
 IFB x75 (B379x96 cl x0 h76 x9 kr kp)
 (FA n1 x9 fun x97 =>
 LD x97 h76 fun x98 =>
 OV (buildA Pr 108 [(n0, (.int .i64 n3)), (n1, x98)]) fun x99 =>
 cl n173 [x0, x99] h76 (fun x100 h101 =>
 kr x100 h101) kp)) kp
def B379x124 (x0 : AV) (h11 : Heap) (cl : CL) (x9 : AV) (kr : KR) (kp : KP) : Ans := NC x0 fun x106 =>
 FA n1 x106 fun x107 =>
 LD x107 h11 fun x108 =>
 ADD Pr 3 true x108 (.int .i64 n1) fun x109 =>
 NC x0 fun x110 =>
 FA n1 x110 fun x111 =>
 ST n1 x111 x109 h11 fun h112 =>
 cl n381 [x0, (.int .i64 n0), (.int .i64 n4000)] h112 (fun x113 h114 =>
 FA n1 x9 fun x117 =>
 LD x117 h114 fun x118 =>
 OV (buildA Pr 108 [(n0, (.int .i64 n26)), (n1, x118), (n4, x113)]) fun x119 =>
 cl n173 [x0, x119] h114 (fun x120 h121 =>
 kr x120 h121) kp) kp
def B379x176 (cl : CL) (x0 : AV) (h154 : Heap) (kr : KR) (kp : KP) : Ans := cl n379 [x0] h154 (fun x158 h159 =>
 NC x0 fun x162 =>
 FA n2 x162 fun x163 =>
 LD x163 h159 fun x164 =>
 SUB Pr 3 true x164 (.int .i64 n1) fun x165 =>
 NC x0 fun x166 =>
 FA n2 x166 fun x167 =>
 ST n1 x167 x165 h159 fun h168 =>
 BSL n3 n1 [(.int .i64 n0)] n1 [(n0, x158)] h168 fun x169 h170 =>
 OV (buildA Pr 108 [(n0, (.int .i64 n4)), (n4, x169)]) fun x171 =>
 cl n173 [x0, x171] h170 (fun x172 h173 =>
 kr x172 h173) kp) kp
def B379x177 (cl : CL) (x0 : AV) (h11 : Heap) (kr : KR) (kp : KP) (j18 : Heap → Ans) : Ans := cl n111 [x0, (.str n1 n40)] h11 (fun x137 h138 =>
 IFB x137 (cl n114 [x0] h138 (fun x141 h142 =>
 cl n169 [x0, (.str n1 n41)] h142 (fun x145 h146 =>
 kr x141 h146) kp) kp)
 (cl n111 [x0, (.str n1 n36)] h138 (fun x149 h150 =>
 IFB x149 (cl n171 [x0] h150 (fun x153 h154 =>
 OV (unOpA .not x153) fun x157 =>
 IFB x157 (kr (.int .i64 n0) h154)
 (B379x176 cl x0 h154 kr kp)) kp)
 (j18  h150)) kp)) kp
def B379x178 (x13 : AV) (cl : CL) (x0 : AV) (h11 : Heap) (x9 : AV) (kr : KR) (kp : KP) (j18 : Heap → Ans) : Ans := EQL Pr 3 true x13 (.int .i64 n6) fun x125 =>
 IFB x125 (cl n373 [x0] h11 (fun x126 h127 =>
 IFB x126 (FA n1 x9 fun x130 =>
 LD x130 h127 fun x131 =>
 cl n382 [x0, x131] h127 (fun x132 h133 =>
 kr x132 h133) kp)
 (j18  h127)) kp)
 (EQL Pr 3 true x13 (.int .i64 n7) fun x136 =>
 IFB x136 (B379x177 cl x0 h11 kr kp j18)
 (j18  h11))
def B379x179 (x13 : AV) (x0 : AV) (h11 : Heap) (x9 : AV) (cl : CL) (kr : KR) (kp : KP) (j18 : Heap → Ans) : Ans := EQL Pr 3 true x13 (.int .i64 n3) fun x51 =>
 IFB x51 (B379x66 x0 h11 x9 cl kr kp)
 (EQL Pr 3 true x13 (.int .i64 n4) fun x67 =>
 IFB x67 (B379x104 x0 h11 cl x9 kr kp)
 (EQL Pr 3 true x13 (.int .i64 n5) fun x105 =>
 IFB x105 (B379x124 x0 h11 cl x9 kr kp)
 (B379x178 x13 cl x0 h11 x9 kr kp j18)))
def B379x180 (cl : CL) (x0 : AV) (h1 : Heap) (kr : KR) (kp : KP) : Ans := cl n168 [x0] h1 (fun x5 h6 =>
 NEWC (.n (some (.int .i64 n0)) (.n (some (.str n0 n0)) (.n (some (.int .i64 n0)) .e .e) .e) (.n (some (.int .i64 n0)) .e .e)) n4 130 h6 fun x9 h10 =>
 ST n4 x9 x5 h10 fun h11 =>
 FA n0 x9 fun x12 =>
 LD x12 h11 fun x13 =>
 JO (fun h14 =>
 NC x0 fun x15 =>
 FA n5 x15 fun x16 =>
 ST n1 x16 (.bool true) h14 fun h17 =>
 kr (.int .i64 n0) h17) fun j18 =>
 EQL Pr 3 true x13 (.int .i64 n1) fun x19 =>
 IFB x19 (B379x34 x0 h11 x9 cl kr kp)
 (EQL Pr 3 true x13 (.int .i64 n2) fun x35 =>
 IFB x35 (B379x50 x0 h11 x9 cl kr kp)
 (B379x179 x13 x0 h11 x9 cl kr kp j18))) kp
def F379 (fu : Nat) (oR : Orc) (cl : CL) (args : List AV) (h1 : Heap) (kr : KR) (kp : KP) : Ans := AR1 args fun x0 =>
 NC x0 fun x2 =>
 FA n5 x2 fun x3 =>
 LD x3 h1 fun x4 =>
 IFB x4 (kr (.int .i64 n0) h1)
 (B379x180 cl x0 h1 kr kp)

theorem eqF379 : F379 = fun fu oR => compF Pr fu oR 379 1 := by kernel_rfl

def B380x32 (cl : CL) (x0 : AV) (kr : KR) (kp : KP) (h5 : Heap) : Ans := JO (fun x13 h14 =>
 cl n257 [x0, (.func (.func 380) [x0] [])] h14 (fun x15 h16 =>
 BSL n3 n1 [(.int .i64 n0)] n1 [(n0, x15)] h16 fun x19 h20 =>
 cl n260 [x0, x13, x19] h20 (fun x21 h22 =>
 kr x21 h22) kp) kp) fun j25 =>
 cl n200 [x0] h5 (fun x26 h27 =>
 OV (fieldA Pr 130 x26 1) fun x30 =>
 EQL Pr 9 true x30 (.str n1 n33) fun x31 =>
 IFB x31 (j25 (.int .i64 n12) h27)
 (j25 (.int .i64 n25) h27)) kp
def F380 (fu : Nat) (oR : Orc) (cl : CL) (args : List AV) (h1 : Heap) (kr : KR) (kp : KP) : Ans := AR1 args fun x0 =>
 BSL n9 n1 [(.str n0 n0), (.str n0 n0)] n2 [(n0, (.str n1 n45)), (n1, (.str n1 n33))] h1 fun x2 h3 =>
 cl n203 [x0, x2] h3 (fun x4 h5 =>
 OV (unOpA .not x4) fun x8 =>
 IFB x8 (cl n383 [x0] h5 (fun x9 h10 =>
 kr x9 h10) kp)
 (B380x32 cl x0 kr kp h5)) kp

theorem eqF380 : F380 = fun fu oR => compF Pr fu oR 380 1 := by kernel_rfl

def B383x26 (x0 : AV) (h8 : Heap) (x6 : AV) (cl : CL) (kr : KR) (kp : KP) : Ans := NC x0 fun x12 =>
 FA n1 x12 fun x13 =>
 LD x13 h8 fun x14 =>
 ADD Pr 3 true x14 (.int .i64 n1) fun x15 =>
 NC x0 fun x16 =>
 FA n1 x16 fun x17 =>
 ST n1 x17 x15 h8 fun h18 =>
 FA n2 x6 fun x19 =>
 LD x19 h18 fun x20 =>
 OV (buildA Pr 108 [(n0, (.int .i64 n0)), (n3, x20)]) fun x21 =>
 cl n297 [x0, x21] h18 (fun x22 h23 =>
 kr x22 h23) kp
def B383x42 (x0 : AV) (h8 : Heap) (x6 : AV) (cl : CL) (kr : KR) (kp : KP) : Ans := NC x0 fun x28 =>
 FA n1 x28 fun x29 =>
 LD x29 h8 fun x30 =>
 ADD Pr 3 true x30 (.int .i64 n1) fun x31 =>
 NC x0 fun x32 =>
 FA n1 x32 fun x33 =>
 ST n1 x33 x31 h8 fun h34 =>
 FA n1 x6 fun x35 =>
 LD x35 h34 fun x36 =>
 OV (buildA Pr 108 [(n0, (.int .i64 n1)), (n1, x36)]) fun x37 =>
 cl n297 [x0, x37] h34 (fun x38 h39 =>
 kr x38 h39) kp
def B383x58 (x0 : AV) (h8 : Heap) (x6 : AV) (cl : CL) (kr : KR) (kp : KP) : Ans := NC x0 fun x44 =>
 FA n1 x44 fun x45 =>
 LD x45 h8 fun x46 =>
 ADD Pr 3 true x46 (.int .i64 n1) fun x47 =>
 NC x0 fun x48 =>
 FA n1 x48 fun x49 =>
 ST n1 x49 x47 h8 fun h50 =>
 FA n1 x6 fun x51 =>
 LD x51 h50 fun x52 =>
 OV (buildA Pr 108 [(n0, (.int .i64 n2)), (n1, x52)]) fun x53 =>
 cl n297 [x0, x53] h50 (fun x54 h55 =>
 kr x54 h55) kp
def B383x105 (x0 : AV) (h70 : Heap) (cl : CL) (x6 : AV) (kr : KR) (kp : KP) : Ans := NC x0 fun x81 =>
 FA n1 x81 fun x82 =>
 LD x82 h70 fun x83 =>
 ADD Pr 3 true x83 (.int .i64 n1) fun x84 =>
 NC x0 fun x85 =>
 FA n1 x85 fun x86 =>
 ST n1 x86 x84 h70 fun h87 =>
 cl n204 [x0] h87 (fun x88 h89 =>
 cl n202 [x0, (.str n1 n93)] h89 (fun x92 h93 =>
 FA n1 x6 fun x96 =>
 LD x96 h93 fun x97 =>
 BSL n3 n1 [(.int .i64 n0)] n1 [(n0, x88)] h93 fun x98 h99 =>
 OV (buildA Pr 108 [(n0, (.int .i64 n5)), (n1, x97), (n4, x98)]) fun x100 =>
 cl n297 [x0, x100] h99 (fun x101 h102 =>
 kr x101 h102) kp) kp) kp
def B383x106 (x0 : AV) (h8 : Heap) (cl : CL) (x6 : AV) (kr : KR) (kp : KP) : Ans := NC x0 fun x60 =>
 FA n1 x60 fun x61 =>
 LD x61 h8 fun x62 =>
 ADD Pr 3 true x62 (.int .i64 n1) fun x63 =>
 NC x0 fun x64 =>
 FA n1 x64 fun x65 =>
 ST n1 x65 x63 h8 fun h66 =>
 BSL n9 n1 [(.str n0 n0)] n1 [(n0, (.str n1 n91))] h66 fun x67 h68 =>
 cl n203 [x0, x67] h68 (fun x69 h70 =>
 OV (unOpA .not x69) fun x73 =>
 IFB x73 (FA n1 x6 fun x74 =>
 LD x74 h70 fun x75 =>
 OV (buildA Pr 108 [(n0, (.int .i64 n3)), (n1, x75)]) fun x76 =>
 cl n297 [x0, x76] h70 (fun x77 h78 =>
 kr x77 h78) kp)
 (B383x105 x0 h70 cl x6 kr kp)) kp
def B383x149 (x0 : AV) (h8 : Heap) (cl : CL) (x6 : AV) (kr : KR) (kp : KP) : Ans := NC x0 fun x108 =>
 FA n1 x108 fun x109 =>
 LD x109 h8 fun x110 =>
 ADD Pr 3 true x110 (.int .i64 n1) fun x111 =>
 NC x0 fun x112 =>
 FA n1 x112 fun x113 =>
 ST n1 x113 x111 h8 fun h114 =>
 cl n202 [x0, (.str n1 n40)] h114 (fun x115 h116 =>
 FA n1 x6 fun x119 =>
 LD x119 h116 fun x120 =>
 OV (buildA Pr 108 [(n0, (.int .i64 n26)), (n1, x120)]) fun x121 =>
 NEWC (.n (some (.int .i64 n0)) (.n (some (.str n0 n0)) (.n (some (.int .i64 n0)) .e .e) .e) (.n (some (.str n0 n0)) (.n (some (.nilslice)) .e .e) .e)) n5 108 h116 fun x122 h123 =>
 ST n5 x122 x121 h123 fun h124 =>
 JO (fun h125 =>
 cl n202 [x0, (.str n1 n41)] h125 (fun x126 h127 =>
 LDN n5 x122 h127 fun x130 =>
 cl n297 [x0, x130] h127 (fun x131 h132 =>
 kr x131 h132) kp) kp) fun j135 =>
 BSL n9 n1 [(.str n0 n0)] n1 [(n0, (.str n1 n41))] h124 fun x136 h137 =>
 cl n203 [x0, x136] h137 (fun x138 h139 =>
 OV (unOpA .not x138) fun x142 =>
 IFB x142 (cl n347 [x0] h139 (fun x143 h144 =>
 FA n4 x122 fun x147 =>
 ST n1 x147 x143 h144 fun h148 =>
 j135  h148) kp)
 (j135  h139)) kp) kp
def B383x188 (x0 : AV) (h168 : Heap) (cl : CL) (kr : KR) (kp : KP) : Ans := NC x0 fun x171 =>
 FA n1 x171 fun x172 =>
 LD x172 h168 fun x173 =>
 ADD Pr 3 true x173 (.int .i64 n1) fun x174 =>
 NC x0 fun x175 =>
 FA n1 x175 fun x176 =>
 ST n1 x176 x174 h168 fun h177 =>
 cl n257 [x0, (.func (.func 383) [x0] [])] h177 (fun x178 h179 =>
 BSL n3 n1 [(.int .i64 n0)] n1 [(n0, x178)] h179 fun x182 h183 =>
 cl n260 [x0, (.int .i64 n4), x182] h183 (fun x184 h185 =>
 kr x184 h185) kp) kp
def B383x193 (h158 : Heap) (cl : CL) (x0 : AV) (kr : KR) (kp : KP) : Ans := BSL n9 n1 [(.str n0 n0)] n1 [(n0, (.str n1 n36))] h158 fun x165 h166 =>
 cl n203 [x0, x165] h166 (fun x167 h168 =>
 IFB x167 (B383x188 x0 h168 cl kr kp)
 (cl n256 [x0] h168 (fun x189 h190 =>
 kr (.int .i64 n0) h190) kp)) kp
def B383x194 (x10 : AV) (cl : CL) (x0 : AV) (h8 : Heap) (kr : KR) (kp : KP) : Ans := EQL Pr 3 true x10 (.int .i64 n6) fun x150 =>
 IFB x150 (cl n384 [x0] h8 (fun x151 h152 =>
 kr x151 h152) kp)
 (BSL n9 n1 [(.str n0 n0)] n1 [(n0, (.str n1 n40))] h8 fun x155 h156 =>
 cl n203 [x0, x155] h156 (fun x157 h158 =>
 IFB x157 (cl n325 [x0] h158 (fun x161 h162 =>
 kr x161 h162) kp)
 (B383x193 h158 cl x0 kr kp)) kp)
def B383x195 (x10 : AV) (x0 : AV) (h8 : Heap) (x6 : AV) (cl : CL) (kr : KR) (kp : KP) : Ans := EQL Pr 3 true x10 (.int .i64 n3) fun x43 =>
 IFB x43 (B383x58 x0 h8 x6 cl kr kp)
 (EQL Pr 3 true x10 (.int .i64 n4) fun x59 =>
 IFB x59 (B383x106 x0 h8 cl x6 kr kp)
 (EQL Pr 3 true x10 (.int .i64 n5) fun x107 =>
 IFB x107 (B383x149 x0 h8 cl x6 kr kp)
 (B383x194 x10 cl x0 h8 kr kp)))
def F383 (fu : Nat) (oR : Orc) (cl : CL) (args : List AV) (h1 : Heap) (kr : KR) (kp : KP) : Ans := AR1 args fun x0 =>
 cl n254 [x0, (.int .i64 n0)] h1 (fun x2 h3 =>
 NEWC (.n (some (.int .i64 n0)) (.n (some (.str n0 n0)) (.n (some (.int .i64 n0)) .e .e) .e) (.n (some (.int .i64 n0)) .e .e)) n4 130 h3 fun x6 h7 =>
 ST n4 x6 x2 h7 fun h8 =>
 FA n0 x6 fun x9 =>
 LD x9 h8 fun x10 =>
 EQL Pr 3 true x10 (.int .i64 n1) fun x11 =>
 IFB x11 (B383x26 x0 h8 x6 cl kr kp)
 (EQL Pr 3 true x10 (.int .i64 n2) fun x27 =>
 IFB x27 (B383x42 x0 h8 x6 cl kr kp)
 (B383x195 x10 x0 h8 x6 cl kr kp))) kp

theorem eqF383 : F383 = fun fu oR => compF Pr fu oR 383 1 := by kernel_rfl
end
end Go.Ev
