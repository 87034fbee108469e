import Derived.Test.YtfgmimcbjjbplaaGreatDoorEvB
import Derived.KernelRfl
import Derived.Test.YtfgmimcbjjbplaaGreatDoorChecked
set_option linter.all false
namespace Go.Ev
noncomputable section
noncomputable def Pr : Program := Go.Proofs.Tryz.prog
noncomputable def AR0 (l : List AV) (k : Ans) : Ans := lcase l (k ) fun _ _ => .no
noncomputable def AR1 (l : List AV) (k : AV → Ans) : Ans := lcase l .no fun x0 l => lcase l (k x0) fun _ _ => .no
noncomputable def AR2 (l : List AV) (k : AV → AV → Ans) : Ans := lcase l .no fun x0 l => lcase l .no fun x1 l => lcase l (k x0 x1) fun _ _ => .no
noncomputable def AR3 (l : List AV) (k : AV → AV → AV → Ans) : Ans := lcase l .no fun x0 l => lcase l .no fun x1 l => lcase l .no fun x2 l => lcase l (k x0 x1 x2) fun _ _ => .no
noncomputable def AR4 (l : List AV) (k : AV → AV → AV → AV → Ans) : Ans := lcase l .no fun x0 l => lcase l .no fun x1 l => lcase l .no fun x2 l => lcase l .no fun x3 l => lcase l (k x0 x1 x2 x3) fun _ _ => .no
noncomputable def AR5 (l : List AV) (k : AV → AV → AV → AV → AV → Ans) : Ans := lcase l .no fun x0 l => lcase l .no fun x1 l => lcase l .no fun x2 l => lcase l .no fun x3 l => lcase l .no fun x4 l => lcase l (k x0 x1 x2 x3 x4) fun _ _ => .no
noncomputable def AR6 (l : List AV) (k : AV → AV → AV → AV → AV → AV → Ans) : Ans := lcase l .no fun x0 l => lcase l .no fun x1 l => lcase l .no fun x2 l => lcase l .no fun x3 l => lcase l .no fun x4 l => lcase l .no fun x5 l => lcase l (k x0 x1 x2 x3 x4 x5) fun _ _ => .no
noncomputable def AR7 (l : List AV) (k : AV → AV → AV → AV → AV → AV → AV → Ans) : Ans := lcase l .no fun x0 l => lcase l .no fun x1 l => lcase l .no fun x2 l => lcase l .no fun x3 l => lcase l .no fun x4 l => lcase l .no fun x5 l => lcase l .no fun x6 l => lcase l (k x0 x1 x2 x3 x4 x5 x6) fun _ _ => .no
noncomputable def AR8 (l : List AV) (k : AV → AV → AV → AV → AV → AV → AV → AV → Ans) : Ans := lcase l .no fun x0 l => lcase l .no fun x1 l => lcase l .no fun x2 l => lcase l .no fun x3 l => lcase l .no fun x4 l => lcase l .no fun x5 l => lcase l .no fun x6 l => lcase l .no fun x7 l => lcase l (k x0 x1 x2 x3 x4 x5 x6 x7) fun _ _ => .no
noncomputable def AR9 (l : List AV) (k : AV → AV → AV → AV → AV → AV → AV → AV → AV → Ans) : Ans := lcase l .no fun x0 l => lcase l .no fun x1 l => lcase l .no fun x2 l => lcase l .no fun x3 l => lcase l .no fun x4 l => lcase l .no fun x5 l => lcase l .no fun x6 l => lcase l .no fun x7 l => lcase l .no fun x8 l => lcase l (k x0 x1 x2 x3 x4 x5 x6 x7 x8) fun _ _ => .no

noncomputable def B5x77 (x49 : AV) (kr : KR) (cl : CL) (kp : KP) (x52 : AV) (x62 : AV) (h63 : Heap) : Ans := JO (fun x64 h65 =>
 SEL x49 x64 (.bool false) fun x66 =>
 JO (fun x67 h68 =>
 SEL x66 x67 (.bool false) fun x69 =>
 kr x69 h68) fun j70 =>
 GW true x66 (cl (nat_lit 11) [] h65 (fun x71 h72 =>
 j70 x71 h72) kp)
 (j70 undefA h65)) fun j75 =>
 GW true x49 (EQL Pr 9 false x52 x62 fun x76 =>
 j75 x76 h63)
 (j75 undefA h63)
noncomputable def B5x87 (x49 : AV) (kr : KR) (cl : CL) (kp : KP) (x52 : AV) (x54 : AV) (x56 : AV) (h57 : Heap) : Ans := JO (fun x58 h59 =>
 JO (fun x60 h61 =>
 JO (fun x62 h63 =>
 B5x77 x49 kr cl kp x52 x62 h63) fun j78 =>
 GW true x49 (ADD Pr 9 true (.str (nat_lit 2) (nat_lit 8240)) x60 fun x79 =>
 j78 x79 h61)
 (j78 undefA h61)) fun j80 =>
 GW true x49 (cl (nat_lit 12) [x58] h59 (fun x81 h82 =>
 j80 x81 h82) kp)
 (j80 undefA h59)) fun j85 =>
 GW true x49 (EQL Pr 3 false x54 x56 fun x86 =>
 j85 x86 h57)
 (j85 undefA h57)
noncomputable def B5x95 (x49 : AV) (kr : KR) (cl : CL) (kp : KP) (x6 : AV) (x2 : AV) (x50 : AV) (h51 : Heap) : Ans := JO (fun x52 h53 =>
 JO (fun x54 h55 =>
 JO (fun x56 h57 =>
 B5x87 x49 kr cl kp x52 x54 x56 h57) fun j88 =>
 GW true x49 (j88 x6 h55)
 (j88 undefA h55)) fun j89 =>
 GW true x49 (j89 x2 h53)
 (j89 undefA h53)) fun j90 =>
 GW true x49 (cl (nat_lit 10) [(.str (nat_lit 44) (nat_lit 4484001323781985456922288020540906058363718833013496354576632900709571684040403084695597122961393218756731)), x50] h51 (fun x91 h92 =>
 j90 x91 h92) kp)
 (j90 undefA h51)
noncomputable def B5x104 (x30 : AV) (kr : KR) (cl : CL) (kp : KP) (x6 : AV) (x2 : AV) (x20 : AV) (x33 : AV) (x43 : AV) (h44 : Heap) : Ans := JO (fun x45 h46 =>
 JO (fun x47 h48 =>
 SEL x30 x47 (.bool false) fun x49 =>
 JO (fun x50 h51 =>
 B5x95 x49 kr cl kp x6 x2 x50 h51) fun j96 =>
 GW true x49 (j96 x20 h48)
 (j96 undefA h48)) fun j97 =>
 GW true x30 (EQL Pr 9 false x33 x45 fun x98 =>
 j97 x98 h46)
 (j97 undefA h46)) fun j99 =>
 GW true x30 (cl (nat_lit 12) [x43] h44 (fun x100 h101 =>
 j99 x100 h101) kp)
 (j99 undefA h44)
noncomputable def B5x113 (x30 : AV) (kr : KR) (cl : CL) (kp : KP) (x6 : AV) (x2 : AV) (x20 : AV) (x33 : AV) (x37 : AV) (h38 : Heap) : Ans := JO (fun x39 h40 =>
 JO (fun x41 h42 =>
 JO (fun x43 h44 =>
 B5x104 x30 kr cl kp x6 x2 x20 x33 x43 h44) fun j105 =>
 GW true x30 (LSS Pr 9 false x37 x41 fun x106 =>
 j105 x106 h42)
 (j105 undefA h42)) fun j107 =>
 GW true x30 (cl (nat_lit 8) [x39] h40 (fun x108 h109 =>
 j107 x108 h109) kp)
 (j107 undefA h40)) fun j112 =>
 GW true x30 (j112 x6 h38)
 (j112 undefA h38)
noncomputable def B5x125 (x30 : AV) (kr : KR) (cl : CL) (kp : KP) (x6 : AV) (x2 : AV) (x20 : AV) (x31 : AV) (h32 : Heap) : Ans := JO (fun x33 h34 =>
 JO (fun x35 h36 =>
 JO (fun x37 h38 =>
 B5x113 x30 kr cl kp x6 x2 x20 x33 x37 h38) fun j114 =>
 GW true x30 (cl (nat_lit 8) [x35] h36 (fun x115 h116 =>
 j114 x115 h116) kp)
 (j114 undefA h36)) fun j119 =>
 GW true x30 (j119 x2 h34)
 (j119 undefA h34)) fun j120 =>
 GW true x30 (cl (nat_lit 10) [(.str (nat_lit 23) (nat_lit 11984680497854193699836544028867505573751544673133928571)), x31] h32 (fun x121 h122 =>
 j120 x121 h122) kp)
 (j120 undefA h32)
noncomputable def F5 (fu : Nat) (oR : FuncId → List AV → Option AV) (cl : CL) (args : List AV) (h1 : Heap) (kr : KR) (kp : KP) : Ans := AR1 args fun x0 =>
 cl (nat_lit 9) [x0, (.int .i64 (nat_lit 1))] h1 (fun x2 h3 =>
 cl (nat_lit 9) [x0, (.int .i64 (nat_lit 2))] h3 (fun x6 h7 =>
 cl (nat_lit 8) [x2] h7 (fun x10 h11 =>
 ADD Pr 9 true x10 (.str (nat_lit 1) (nat_lit 32)) fun x14 =>
 cl (nat_lit 8) [x6] h11 (fun x15 h16 =>
 ADD Pr 9 false x14 x15 fun x19 =>
 ADD Pr 9 true x19 (.str (nat_lit 1) (nat_lit 10)) fun x20 =>
 cl (nat_lit 10) [(.str (nat_lit 20) (nat_lit 714342623842428914359614324091879063485720567931)), x20] h16 (fun x21 h22 =>
 LSS Pr 3 false x2 x6 fun x25 =>
 cl (nat_lit 12) [x25] h22 (fun x26 h27 =>
 EQL Pr 9 false x21 x26 fun x30 =>
 JO (fun x31 h32 =>
 B5x125 x30 kr cl kp x6 x2 x20 x31 h32) fun j126 =>
 GW true x30 (j126 x20 h27)
 (j126 undefA h27)) kp) kp) kp) kp) kp) kp

theorem eqF5 : F5 = fun fu oR => compF Pr fu oR 5 1 := by kernel_rfl

noncomputable def F8 (fu : Nat) (oR : FuncId → List AV → Option AV) (cl : CL) (args : List AV) (h1 : Heap) (kr : KR) (kp : KP) : Ans := AR1 args fun x0 =>
 BOP Pr .mul 3 true x0 (.int .i64 (nat_lit 1000000)) fun x2 =>
 cl (nat_lit 13) [x2] h1 (fun x3 h4 =>
 kr x3 h4) kp

theorem eqF8 : F8 = fun fu oR => compF Pr fu oR 8 1 := by kernel_rfl

noncomputable def F9 (fu : Nat) (oR : FuncId → List AV → Option AV) (cl : CL) (args : List AV) (h2 : Heap) (kr : KR) (kp : KP) : Ans := AR2 args fun x0 x1 =>
 LENS x0 fun x3 =>
 EQL Pr 3 true x3 (.int .i64 (nat_lit 0)) fun x4 =>
 IFB x4 (kr (.int .i64 (nat_lit 0)) h2)
 (LENS x0 fun x5 =>
 BOP Pr .rem 3 false x1 x5 fun x6 =>
 SA (nat_lit 1) x0 x6 fun x7 =>
 LD x7 h2 fun x8 =>
 OV (convV Pr h2 5 3 x8) fun x9 =>
 kr x9 h2)

theorem eqF9 : F9 = fun fu oR => compF Pr fu oR 9 2 := by kernel_rfl

noncomputable def F10 (fu : Nat) (oR : FuncId → List AV → Option AV) (cl : CL) (args : List AV) (h2 : Heap) (kr : KR) (kp : KP) : Ans := AR2 args fun x0 x1 =>
 cl (nat_lit 15) [x0] h2 (fun x3 h4 =>
 cl (nat_lit 14) [x3, x1, (.int .i64 (nat_lit 3000))] h4 (fun x7 h8 =>
 NEWC (.n (some (.int .i64 (nat_lit 0))) (.n (some (.int .i64 (nat_lit 0))) (.n (some (.int .i64 (nat_lit 0))) .e .e) (.n (some (.nilslice)) .e .e)) (.n (some (.str (nat_lit 0) (nat_lit 0))) (.n (some (.nilslice)) .e .e) .e)) (nat_lit 6) 32 h8 fun x11 h12 =>
 ST (nat_lit 6) x11 x7 h12 fun h13 =>
 FA (nat_lit 0) x11 fun x14 =>
 LD x14 h13 fun x15 =>
 NEQ Pr 3 true x15 (.int .i64 (nat_lit 0)) fun x16 =>
 IFB x16 (FA (nat_lit 2) x11 fun x17 =>
 LD x17 h13 fun x18 =>
 ADD Pr 9 true x18 (.str (nat_lit 1) (nat_lit 33)) fun x19 =>
 kr x19 h13)
 (FA (nat_lit 2) x11 fun x20 =>
 LD x20 h13 fun x21 =>
 kr x21 h13)) kp) kp

theorem eqF10 : F10 = fun fu oR => compF Pr fu oR 10 2 := by kernel_rfl

noncomputable def B11x57 (x37 : AV) (kr : KR) (x42 : AV) (h43 : Heap) : Ans := JO (fun x44 h45 =>
 JO (fun x46 h47 =>
 JO (fun x48 h49 =>
 SEL x37 x48 (.bool false) fun x50 =>
 kr x50 h49) fun j51 =>
 GW true x37 (EQL Pr 3 true x46 (.int .i64 (nat_lit 3)) fun x52 =>
 j51 x52 h47)
 (j51 undefA h47)) fun j53 =>
 GW true x37 (LD x44 h45 fun x54 =>
 j53 x54 h45)
 (j53 undefA h45)) fun j55 =>
 GW true x37 (FA (nat_lit 3) x42 fun x56 =>
 j55 x56 h43)
 (j55 undefA h43)
noncomputable def B11x64 (x28 : AV) (x35 : AV) (kr : KR) (x9 : AV) (h36 : Heap) : Ans := SEL x28 x35 (.bool false) fun x37 =>
 JO (fun x38 h39 =>
 JO (fun x40 h41 =>
 JO (fun x42 h43 =>
 B11x57 x37 kr x42 h43) fun j58 =>
 GW true x37 (SA (nat_lit 4) x40 (.int .i64 (nat_lit 0)) fun x59 =>
 j58 x59 h41)
 (j58 undefA h41)) fun j60 =>
 GW true x37 (LD x38 h39 fun x61 =>
 j60 x61 h39)
 (j60 undefA h39)) fun j62 =>
 GW true x37 (FA (nat_lit 4) x9 fun x63 =>
 j62 x63 h36)
 (j62 undefA h36)
noncomputable def B11x71 (x28 : AV) (kr : KR) (x9 : AV) (x29 : AV) (h30 : Heap) : Ans := JO (fun x31 h32 =>
 JO (fun x33 h34 =>
 JO (fun x35 h36 =>
 B11x64 x28 x35 kr x9 h36) fun j65 =>
 GW true x28 (EQL Pr 3 true x33 (.int .i64 (nat_lit 1)) fun x66 =>
 j65 x66 h34)
 (j65 undefA h34)) fun j67 =>
 GW true x28 (LENS x31 fun x68 =>
 j67 x68 h32)
 (j67 undefA h32)) fun j69 =>
 GW true x28 (LD x29 h30 fun x70 =>
 j69 x70 h30)
 (j69 undefA h30)
noncomputable def B11x78 (x21 : AV) (kr : KR) (x9 : AV) (x22 : AV) (h23 : Heap) : Ans := JO (fun x24 h25 =>
 JO (fun x26 h27 =>
 SEL x21 x26 (.bool false) fun x28 =>
 JO (fun x29 h30 =>
 B11x71 x28 kr x9 x29 h30) fun j72 =>
 GW true x28 (FA (nat_lit 4) x9 fun x73 =>
 j72 x73 h27)
 (j72 undefA h27)) fun j74 =>
 GW true x21 (GTR Pr 3 true x24 (.int .i64 (nat_lit 0)) fun x75 =>
 j74 x75 h25)
 (j74 undefA h25)) fun j76 =>
 GW true x21 (LD x22 h23 fun x77 =>
 j76 x77 h23)
 (j76 undefA h23)
noncomputable def B11x83 (x14 : AV) (kr : KR) (x9 : AV) (x17 : AV) (h18 : Heap) : Ans := JO (fun x19 h20 =>
 SEL x14 x19 (.bool false) fun x21 =>
 JO (fun x22 h23 =>
 B11x78 x21 kr x9 x22 h23) fun j79 =>
 GW true x21 (FA (nat_lit 3) x9 fun x80 =>
 j79 x80 h20)
 (j79 undefA h20)) fun j81 =>
 GW true x14 (EQL Pr 9 true x17 (.str (nat_lit 6) (nat_lit 11210404998707)) fun x82 =>
 j81 x82 h18)
 (j81 undefA h18)
noncomputable def F11 (fu : Nat) (oR : FuncId → List AV → Option AV) (cl : CL) (args : List AV) (h0 : Heap) (kr : KR) (kp : KP) : Ans := AR0 args <|
 cl (nat_lit 15) [(.str (nat_lit 33) (nat_lit 14488589977845475424764176761743833233575297252101149920416841758886978143527035))] h0 (fun x1 h2 =>
 cl (nat_lit 14) [x1, (.str (nat_lit 10) (nat_lit 48204671023283088466017)), (.int .i64 (nat_lit 500))] h2 (fun x5 h6 =>
 NEWC (.n (some (.int .i64 (nat_lit 0))) (.n (some (.int .i64 (nat_lit 0))) (.n (some (.int .i64 (nat_lit 0))) .e .e) (.n (some (.nilslice)) .e .e)) (.n (some (.str (nat_lit 0) (nat_lit 0))) (.n (some (.nilslice)) .e .e) .e)) (nat_lit 6) 32 h6 fun x9 h10 =>
 ST (nat_lit 6) x9 x5 h10 fun h11 =>
 FA (nat_lit 0) x9 fun x12 =>
 LD x12 h11 fun x13 =>
 EQL Pr 3 true x13 (.int .i64 (nat_lit 0)) fun x14 =>
 JO (fun x15 h16 =>
 JO (fun x17 h18 =>
 B11x83 x14 kr x9 x17 h18) fun j84 =>
 GW true x14 (LD x15 h16 fun x85 =>
 j84 x85 h16)
 (j84 undefA h16)) fun j86 =>
 GW true x14 (FA (nat_lit 2) x9 fun x87 =>
 j86 x87 h11)
 (j86 undefA h11)) kp) kp

theorem eqF11 : F11 = fun fu oR => compF Pr fu oR 11 0 := by kernel_rfl

noncomputable def F12 (fu : Nat) (oR : FuncId → List AV → Option AV) (cl : CL) (args : List AV) (h1 : Heap) (kr : KR) (kp : KP) : Ans := AR1 args fun x0 =>
 IFB x0 (kr (.str (nat_lit 2) (nat_lit 2609)) h1)
 (kr (.str (nat_lit 2) (nat_lit 2608)) h1)

theorem eqF12 : F12 = fun fu oR => compF Pr fu oR 12 1 := by kernel_rfl

noncomputable def B13x39 (x26 : AV) (x25 : AV) (cl : CL) (h28 : Heap) (x27 : AV) (j29 : AV → AV → AV → Heap → Ans) (kp : KP) (kr : KR) : Ans := GTR Pr 3 true x26 (.int .i64 (nat_lit 0)) fun x30 =>
 IFB x30 (BOP Pr .quo 3 false x26 x25 fun x31 =>
 cl (nat_lit 17) [x31] h28 (fun x32 h33 =>
 ADD Pr 9 false x27 x32 fun x36 =>
 BOP Pr .rem 3 false x26 x25 fun x37 =>
 BOP Pr .quo 3 true x25 (.int .i64 (nat_lit 10)) fun x38 =>
 j29 x38 x37 x36 h33) kp)
 (kr x27 h28)
noncomputable def B13x40 (cl : CL) (x0 : AV) (h17 : Heap) (kr : KR) (x16 : AV) (fu : Nat) (kp : KP) : Ans := cl (nat_lit 18) [x0] h17 (fun x18 h19 =>
 BOP Pr .rem 3 true x18 (.int .i64 (nat_lit 1000000)) fun x22 =>
 EQL Pr 3 true x22 (.int .i64 (nat_lit 0)) fun x23 =>
 IFB x23 (kr x16 h19)
 (ADD Pr 9 true x16 (.str (nat_lit 1) (nat_lit 46)) fun x24 =>
 LP fu (fun _ _ _ _ => Ans.no) (fun j29 x25 x26 x27 h28 =>
 B13x39 x26 x25 cl h28 x27 j29 kp kr) (.int .i64 (nat_lit 100000)) x22 x24 h19)) kp
noncomputable def B13x44 (cl : CL) (x0 : AV) (h3 : Heap) (kr : KR) (fu : Nat) (kp : KP) : Ans := cl (nat_lit 18) [x0] h3 (fun x7 h8 =>
 BOP Pr .quo 3 true x7 (.int .i64 (nat_lit 1000000)) fun x11 =>
 cl (nat_lit 17) [x11] h8 (fun x12 h13 =>
 JO (fun x16 h17 =>
 B13x40 cl x0 h17 kr x16 fu kp) fun j41 =>
 LSS Pr 3 true x0 (.int .i64 (nat_lit 0)) fun x42 =>
 IFB x42 (ADD Pr 9 true (.str (nat_lit 1) (nat_lit 45)) x12 fun x43 =>
 j41 x43 h13)
 (j41 x12 h13)) kp) kp
noncomputable def F13 (fu : Nat) (oR : FuncId → List AV → Option AV) (cl : CL) (args : List AV) (h1 : Heap) (kr : KR) (kp : KP) : Ans := AR1 args fun x0 =>
 cl (nat_lit 16) [x0] h1 (fun x2 h3 =>
 OV (unOpA .not x2) fun x6 =>
 IFB x6 (kr (.str (nat_lit 0) (nat_lit 0)) h3)
 (B13x44 cl x0 h3 kr fu kp)) kp

theorem eqF13 : F13 = fun fu oR => compF Pr fu oR 13 1 := by kernel_rfl

noncomputable def B14x74 (x46 : AV) (h52 : Heap) (cl : CL) (x4 : AV) (x51 : AV) (j53 : AV → Heap → Ans) (kp : KP) : Ans := NC x46 fun x55 =>
 FA (nat_lit 2) x55 fun x56 =>
 LD x56 h52 fun x57 =>
 cl (nat_lit 24) [x4, x51] h52 (fun x58 h59 =>
 LD x56 h59 fun x62 =>
 EQV x57 x62 <|
 BSL (nat_lit 58) (nat_lit 5) [(.int .i64 (nat_lit 0)), (.str (nat_lit 0) (nat_lit 0)), (.nilslice), (.int .i64 (nat_lit 0)), (.int .i64 (nat_lit 0))] (nat_lit 1) [((nat_lit 0), x58)] h59 fun x63 h64 =>
 LD x56 h64 fun x65 =>
 EQV x57 x65 <|
 GEN (builtinF .append Pr [35, 35] [x57, x63] h64) cl (fun x66 h67 =>
 NC x46 fun x70 =>
 FA (nat_lit 2) x70 fun x71 =>
 ST (nat_lit 1) x71 x66 h67 fun h72 =>
 ADD Pr 3 true x51 (.int .i64 (nat_lit 1)) fun x73 =>
 j53 x73 h72) kp) kp
noncomputable def B14x132 (h104 : Heap) (x99 : AV) (x46 : AV) (cl : CL) (j102 : Heap → Ans) (kp : KP) : Ans := OV (entryA h104 x99) fun x108 =>
 EX (nat_lit 0) x108 fun x109 =>
 EX (nat_lit 1) x108 fun x110 =>
 NEWC (.n (some (.str (nat_lit 0) (nat_lit 0))) (.n (some (.str (nat_lit 0) (nat_lit 0))) (.n (some (.int .i64 (nat_lit 0))) .e .e) .e) (.n (some (.int .i64 (nat_lit 0))) .e .e)) (nat_lit 4) 40 h104 fun x111 h112 =>
 ST (nat_lit 4) x111 x109 h112 fun h113 =>
 FA (nat_lit 3) x111 fun x114 =>
 ST (nat_lit 1) x114 x110 h113 fun h115 =>
 NC x46 fun x116 =>
 FA (nat_lit 12) x116 fun x117 =>
 FA (nat_lit 4) x117 fun x118 =>
 LD x118 h115 fun x119 =>
 LDN (nat_lit 4) x111 h115 fun x120 =>
 BSL (nat_lit 40) (nat_lit 4) [(.str (nat_lit 0) (nat_lit 0)), (.str (nat_lit 0) (nat_lit 0)), (.int .i64 (nat_lit 0)), (.int .i64 (nat_lit 0))] (nat_lit 1) [((nat_lit 0), x120)] h115 fun x121 h122 =>
 LD x118 h122 fun x123 =>
 EQV x119 x123 <|
 GEN (builtinF .append Pr [29, 29] [x119, x121] h122) cl (fun x124 h125 =>
 NC x46 fun x128 =>
 FA (nat_lit 12) x128 fun x129 =>
 FA (nat_lit 4) x129 fun x130 =>
 ST (nat_lit 1) x130 x124 h125 fun h131 =>
 j102  h131) kp
noncomputable def B14x146 (x46 : AV) (h104 : Heap) (cl : CL) (x6 : AV) (kr : KR) (kp : KP) : Ans := NC x46 fun x133 =>
 FA (nat_lit 12) x133 fun x134 =>
 FA (nat_lit 4) x134 fun x135 =>
 LD x135 h104 fun x136 =>
 cl (nat_lit 26) [x136] h104 (fun x137 h138 =>
 NC x46 fun x141 =>
 FA (nat_lit 12) x141 fun x142 =>
 LDN (nat_lit 6) x142 h138 fun x143 =>
 ST (nat_lit 6) x6 x143 h138 fun h144 =>
 LDN (nat_lit 6) x6 h144 fun x145 =>
 kr x145 h144) kp
noncomputable def B14x147 (x4 : AV) (h52 : Heap) (x46 : AV) (x2 : AV) (cl : CL) (x8 : AV) (fu : Nat) (kp : KP) (x6 : AV) (kr : KR) : Ans := FA (nat_lit 0) x4 fun x75 =>
 LD x75 h52 fun x76 =>
 LENS x76 fun x77 =>
 OVH (makeSliceA Pr h52 30 x77 x77) fun x78 h79 =>
 NEWB h52 h79 fun b80 i81 h82 =>
 NC x46 fun x83 =>
 FA (nat_lit 12) x83 fun x84 =>
 FA (nat_lit 3) x84 fun x85 =>
 ST (nat_lit 1) x85 x2 h82 fun h86 =>
 NC x46 fun x87 =>
 FA (nat_lit 12) x87 fun x88 =>
 FA (nat_lit 5) x88 fun x89 =>
 SETB h86 i81 b80 fun h90 =>
 ST (nat_lit 1) x89 x78 h90 fun h91 =>
 cl (nat_lit 25) [x46, x8] h91 (fun x92 h93 =>
 NC x46 fun x96 =>
 FA (nat_lit 5) x96 fun x97 =>
 LD x97 h93 fun x98 =>
 OVH (rangeA Pr h93 51 x98) fun x99 h100 =>
 LP fu (fun _ => Ans.no) (fun j102 h101 =>
 GEN (nextA h101 x99 false) cl (fun x103 h104 =>
 EX (nat_lit 0) x103 fun x107 =>
 IFB x107 (B14x132 h104 x99 x46 cl j102 kp)
 (B14x146 x46 h104 cl x6 kr kp)) kp)  h100) kp
noncomputable def B14x148 (x4 : AV) (h35 : Heap) (fu : Nat) (cl : CL) (kp : KP) (x2 : AV) (x8 : AV) (x6 : AV) (kr : KR) : Ans := LDN (nat_lit 2) x4 h35 fun x40 =>
 OPVH (newMap Pr 50 h35) fun x41 h42 =>
 OPVH (newMap Pr 51 h42) fun x43 h44 =>
 OV (buildA Pr 56 [((nat_lit 0), x40), ((nat_lit 2), x41), ((nat_lit 4), x43)]) fun x45 =>
 BOX 56 x45 h44 fun x46 h47 =>
 FA (nat_lit 0) x4 fun x48 =>
 LD x48 h47 fun x49 =>
 LENS x49 fun x50 =>
 LP fu (fun _ _ => Ans.no) (fun j53 x51 h52 =>
 LSS Pr 3 false x51 x50 fun x54 =>
 IFB x54 (B14x74 x46 h52 cl x4 x51 j53 kp)
 (B14x147 x4 h52 x46 x2 cl x8 fu kp x6 kr)) (.int .i64 (nat_lit 0)) h47
noncomputable def B14x151 (x29 : AV) (x6 : AV) (kr : KR) (x4 : AV) (fu : Nat) (cl : CL) (kp : KP) (x2 : AV) (x8 : AV) (x32 : AV) (h33 : Heap) : Ans := JO (fun x34 h35 =>
 SEL x29 (.bool true) x34 fun x36 =>
 IFB x36 (OV (buildA Pr 32 [((nat_lit 0), (.int .i64 (nat_lit 13)))]) fun x37 =>
 ST (nat_lit 6) x6 x37 h35 fun h38 =>
 LDN (nat_lit 6) x6 h38 fun x39 =>
 kr x39 h38)
 (B14x148 x4 h35 fu cl kp x2 x8 x6 kr)) fun j149 =>
 GW false x29 (OV (unOpA .not x32) fun x150 =>
 j149 x150 h33)
 (j149 undefA h33)
noncomputable def B14x158 (x24 : AV) (x27 : AV) (x6 : AV) (kr : KR) (x4 : AV) (fu : Nat) (cl : CL) (kp : KP) (x2 : AV) (x8 : AV) (h28 : Heap) : Ans := SEL x24 (.bool true) x27 fun x29 =>
 JO (fun x30 h31 =>
 JO (fun x32 h33 =>
 B14x151 x29 x6 kr x4 fu cl kp x2 x8 x32 h33) fun j152 =>
 GW false x29 (cl (nat_lit 23) [x30, (.int .i64 (nat_lit 0)), (.int .i64 (nat_lit 20000))] h31 (fun x153 h154 =>
 j152 x153 h154) kp)
 (j152 undefA h31)) fun j157 =>
 GW false x29 (j157 x2 h28)
 (j157 undefA h28)
noncomputable def B14x165 (x17 : AV) (x22 : AV) (x6 : AV) (kr : KR) (x4 : AV) (fu : Nat) (cl : CL) (kp : KP) (x2 : AV) (x8 : AV) (h23 : Heap) : Ans := SEL x17 (.bool true) x22 fun x24 =>
 JO (fun x25 h26 =>
 JO (fun x27 h28 =>
 B14x158 x24 x27 x6 kr x4 fu cl kp x2 x8 h28) fun j159 =>
 GW false x24 (cl (nat_lit 21) [x25, (.func (.func 22) [] [])] h26 (fun x160 h161 =>
 j159 x160 h161) kp)
 (j159 undefA h26)) fun j164 =>
 GW false x24 (j164 x8 h23)
 (j164 undefA h23)
noncomputable def F14 (fu : Nat) (oR : FuncId → List AV → Option AV) (cl : CL) (args : List AV) (h3 : Heap) (kr : KR) (kp : KP) : Ans := AR3 args fun x0 x1 x2 =>
 BOX 37 x0 h3 fun x4 h5 =>
 NEWC (.n (some (.int .i64 (nat_lit 0))) (.n (some (.int .i64 (nat_lit 0))) (.n (some (.int .i64 (nat_lit 0))) .e .e) (.n (some (.nilslice)) .e .e)) (.n (some (.str (nat_lit 0) (nat_lit 0))) (.n (some (.nilslice)) .e .e) .e)) (nat_lit 6) 32 h5 fun x6 h7 =>
 cl (nat_lit 19) [x1] h7 (fun x8 h9 =>
 LDN (nat_lit 2) x4 h9 fun x12 =>
 cl (nat_lit 20) [x12] h9 (fun x13 h14 =>
 OV (unOpA .not x13) fun x17 =>
 JO (fun x18 h19 =>
 JO (fun x20 h21 =>
 JO (fun x22 h23 =>
 B14x165 x17 x22 x6 kr x4 fu cl kp x2 x8 h23) fun j166 =>
 GW false x17 (GTR Pr 3 true x20 (.int .i64 (nat_lit 3000)) fun x167 =>
 j166 x167 h21)
 (j166 undefA h21)) fun j168 =>
 GW false x17 (LENT x18 fun x169 =>
 j168 x169 h19)
 (j168 undefA h19)) fun j170 =>
 GW false x17 (j170 x1 h14)
 (j170 undefA h14)) kp) kp

theorem eqF14 : F14 = fun fu oR => compF Pr fu oR 14 3 := by kernel_rfl

noncomputable def F15 (fu : Nat) (oR : FuncId → List AV → Option AV) (cl : CL) (args : List AV) (h1 : Heap) (kr : KR) (kp : KP) : Ans := AR1 args fun x0 =>
 NEWC (.n (some (.nilslice)) (.n (some (.nilslice)) .e .e) .e) (nat_lit 2) 37 h1 fun x2 h3 =>
 cl (nat_lit 27) [x0] h3 (fun x4 h5 =>
 EX (nat_lit 0) x4 fun x8 =>
 EX (nat_lit 1) x4 fun x9 =>
 NEWC (.n (some (.nilslice)) (.n (some (.nilslice)) .e .e) .e) (nat_lit 2) 37 h5 fun x10 h11 =>
 ST (nat_lit 2) x10 x8 h11 fun h12 =>
 LDN (nat_lit 2) x10 h12 fun x13 =>
 ST (nat_lit 2) x2 x13 h12 fun h14 =>
 LDN (nat_lit 2) x2 h14 fun x15 =>
 kr x15 h14) kp

theorem eqF15 : F15 = fun fu oR => compF Pr fu oR 15 1 := by kernel_rfl

noncomputable def F16 (fu : Nat) (oR : FuncId → List AV → Option AV) (cl : CL) (args : List AV) (h1 : Heap) (kr : KR) (kp : KP) : Ans := AR1 args fun x0 =>
 GEQ Pr 3 true x0 (.int .i64 (nat_lit 18446735073709551616)) fun x2 =>
 JO (fun x3 h4 =>
 JO (fun x5 h6 =>
 SEL x2 x5 (.bool false) fun x7 =>
 kr x7 h6) fun j8 =>
 GW true x2 (LEQ Pr 3 true x3 (.int .i64 (nat_lit 9000000000000)) fun x9 =>
 j8 x9 h4)
 (j8 undefA h4)) fun j10 =>
 GW true x2 (j10 x0 h1)
 (j10 undefA h1)

theorem eqF16 : F16 = fun fu oR => compF Pr fu oR 16 1 := by kernel_rfl

noncomputable def F17 (fu : Nat) (oR : FuncId → List AV → Option AV) (cl : CL) (args : List AV) (h1 : Heap) (kr : KR) (kp : KP) : Ans := AR1 args fun x0 =>
 BOP Pr .rem 3 true x0 (.int .i64 (nat_lit 10)) fun x2 =>
 ADD Pr 3 true (.int .i64 (nat_lit 48)) x2 fun x3 =>
 OV (convV Pr h1 3 5 x3) fun x4 =>
 BSL (nat_lit 5) (nat_lit 1) [(.int .u8 (nat_lit 0))] (nat_lit 1) [((nat_lit 0), x4)] h1 fun x5 h6 =>
 OV (convV Pr h6 22 9 x5) fun x7 =>
 LSS Pr 3 true x0 (.int .i64 (nat_lit 10)) fun x8 =>
 IFB x8 (kr x7 h6)
 (BOP Pr .quo 3 true x0 (.int .i64 (nat_lit 10)) fun x9 =>
 cl (nat_lit 17) [x9] h6 (fun x10 h11 =>
 ADD Pr 9 false x10 x7 fun x14 =>
 kr x14 h11) kp)

theorem eqF17 : F17 = fun fu oR => compF Pr fu oR 17 1 := by kernel_rfl

noncomputable def F18 (fu : Nat) (oR : FuncId → List AV → Option AV) (cl : CL) (args : List AV) (h1 : Heap) (kr : KR) (kp : KP) : Ans := AR1 args fun x0 =>
 LSS Pr 3 true x0 (.int .i64 (nat_lit 0)) fun x2 =>
 IFB x2 (OV (unOpA .neg x0) fun x3 =>
 kr x3 h1)
 (kr x0 h1)

theorem eqF18 : F18 = fun fu oR => compF Pr fu oR 18 1 := by kernel_rfl

noncomputable def F19 (fu : Nat) (oR : FuncId → List AV → Option AV) (cl : CL) (args : List AV) (h1 : Heap) (kr : KR) (kp : KP) : Ans := AR1 args fun x0 =>
 LENT x0 fun x2 =>
 GTR Pr 3 true x2 (.int .i64 (nat_lit 3000)) fun x3 =>
 IFB x3 (kr (.nilslice) h1)
 (cl (nat_lit 28) [x0] h1 (fun x4 h5 =>
 kr x4 h5) kp)

theorem eqF19 : F19 = fun fu oR => compF Pr fu oR 19 1 := by kernel_rfl

noncomputable def B20x38 (cl : CL) (x9 : AV) (h6 : Heap) (kr : KR) (kp : KP) (x2 : AV) : Ans := cl (nat_lit 30) [x9] h6 (fun x12 h13 =>
 EX (nat_lit 0) x12 fun x16 =>
 EX (nat_lit 1) x12 fun x17 =>
 NEWC (.n (some (.nilslice)) (.n (some (.nilslice)) .e .e) .e) (nat_lit 2) 37 h13 fun x18 h19 =>
 ST (nat_lit 2) x18 x16 h19 fun h20 =>
 LSS Pr 3 true x17 (.int .i64 (nat_lit 0)) fun x21 =>
 JO (fun x22 h23 =>
 JO (fun x24 h25 =>
 JO (fun x26 h27 =>
 SEL x21 x26 (.bool false) fun x28 =>
 kr x28 h27) fun j29 =>
 GW true x21 (cl (nat_lit 31) [x22, x24] h25 (fun x30 h31 =>
 j29 x30 h31) kp)
 (j29 undefA h25)) fun j34 =>
 GW true x21 (LDN (nat_lit 2) x18 h23 fun x35 =>
 j34 x35 h23)
 (j34 undefA h23)) fun j36 =>
 GW true x21 (LDN (nat_lit 2) x2 h20 fun x37 =>
 j36 x37 h20)
 (j36 undefA h20)) kp
noncomputable def F20 (fu : Nat) (oR : FuncId → List AV → Option AV) (cl : CL) (args : List AV) (h1 : Heap) (kr : KR) (kp : KP) : Ans := AR1 args fun x0 =>
 BOX 37 x0 h1 fun x2 h3 =>
 LDN (nat_lit 2) x2 h3 fun x4 =>
 cl (nat_lit 29) [x4] h3 (fun x5 h6 =>
 EX (nat_lit 0) x5 fun x9 =>
 EX (nat_lit 1) x5 fun x10 =>
 OV (unOpA .not x10) fun x11 =>
 IFB x11 (kr (.bool false) h6)
 (B20x38 cl x9 h6 kr kp x2)) kp

theorem eqF20 : F20 = fun fu oR => compF Pr fu oR 20 1 := by kernel_rfl

noncomputable def F21 (fu : Nat) (oR : FuncId → List AV → Option AV) (cl : CL) (args : List AV) (h2 : Heap) (kr : KR) (kp : KP) : Ans := AR2 args fun x0 x1 =>
 cl (nat_lit 32) [x0, x1] h2 (fun x3 h4 =>
 GEQ Pr 3 true x3 (.int .i64 (nat_lit 0)) fun x7 =>
 kr x7 h4) kp

theorem eqF21 : F21 = fun fu oR => compF Pr fu oR 21 2 := by kernel_rfl

noncomputable def F22 (fu : Nat) (oR : FuncId → List AV → Option AV) (cl : CL) (args : List AV) (h1 : Heap) (kr : KR) (kp : KP) : Ans := AR1 args fun x0 =>
 LENT x0 fun x2 =>
 GTR Pr 3 true x2 (.int .i64 (nat_lit 500)) fun x3 =>
 kr x3 h1

theorem eqF22 : F22 = fun fu oR => compF Pr fu oR 22 1 := by kernel_rfl

noncomputable def F23 (fu : Nat) (oR : FuncId → List AV → Option AV) (cl : CL) (args : List AV) (h3 : Heap) (kr : KR) (kp : KP) : Ans := AR3 args fun x0 x1 x2 =>
 GEQ Pr 3 false x0 x1 fun x4 =>
 JO (fun x5 h6 =>
 JO (fun x7 h8 =>
 JO (fun x9 h10 =>
 SEL x4 x9 (.bool false) fun x11 =>
 kr x11 h10) fun j12 =>
 GW true x4 (LEQ Pr 3 false x5 x7 fun x13 =>
 j12 x13 h8)
 (j12 undefA h8)) fun j14 =>
 GW true x4 (j14 x2 h6)
 (j14 undefA h6)) fun j15 =>
 GW true x4 (j15 x0 h3)
 (j15 undefA h3)

theorem eqF23 : F23 = fun fu oR => compF Pr fu oR 23 3 := by kernel_rfl

noncomputable def F24 (fu : Nat) (oR : FuncId → List AV → Option AV) (cl : CL) (args : List AV) (h2 : Heap) (kr : KR) (kp : KP) : Ans := AR2 args fun x0 x1 =>
 BOX 3 x1 h2 fun x3 h4 =>
 NEWC (.n (some (.int .i64 (nat_lit 0))) (.n (some (.str (nat_lit 0) (nat_lit 0))) (.n (some (.int .i64 (nat_lit 0))) .e .e) .e) (.n (some (.nilslice)) (.n (some (.int .i64 (nat_lit 0))) .e .e) .e)) (nat_lit 5) 58 h4 fun x5 h6 =>
 NC x0 fun x7 =>
 FA (nat_lit 1) x7 fun x8 =>
 LD x8 h6 fun x9 =>
 NC x0 fun x10 =>
 FA (nat_lit 1) x10 fun x11 =>
 LD x11 h6 fun x12 =>
 cl (nat_lit 33) [x12, (.func (.func 34) [] [x3])] h6 (fun x13 h14 =>
 LD x8 h14 fun x17 =>
 EQV x9 x17 <|
 SA (nat_lit 5) x9 x13 fun x18 =>
 LDN (nat_lit 5) x18 h14 fun x19 =>
 ST (nat_lit 5) x5 x19 h14 fun h20 =>
 LDN (nat_lit 5) x5 h20 fun x21 =>
 kr x21 h20) kp

theorem eqF24 : F24 = fun fu oR => compF Pr fu oR 24 2 := by kernel_rfl

noncomputable def B25x54 (x1 : AV) (x16 : AV) (h17 : Heap) (x3 : AV) (cl : CL) (d18 : Dfr) (kr : KR) (oR : FuncId → List AV → Option AV) (kp : KP) (j19 : AV → Heap → Dfr → Ans) : Ans := SA (nat_lit 1) x1 x16 fun x21 =>
 LD x21 h17 fun x22 =>
 LD x3 h17 fun x23 =>
 NC x23 fun x24 =>
 FA (nat_lit 8) x24 fun x25 =>
 LD x25 h17 fun x26 =>
 ADD Pr 3 true x26 (.int .i64 (nat_lit 1)) fun x27 =>
 NC x23 fun x28 =>
 FA (nat_lit 8) x28 fun x29 =>
 ST (nat_lit 1) x29 x27 h17 fun h30 =>
 LD x3 h30 fun x31 =>
 LD x3 h30 fun x32 =>
 cl (nat_lit 37) [x22] h30 (fun x33 h34 =>
 LD x3 h34 fun x37 =>
 EQV x32 x37 <|
 LD x3 h34 fun x38 =>
 EQV x31 x38 <|
 NC x31 fun x39 =>
 FA (nat_lit 6) x39 fun x40 =>
 ST (nat_lit 1) x40 x22 h34 fun h41 =>
 LD x3 h41 fun x42 =>
 EQV x32 x42 <|
 NC x32 fun x43 =>
 FA (nat_lit 7) x43 fun x44 =>
 ST (nat_lit 1) x44 x33 h41 fun h45 =>
 LD x3 h45 fun x46 =>
 BSL (nat_lit 3) (nat_lit 1) [(.int .i64 (nat_lit 0)), (.int .i64 (nat_lit 0))] (nat_lit 2) [((nat_lit 0), (.int .i64 (nat_lit 2))), ((nat_lit 1), (.int .i64 (nat_lit 3)))] h45 fun x47 h48 =>
 cl (nat_lit 36) [x46, x47] h48 (fun x49 h50 =>
 IFB x49 (ENDD d18 (kr (.tuple []) h50)
 (SLOW Pr oR 25 [] d18 .returning h50 kr kp))
 (ADD Pr 3 true x16 (.int .i64 (nat_lit 1)) fun x53 =>
 j19 x53 h50 d18)) (fun c51 h52 => ENDD d18 (kp c51 h52)
 (SLOW Pr oR 25 [] d18 (.panicking c51) h52 kr kp))) (fun c35 h36 => ENDD d18 (kp c35 h36)
 (Ans.no))
noncomputable def B25x62 (x3 : AV) (h17 : Heap) (cl : CL) (d18 : Dfr) (kr : KR) (oR : FuncId → List AV → Option AV) (kp : KP) : Ans := LD x3 h17 fun x55 =>
 BSL (nat_lit 3) (nat_lit 1) [(.int .i64 (nat_lit 0))] (nat_lit 1) [((nat_lit 0), (.int .i64 (nat_lit 1)))] h17 fun x56 h57 =>
 cl (nat_lit 36) [x55, x56] h57 (fun x58 h59 =>
 ENDD d18 (kr (.tuple []) h59)
 (SLOW Pr oR 25 [] d18 .returning h59 kr kp)) (fun c60 h61 => ENDD d18 (kp c60 h61)
 (SLOW Pr oR 25 [] d18 (.panicking c60) h61 kr kp))
noncomputable def F25 (fu : Nat) (oR : FuncId → List AV → Option AV) (cl : CL) (args : List AV) (h2 : Heap) (kr : KR) (kp : KP) : Ans := AR2 args fun x0 x1 =>
 BOX 49 x0 h2 fun x3 h4 =>
 GDF (dfrV (some (.func (.func 35) [] [x3])) [] h4) fun i5 a6 h7 =>
 LD x3 h7 fun x8 =>
 BSL (nat_lit 3) (nat_lit 1) [(.int .i64 (nat_lit 0))] (nat_lit 1) [((nat_lit 0), (.int .i64 (nat_lit 0)))] h7 fun x9 h10 =>
 cl (nat_lit 36) [x8, x9] h10 (fun x11 h12 =>
 IFB x11 (ENDD ((i5, a6) :: []) (kr (.tuple []) h12)
 (SLOW Pr oR 25 [] ((i5, a6) :: []) .returning h12 kr kp))
 (LENS x1 fun x15 =>
 LP fu (fun _ _ _ => Ans.no) (fun j19 x16 h17 d18 =>
 LSS Pr 3 false x16 x15 fun x20 =>
 IFB x20 (B25x54 x1 x16 h17 x3 cl d18 kr oR kp j19)
 (B25x62 x3 h17 cl d18 kr oR kp)) (.int .i64 (nat_lit 0)) h12 ((i5, a6) :: []))) (fun c13 h14 => ENDD ((i5, a6) :: []) (kp c13 h14)
 (SLOW Pr oR 25 [] ((i5, a6) :: []) (.panicking c13) h14 kr kp))

theorem eqF25 : F25 = fun fu oR => compF Pr fu oR 25 2 := by kernel_rfl

noncomputable def F26 (fu : Nat) (oR : FuncId → List AV → Option AV) (cl : CL) (args : List AV) (h1 : Heap) (kr : KR) (kp : KP) : Ans := AR1 args fun x0 =>
 cl (nat_lit 38) [x0, (.func (.func 39) [] [])] h1 (fun x2 h3 =>
 kr (.tuple []) h3) kp

theorem eqF26 : F26 = fun fu oR => compF Pr fu oR 26 1 := by kernel_rfl

noncomputable def B27x53 (cl : CL) (x26 : AV) (h27 : Heap) (x0 : AV) (x2 : AV) (kr : KR) (x10 : AV) (kp : KP) : Ans := cl (nat_lit 43) [x26] h27 (fun x36 h37 =>
 EX (nat_lit 0) x36 fun x40 =>
 EX (nat_lit 1) x36 fun x41 =>
 NEWC (.n (some (.nilslice)) (.n (some (.nilslice)) .e .e) .e) (nat_lit 2) 37 h37 fun x42 h43 =>
 ST (nat_lit 2) x42 x40 h43 fun h44 =>
 GEQ Pr 3 true x41 (.int .i64 (nat_lit 0)) fun x45 =>
 IFB x45 (OV (buildA Pr 37 []) fun x46 =>
 LENT x0 fun x47 =>
 ST (nat_lit 2) x2 x46 h44 fun h48 =>
 LDN (nat_lit 2) x2 h48 fun x49 =>
 kr (.tuple [x49, x47]) h48)
 (LDN (nat_lit 2) x10 h44 fun x50 =>
 ST (nat_lit 2) x2 x50 h44 fun h51 =>
 LDN (nat_lit 2) x2 h51 fun x52 =>
 kr (.tuple [x52, (.int .i64 (nat_lit 18446744073709551615))]) h51)) kp
noncomputable def B27x54 (x10 : AV) (h12 : Heap) (cl : CL) (x0 : AV) (x2 : AV) (kr : KR) (kp : KP) : Ans := LDN (nat_lit 2) x10 h12 fun x25 =>
 cl (nat_lit 44) [x25] h12 (fun x26 h27 =>
 LENT x26 fun x30 =>
 GTR Pr 3 true x30 (.int .i64 (nat_lit 4000)) fun x31 =>
 IFB x31 (OV (buildA Pr 37 []) fun x32 =>
 LENT x0 fun x33 =>
 ST (nat_lit 2) x2 x32 h27 fun h34 =>
 LDN (nat_lit 2) x2 h34 fun x35 =>
 kr (.tuple [x35, x33]) h34)
 (B27x53 cl x26 h27 x0 x2 kr x10 kp)) kp
noncomputable def B27x55 (x10 : AV) (h12 : Heap) (x0 : AV) (x2 : AV) (kr : KR) (cl : CL) (kp : KP) : Ans := FA (nat_lit 0) x10 fun x17 =>
 LD x17 h12 fun x18 =>
 LENS x18 fun x19 =>
 GTR Pr 3 true x19 (.int .i64 (nat_lit 800)) fun x20 =>
 IFB x20 (OV (buildA Pr 37 []) fun x21 =>
 LENT x0 fun x22 =>
 ST (nat_lit 2) x2 x21 h12 fun h23 =>
 LDN (nat_lit 2) x2 h23 fun x24 =>
 kr (.tuple [x24, x22]) h23)
 (B27x54 x10 h12 cl x0 x2 kr kp)
noncomputable def F27 (fu : Nat) (oR : FuncId → List AV → Option AV) (cl : CL) (args : List AV) (h1 : Heap) (kr : KR) (kp : KP) : Ans := AR1 args fun x0 =>
 NEWC (.n (some (.nilslice)) (.n (some (.nilslice)) .e .e) .e) (nat_lit 2) 37 h1 fun x2 h3 =>
 cl (nat_lit 43) [x0] h3 (fun x4 h5 =>
 EX (nat_lit 0) x4 fun x8 =>
 EX (nat_lit 1) x4 fun x9 =>
 NEWC (.n (some (.nilslice)) (.n (some (.nilslice)) .e .e) .e) (nat_lit 2) 37 h5 fun x10 h11 =>
 ST (nat_lit 2) x10 x8 h11 fun h12 =>
 GEQ Pr 3 true x9 (.int .i64 (nat_lit 0)) fun x13 =>
 IFB x13 (OV (buildA Pr 37 []) fun x14 =>
 ST (nat_lit 2) x2 x14 h12 fun h15 =>
 LDN (nat_lit 2) x2 h15 fun x16 =>
 kr (.tuple [x16, x9]) h15)
 (B27x55 x10 h12 x0 x2 kr cl kp)) kp

theorem eqF27 : F27 = fun fu oR => compF Pr fu oR 27 1 := by kernel_rfl

noncomputable def F28 (fu : Nat) (oR : FuncId → List AV → Option AV) (cl : CL) (args : List AV) (h1 : Heap) (kr : KR) (kp : KP) : Ans := AR1 args fun x0 =>
 cl (nat_lit 45) [x0, (.str (nat_lit 1) (nat_lit 10))] h1 (fun x2 h3 =>
 JO (fun x6 h7 =>
 kr x6 h7) fun j8 =>
 LENS x2 fun x9 =>
 SUB Pr 3 true x9 (.int .i64 (nat_lit 1)) fun x10 =>
 SA (nat_lit 1) x2 x10 fun x11 =>
 LD x11 h3 fun x12 =>
 EQL Pr 9 true x12 (.str (nat_lit 0) (nat_lit 0)) fun x13 =>
 IFB x13 (OV (sliceA Pr 43 x2 none (some x10) none) fun x14 =>
 j8 x14 h3)
 (j8 x2 h3)) kp

theorem eqF28 : F28 = fun fu oR => compF Pr fu oR 28 1 := by kernel_rfl

noncomputable def B29x29 (x9 : AV) (x11 : AV) (h12 : Heap) (cl : CL) (x6 : AV) (kr : KR) (j13 : AV → Heap → Ans) (kp : KP) : Ans := SA (nat_lit 5) x9 x11 fun x15 =>
 LDN (nat_lit 5) x15 h12 fun x16 =>
 NEWC (.n (some (.int .i64 (nat_lit 0))) (.n (some (.str (nat_lit 0) (nat_lit 0))) (.n (some (.int .i64 (nat_lit 0))) .e .e) .e) (.n (some (.nilslice)) (.n (some (.int .i64 (nat_lit 0))) .e .e) .e)) (nat_lit 5) 58 h12 fun x17 h18 =>
 ST (nat_lit 5) x17 x16 h18 fun h19 =>
 LDN (nat_lit 5) x17 h19 fun x20 =>
 cl (nat_lit 46) [x6, x20] h19 (fun x21 h22 =>
 NC x6 fun x25 =>
 FA (nat_lit 4) x25 fun x26 =>
 LD x26 h22 fun x27 =>
 IFB x27 (kr (.tuple [(.str (nat_lit 0) (nat_lit 0)), (.bool false)]) h22)
 (ADD Pr 3 true x11 (.int .i64 (nat_lit 1)) fun x28 =>
 j13 x28 h22)) kp
noncomputable def F29 (fu : Nat) (oR : FuncId → List AV → Option AV) (cl : CL) (args : List AV) (h1 : Heap) (kr : KR) (kp : KP) : Ans := AR1 args fun x0 =>
 BOX 37 x0 h1 fun x2 h3 =>
 LDN (nat_lit 2) x2 h3 fun x4 =>
 OV (buildA Pr 86 [((nat_lit 0), x4)]) fun x5 =>
 BOX 86 x5 h3 fun x6 h7 =>
 FA (nat_lit 1) x2 fun x8 =>
 LD x8 h7 fun x9 =>
 LENS x9 fun x10 =>
 LP fu (fun _ _ => Ans.no) (fun j13 x11 h12 =>
 LSS Pr 3 false x11 x10 fun x14 =>
 IFB x14 (B29x29 x9 x11 h12 cl x6 kr j13 kp)
 (NC x6 fun x30 =>
 FA (nat_lit 2) x30 fun x31 =>
 cl (nat_lit 47) [x31] h12 (fun x32 h33 =>
 kr (.tuple [x32, (.bool true)]) h33) kp)) (.int .i64 (nat_lit 0)) h7

theorem eqF29 : F29 = fun fu oR => compF Pr fu oR 29 1 := by kernel_rfl

noncomputable def B30x46 (cl : CL) (x22 : AV) (h19 : Heap) (x0 : AV) (x2 : AV) (kr : KR) (x10 : AV) (kp : KP) : Ans := cl (nat_lit 48) [x22] h19 (fun x29 h30 =>
 EX (nat_lit 0) x29 fun x33 =>
 EX (nat_lit 1) x29 fun x34 =>
 NEWC (.n (some (.nilslice)) (.n (some (.nilslice)) .e .e) .e) (nat_lit 2) 37 h30 fun x35 h36 =>
 ST (nat_lit 2) x35 x33 h36 fun h37 =>
 GEQ Pr 3 true x34 (.int .i64 (nat_lit 0)) fun x38 =>
 IFB x38 (OV (buildA Pr 37 []) fun x39 =>
 LENT x0 fun x40 =>
 ST (nat_lit 2) x2 x39 h37 fun h41 =>
 LDN (nat_lit 2) x2 h41 fun x42 =>
 kr (.tuple [x42, x40]) h41)
 (LDN (nat_lit 2) x10 h37 fun x43 =>
 ST (nat_lit 2) x2 x43 h37 fun h44 =>
 LDN (nat_lit 2) x2 h44 fun x45 =>
 kr (.tuple [x45, (.int .i64 (nat_lit 18446744073709551615))]) h44)) kp
noncomputable def B30x47 (x10 : AV) (h12 : Heap) (cl : CL) (x0 : AV) (x2 : AV) (kr : KR) (kp : KP) : Ans := LDN (nat_lit 2) x10 h12 fun x17 =>
 cl (nat_lit 29) [x17] h12 (fun x18 h19 =>
 EX (nat_lit 0) x18 fun x22 =>
 EX (nat_lit 1) x18 fun x23 =>
 OV (unOpA .not x23) fun x24 =>
 IFB x24 (OV (buildA Pr 37 []) fun x25 =>
 LENT x0 fun x26 =>
 ST (nat_lit 2) x2 x25 h19 fun h27 =>
 LDN (nat_lit 2) x2 h27 fun x28 =>
 kr (.tuple [x28, x26]) h27)
 (B30x46 cl x22 h19 x0 x2 kr x10 kp)) kp
noncomputable def F30 (fu : Nat) (oR : FuncId → List AV → Option AV) (cl : CL) (args : List AV) (h1 : Heap) (kr : KR) (kp : KP) : Ans := AR1 args fun x0 =>
 NEWC (.n (some (.nilslice)) (.n (some (.nilslice)) .e .e) .e) (nat_lit 2) 37 h1 fun x2 h3 =>
 cl (nat_lit 48) [x0] h3 (fun x4 h5 =>
 EX (nat_lit 0) x4 fun x8 =>
 EX (nat_lit 1) x4 fun x9 =>
 NEWC (.n (some (.nilslice)) (.n (some (.nilslice)) .e .e) .e) (nat_lit 2) 37 h5 fun x10 h11 =>
 ST (nat_lit 2) x10 x8 h11 fun h12 =>
 GEQ Pr 3 true x9 (.int .i64 (nat_lit 0)) fun x13 =>
 IFB x13 (OV (buildA Pr 37 []) fun x14 =>
 ST (nat_lit 2) x2 x14 h12 fun h15 =>
 LDN (nat_lit 2) x2 h15 fun x16 =>
 kr (.tuple [x16, x9]) h15)
 (B30x47 x10 h12 cl x0 x2 kr kp)) kp

theorem eqF30 : F30 = fun fu oR => compF Pr fu oR 30 1 := by kernel_rfl

noncomputable def B31x35 (x11 : AV) (kr : KR) (cl : CL) (x17 : AV) (kp : KP) (x5 : AV) (h18 : Heap) : Ans := JO (fun x19 h20 =>
 JO (fun x21 h22 =>
 JO (fun x23 h24 =>
 SEL x11 x23 (.bool false) fun x25 =>
 kr x25 h24) fun j26 =>
 GW true x11 (cl (nat_lit 52) [x17, x21, (.func (.func 53) [] [])] h22 (fun x27 h28 =>
 j26 x27 h28) kp)
 (j26 undefA h22)) fun j31 =>
 GW true x11 (LD x19 h20 fun x32 =>
 j31 x32 h20)
 (j31 undefA h20)) fun j33 =>
 GW true x11 (FA (nat_lit 1) x5 fun x34 =>
 j33 x34 h18)
 (j33 undefA h18)
noncomputable def F31 (fu : Nat) (oR : FuncId → List AV → Option AV) (cl : CL) (args : List AV) (h2 : Heap) (kr : KR) (kp : KP) : Ans := AR2 args fun x0 x1 =>
 BOX 37 x0 h2 fun x3 h4 =>
 BOX 37 x1 h4 fun x5 h6 =>
 FA (nat_lit 0) x3 fun x7 =>
 LD x7 h6 fun x8 =>
 FA (nat_lit 0) x5 fun x9 =>
 LD x9 h6 fun x10 =>
 cl (nat_lit 49) [x8, x10, (.func (.func 50) [] [])] h6 (fun x11 h12 =>
 JO (fun x15 h16 =>
 JO (fun x17 h18 =>
 B31x35 x11 kr cl x17 kp x5 h18) fun j36 =>
 GW true x11 (LD x15 h16 fun x37 =>
 j36 x37 h16)
 (j36 undefA h16)) fun j38 =>
 GW true x11 (FA (nat_lit 1) x3 fun x39 =>
 j38 x39 h12)
 (j38 undefA h12)) kp

theorem eqF31 : F31 = fun fu oR => compF Pr fu oR 31 2 := by kernel_rfl

noncomputable def F32 (fu : Nat) (oR : FuncId → List AV → Option AV) (cl : CL) (args : List AV) (h2 : Heap) (kr : KR) (kp : KP) : Ans := AR2 args fun x0 x1 =>
 LENS x0 fun x3 =>
 LP fu (fun _ _ => Ans.no) (fun j6 x4 h5 =>
 LSS Pr 3 false x4 x3 fun x7 =>
 IFB x7 (SA (nat_lit 1) x0 x4 fun x8 =>
 LD x8 h5 fun x9 =>
 GEN (callV Pr (some x1) [x9] h5) cl (fun x10 h11 =>
 IFB x10 (kr x4 h11)
 (ADD Pr 3 true x4 (.int .i64 (nat_lit 1)) fun x14 =>
 j6 x14 h11)) kp)
 (kr (.int .i64 (nat_lit 18446744073709551615)) h5)) (.int .i64 (nat_lit 0)) h2

theorem eqF32 : F32 = fun fu oR => compF Pr fu oR 32 2 := by kernel_rfl

noncomputable def F33 (fu : Nat) (oR : FuncId → List AV → Option AV) (cl : CL) (args : List AV) (h2 : Heap) (kr : KR) (kp : KP) : Ans := AR2 args fun x0 x1 =>
 LENS x0 fun x3 =>
 LP fu (fun _ _ => Ans.no) (fun j6 x4 h5 =>
 LSS Pr 3 false x4 x3 fun x7 =>
 IFB x7 (SA (nat_lit 5) x0 x4 fun x8 =>
 LDN (nat_lit 5) x8 h5 fun x9 =>
 GEN (callV Pr (some x1) [x9] h5) cl (fun x10 h11 =>
 IFB x10 (kr x4 h11)
 (ADD Pr 3 true x4 (.int .i64 (nat_lit 1)) fun x14 =>
 j6 x14 h11)) kp)
 (kr (.int .i64 (nat_lit 18446744073709551615)) h5)) (.int .i64 (nat_lit 0)) h2

theorem eqF33 : F33 = fun fu oR => compF Pr fu oR 33 2 := by kernel_rfl

noncomputable def F34 (fu : Nat) (oR : FuncId → List AV → Option AV) (cl : CL) (args : List AV) (h2 : Heap) (kr : KR) (kp : KP) : Ans := AR2 args fun x0 x1 =>
 BOX 58 x0 h2 fun x3 h4 =>
 FA (nat_lit 4) x3 fun x5 =>
 LD x5 h4 fun x6 =>
 LD x1 h4 fun x7 =>
 GEQ Pr 3 false x6 x7 fun x8 =>
 kr x8 h4

theorem eqF34 : F34 = fun fu oR => compF Pr fu oR 34 2 := by kernel_rfl

noncomputable def B36x44 (x29 : AV) (kr : KR) (j14 : Heap → Ans) (cl : CL) (kp : KP) (x1 : AV) (h30 : Heap) : Ans := EQL Pr 3 true x29 (.int .i64 (nat_lit 4)) fun x32 =>
 JO (fun x33 h34 =>
 JO (fun x35 h36 =>
 SEL x32 x35 (.bool false) fun x37 =>
 IFB x37 (kr (.bool false) h36)
 (j14  h36)) fun j38 =>
 GW true x32 (cl (nat_lit 55) [x33, (.int .i64 (nat_lit 2))] h34 (fun x39 h40 =>
 j38 x39 h40) kp)
 (j38 undefA h34)) fun j43 =>
 GW true x32 (j43 x1 h30)
 (j43 undefA h30)
noncomputable def B36x53 (kr : KR) (j14 : Heap → Ans) (cl : CL) (kp : KP) (x1 : AV) (x27 : AV) (x17 : AV) (h28 : Heap) (x0 : AV) : Ans := JO (fun x29 h30 =>
 EQL Pr 3 true x29 (.int .i64 (nat_lit 5)) fun x31 =>
 IFB x31 (kr (.bool true) h30)
 (B36x44 x29 kr j14 cl kp x1 h30)) fun j45 =>
 EQL Pr 3 true x27 (.int .i64 (nat_lit 0)) fun x46 =>
 IFB x46 (FA (nat_lit 4) x17 fun x47 =>
 LD x47 h28 fun x48 =>
 cl (nat_lit 57) [x0, x48] h28 (fun x49 h50 =>
 j45 x49 h50) kp)
 (j45 x27 h28)
noncomputable def B36x75 (x17 : AV) (h23 : Heap) (cl : CL) (x0 : AV) (j14 : Heap → Ans) (j54 : AV → Heap → Ans) (kp : KP) : Ans := FA (nat_lit 3) x17 fun x58 =>
 LD x58 h23 fun x59 =>
 cl (nat_lit 56) [x0, x59] h23 (fun x60 h61 =>
 EX (nat_lit 0) x60 fun x64 =>
 EX (nat_lit 1) x60 fun x65 =>
 EQL Pr 3 true x65 (.int .i64 (nat_lit 0)) fun x66 =>
 JO (fun x67 h68 =>
 JO (fun x69 h70 =>
 SEL x66 x69 (.bool false) fun x71 =>
 IFB x71 (j14  h70)
 (j54 x65 h70)) fun j72 =>
 GW true x66 (OV (unOpA .not x67) fun x73 =>
 j72 x73 h68)
 (j72 undefA h68)) fun j74 =>
 GW true x66 (j74 x64 h61)
 (j74 undefA h61)) kp
noncomputable def B36x76 (x8 : AV) (j10 : AV → Heap → Ans) (x6 : AV) (h9 : Heap) (cl : CL) (x1 : AV) (kr : KR) (kp : KP) (x0 : AV) : Ans := JO (fun h12 =>
 ADD Pr 3 true x8 (.int .i64 (nat_lit 1)) fun x13 =>
 j10 x13 h12) fun j14 =>
 SA (nat_lit 5) x6 x8 fun x15 =>
 LDN (nat_lit 5) x15 h9 fun x16 =>
 NEWC (.n (some (.int .i64 (nat_lit 0))) (.n (some (.str (nat_lit 0) (nat_lit 0))) (.n (some (.int .i64 (nat_lit 0))) .e .e) .e) (.n (some (.nilslice)) (.n (some (.int .i64 (nat_lit 0))) .e .e) .e)) (nat_lit 5) 58 h9 fun x17 h18 =>
 ST (nat_lit 5) x17 x16 h18 fun h19 =>
 FA (nat_lit 0) x17 fun x20 =>
 LD x20 h19 fun x21 =>
 cl (nat_lit 55) [x1, x21] h19 (fun x22 h23 =>
 OV (unOpA .not x22) fun x26 =>
 IFB x26 (j14  h23)
 (JO (fun x27 h28 =>
 B36x53 kr j14 cl kp x1 x27 x17 h28 x0) fun j54 =>
 FA (nat_lit 0) x17 fun x55 =>
 LD x55 h23 fun x56 =>
 EQL Pr 3 true x56 (.int .i64 (nat_lit 3)) fun x57 =>
 IFB x57 (B36x75 x17 h23 cl x0 j14 j54 kp)
 (j54 (.int .i64 (nat_lit 0)) h23))) kp
noncomputable def F36 (fu : Nat) (oR : FuncId → List AV → Option AV) (cl : CL) (args : List AV) (h2 : Heap) (kr : KR) (kp : KP) : Ans := AR2 args fun x0 x1 =>
 NC x0 fun x3 =>
 FA (nat_lit 0) x3 fun x4 =>
 FA (nat_lit 1) x4 fun x5 =>
 LD x5 h2 fun x6 =>
 LENS x6 fun x7 =>
 LP fu (fun _ _ => Ans.no) (fun j10 x8 h9 =>
 LSS Pr 3 false x8 x7 fun x11 =>
 IFB x11 (B36x76 x8 j10 x6 h9 cl x1 kr kp x0)
 (kr (.bool false) h9)) (.int .i64 (nat_lit 0)) h2

theorem eqF36 : F36 = fun fu oR => compF Pr fu oR 36 2 := by kernel_rfl

noncomputable def F37 (fu : Nat) (oR : FuncId → List AV → Option AV) (cl : CL) (args : List AV) (h1 : Heap) (kr : KR) (kp : KP) : Ans := AR1 args fun x0 =>
 LENT x0 fun x2 =>
 GTR Pr 3 true x2 (.int .i64 (nat_lit 500)) fun x3 =>
 IFB x3 (kr (.nilslice) h1)
 (cl (nat_lit 58) [x0, (.func (.func 59) [] [])] h1 (fun x4 h5 =>
 LENS x4 fun x8 =>
 OPV (builtinF .min Pr [3, 3] [x8, (.int .i64 (nat_lit 50))] h5) fun x9 =>
 OV (sliceA Pr 43 x4 none (some x9) none) fun x10 =>
 kr x10 h5) kp)

theorem eqF37 : F37 = fun fu oR => compF Pr fu oR 37 1 := by kernel_rfl

noncomputable def F38 (fu : Nat) (oR : FuncId → List AV → Option AV) (cl : CL) (args : List AV) (h2 : Heap) (kr : KR) (kp : KP) : Ans := AR2 args fun x0 x1 =>
 LENS x0 fun x3 =>
 OV (convV Pr h2 3 105 x3) fun x4 =>
 cl (nat_lit 61) [x4] h2 (fun x5 h6 =>
 cl (nat_lit 60) [x0, (.int .i64 (nat_lit 0)), x3, x5, x1] h6 (fun x9 h10 =>
 kr (.tuple []) h10) kp) kp

theorem eqF38 : F38 = fun fu oR => compF Pr fu oR 38 2 := by kernel_rfl

noncomputable def F41 (fu : Nat) (oR : FuncId → List AV → Option AV) (cl : CL) (args : List AV) (h2 : Heap) (kr : KR) (kp : KP) : Ans := AR2 args fun x0 x1 =>
 cl (nat_lit 62) [x0] h2 (fun x3 h4 =>
 cl (nat_lit 62) [x1] h4 (fun x7 h8 =>
 IFB x3 (IFB x7 (kr (.int .i64 (nat_lit 0)) h8)
 (kr (.int .i64 (nat_lit 18446744073709551615)) h8))
 (IFB x7 (kr (.int .i64 (nat_lit 1)) h8)
 (LSS Pr 9 false x0 x1 fun x11 =>
 IFB x11 (kr (.int .i64 (nat_lit 18446744073709551615)) h8)
 (GTR Pr 9 false x0 x1 fun x12 =>
 IFB x12 (kr (.int .i64 (nat_lit 1)) h8)
 (kr (.int .i64 (nat_lit 0)) h8))))) kp) kp

theorem eqF41 : F41 = fun fu oR => compF Pr fu oR 41 2 := by kernel_rfl

noncomputable def F42 (fu : Nat) (oR : FuncId → List AV → Option AV) (cl : CL) (args : List AV) (h2 : Heap) (kr : KR) (kp : KP) : Ans := AR2 args fun x0 x1 =>
 cl (nat_lit 63) [x0] h2 (fun x3 h4 =>
 cl (nat_lit 63) [x1] h4 (fun x7 h8 =>
 IFB x3 (IFB x7 (kr (.int .i64 (nat_lit 0)) h8)
 (kr (.int .i64 (nat_lit 18446744073709551615)) h8))
 (IFB x7 (kr (.int .i64 (nat_lit 1)) h8)
 (LSS Pr 3 false x0 x1 fun x11 =>
 IFB x11 (kr (.int .i64 (nat_lit 18446744073709551615)) h8)
 (GTR Pr 3 false x0 x1 fun x12 =>
 IFB x12 (kr (.int .i64 (nat_lit 1)) h8)
 (kr (.int .i64 (nat_lit 0)) h8))))) kp) kp

theorem eqF42 : F42 = fun fu oR => compF Pr fu oR 42 2 := by kernel_rfl

noncomputable def B43x51 (cl : CL) (x15 : AV) (h29 : Heap) (j19 : Heap → Ans) (kp : KP) : Ans := cl (nat_lit 65) [x15] h29 (fun x31 h32 =>
 NEWC (.n (some (.int .i64 (nat_lit 0))) (.n (some (.str (nat_lit 0) (nat_lit 0))) (.n (some (.int .i64 (nat_lit 0))) .e .e) .e) (.n (some (.nilslice)) (.n (some (.int .i64 (nat_lit 0))) .e .e) .e)) (nat_lit 5) 58 h32 fun x35 h36 =>
 ST (nat_lit 5) x35 x31 h36 fun h37 =>
 FA (nat_lit 3) x15 fun x38 =>
 FA (nat_lit 1) x38 fun x39 =>
 LD x39 h37 fun x40 =>
 LDN (nat_lit 5) x35 h37 fun x41 =>
 BSL (nat_lit 58) (nat_lit 5) [(.int .i64 (nat_lit 0)), (.str (nat_lit 0) (nat_lit 0)), (.nilslice), (.int .i64 (nat_lit 0)), (.int .i64 (nat_lit 0))] (nat_lit 1) [((nat_lit 0), x41)] h37 fun x42 h43 =>
 GEN (builtinF .append Pr [35, 35] [x40, x42] h43) cl (fun x44 h45 =>
 FA (nat_lit 3) x15 fun x48 =>
 FA (nat_lit 1) x48 fun x49 =>
 ST (nat_lit 1) x49 x44 h45 fun h50 =>
 j19  h50) kp) kp
noncomputable def B43x68 (x15 : AV) (h29 : Heap) (x8 : AV) (x2 : AV) (kr : KR) : Ans := OV (buildA Pr 37 []) fun x58 =>
 FA (nat_lit 1) x15 fun x59 =>
 LD x59 h29 fun x60 =>
 SA (nat_lit 4) x8 x60 fun x61 =>
 FA (nat_lit 3) x61 fun x62 =>
 LD x62 h29 fun x63 =>
 ST (nat_lit 2) x2 x58 h29 fun h64 =>
 LD x62 h64 fun x65 =>
 EQV x63 x65 <|
 LD x59 h64 fun x66 =>
 EQV x60 x66 <|
 LDN (nat_lit 2) x2 h64 fun x67 =>
 kr (.tuple [x67, x63]) h64
noncomputable def B43x77 (x15 : AV) (h29 : Heap) (x8 : AV) (x2 : AV) (kr : KR) (x0 : AV) : Ans := FA (nat_lit 5) x15 fun x52 =>
 LD x52 h29 fun x53 =>
 IFB x53 (FA (nat_lit 1) x15 fun x54 =>
 LD x54 h29 fun x55 =>
 LENS x8 fun x56 =>
 LSS Pr 3 false x55 x56 fun x57 =>
 IFB x57 (B43x68 x15 h29 x8 x2 kr)
 (OV (buildA Pr 37 []) fun x69 =>
 LENT x0 fun x70 =>
 ST (nat_lit 2) x2 x69 h29 fun h71 =>
 LDN (nat_lit 2) x2 h71 fun x72 =>
 kr (.tuple [x72, x70]) h71))
 (FA (nat_lit 3) x15 fun x73 =>
 LDN (nat_lit 2) x73 h29 fun x74 =>
 ST (nat_lit 2) x2 x74 h29 fun h75 =>
 LDN (nat_lit 2) x2 h75 fun x76 =>
 kr (.tuple [x76, (.int .i64 (nat_lit 18446744073709551615))]) h75)
noncomputable def B43x82 (x23 : AV) (cl : CL) (x15 : AV) (j19 : Heap → Ans) (kp : KP) (x8 : AV) (x2 : AV) (kr : KR) (x0 : AV) (x24 : AV) (h25 : Heap) : Ans := JO (fun x26 h27 =>
 JO (fun x28 h29 =>
 SEL x23 x28 (.bool false) fun x30 =>
 IFB x30 (B43x51 cl x15 h29 j19 kp)
 (B43x77 x15 h29 x8 x2 kr x0)) fun j78 =>
 GW true x23 (OV (unOpA .not x26) fun x79 =>
 j78 x79 h27)
 (j78 undefA h27)) fun j80 =>
 GW true x23 (LD x24 h25 fun x81 =>
 j80 x81 h25)
 (j80 undefA h25)
noncomputable def B43x85 (x8 : AV) (h5 : Heap) (fu : Nat) (cl : CL) (kp : KP) (x2 : AV) (kr : KR) (x0 : AV) : Ans := OV (buildA Pr 110 [((nat_lit 0), x8)]) fun x14 =>
 NEWC (.n (some (.nilslice)) (.n (some (.int .i64 (nat_lit 0))) (.n (some (.nilslice)) .e .e) (.n (some (.bool false)) .e .e)) (.n (some (.int .i64 (nat_lit 0))) (.n (some (.nilslice)) .e .e) .e)) (nat_lit 6) 110 h5 fun x15 h16 =>
 ST (nat_lit 6) x15 x14 h16 fun h17 =>
 LP fu (fun _ => Ans.no) (fun j19 h18 =>
 FA (nat_lit 1) x15 fun x20 =>
 LD x20 h18 fun x21 =>
 LENS x8 fun x22 =>
 LSS Pr 3 false x21 x22 fun x23 =>
 JO (fun x24 h25 =>
 B43x82 x23 cl x15 j19 kp x8 x2 kr x0 x24 h25) fun j83 =>
 GW true x23 (FA (nat_lit 5) x15 fun x84 =>
 j83 x84 h18)
 (j83 undefA h18))  h17
noncomputable def F43 (fu : Nat) (oR : FuncId → List AV → Option AV) (cl : CL) (args : List AV) (h1 : Heap) (kr : KR) (kp : KP) : Ans := AR1 args fun x0 =>
 NEWC (.n (some (.nilslice)) (.n (some (.nilslice)) .e .e) .e) (nat_lit 2) 37 h1 fun x2 h3 =>
 cl (nat_lit 64) [x0] h3 (fun x4 h5 =>
 EX (nat_lit 0) x4 fun x8 =>
 EX (nat_lit 1) x4 fun x9 =>
 GEQ Pr 3 true x9 (.int .i64 (nat_lit 0)) fun x10 =>
 IFB x10 (OV (buildA Pr 37 []) fun x11 =>
 ST (nat_lit 2) x2 x11 h5 fun h12 =>
 LDN (nat_lit 2) x2 h12 fun x13 =>
 kr (.tuple [x13, x9]) h12)
 (B43x85 x8 h5 fu cl kp x2 kr x0)) kp

theorem eqF43 : F43 = fun fu oR => compF Pr fu oR 43 1 := by kernel_rfl

noncomputable def B44x30 (x2 : AV) (h17 : Heap) (x4 : AV) (cl : CL) (x5 : AV) (j7 : AV → AV → Heap → Ans) (kp : KP) : Ans := LDN (nat_lit 2) x2 h17 fun x19 =>
 FA (nat_lit 1) x2 fun x20 =>
 LD x20 h17 fun x21 =>
 SA (nat_lit 5) x21 x4 fun x22 =>
 LDN (nat_lit 5) x22 h17 fun x23 =>
 cl (nat_lit 66) [x19, x23] h17 (fun x24 h25 =>
 ADD Pr 9 false x5 x24 fun x28 =>
 ADD Pr 3 true x4 (.int .i64 (nat_lit 1)) fun x29 =>
 j7 x29 x28 h25) kp
noncomputable def B44x35 (x11 : AV) (x2 : AV) (x4 : AV) (cl : CL) (x5 : AV) (j7 : AV → AV → Heap → Ans) (kp : KP) (kr : KR) (x12 : AV) (h13 : Heap) : Ans := JO (fun x14 h15 =>
 JO (fun x16 h17 =>
 SEL x11 x16 (.bool false) fun x18 =>
 IFB x18 (B44x30 x2 h17 x4 cl x5 j7 kp)
 (kr x5 h17)) fun j31 =>
 GW true x11 (LEQ Pr 3 true x14 (.int .i64 (nat_lit 4000)) fun x32 =>
 j31 x32 h15)
 (j31 undefA h15)) fun j33 =>
 GW true x11 (LENT x12 fun x34 =>
 j33 x34 h13)
 (j33 undefA h13)
noncomputable def F44 (fu : Nat) (oR : FuncId → List AV → Option AV) (cl : CL) (args : List AV) (h1 : Heap) (kr : KR) (kp : KP) : Ans := AR1 args fun x0 =>
 BOX 37 x0 h1 fun x2 h3 =>
 LP fu (fun _ _ _ => Ans.no) (fun j7 x4 x5 h6 =>
 FA (nat_lit 1) x2 fun x8 =>
 LD x8 h6 fun x9 =>
 LENS x9 fun x10 =>
 LSS Pr 3 false x4 x10 fun x11 =>
 JO (fun x12 h13 =>
 B44x35 x11 x2 x4 cl x5 j7 kp kr x12 h13) fun j36 =>
 GW true x11 (j36 x5 h6)
 (j36 undefA h6)) (.int .i64 (nat_lit 0)) (.str (nat_lit 0) (nat_lit 0)) h3

theorem eqF44 : F44 = fun fu oR => compF Pr fu oR 44 1 := by kernel_rfl

noncomputable def F45 (fu : Nat) (oR : FuncId → List AV → Option AV) (cl : CL) (args : List AV) (h2 : Heap) (kr : KR) (kp : KP) : Ans := AR2 args fun x0 x1 =>
 cl (nat_lit 67) [x0, x1, (.int .i64 (nat_lit 0)), (.int .i64 (nat_lit 18446744073709551615))] h2 (fun x3 h4 =>
 kr x3 h4) kp

theorem eqF45 : F45 = fun fu oR => compF Pr fu oR 45 2 := by kernel_rfl

noncomputable def B46x25 (x3 : AV) (h12 : Heap) (cl : CL) (x0 : AV) (kr : KR) (kp : KP) : Ans := FA (nat_lit 4) x3 fun x13 =>
 LD x13 h12 fun x14 =>
 cl (nat_lit 71) [x0, x14] h12 (fun x15 h16 =>
 BSL (nat_lit 9) (nat_lit 1) [(.str (nat_lit 0) (nat_lit 0))] (nat_lit 1) [((nat_lit 0), (.str (nat_lit 1) (nat_lit 10)))] h16 fun x19 h20 =>
 cl (nat_lit 68) [x0, x19] h20 (fun x21 h22 =>
 kr (.tuple []) h22) kp) kp
noncomputable def B46x71 (x3 : AV) (h6 : Heap) (cl : CL) (x0 : AV) (j26 : Heap → Ans) (kp : KP) : Ans := FA (nat_lit 1) x3 fun x56 =>
 LD x56 h6 fun x57 =>
 FA (nat_lit 2) x3 fun x58 =>
 LD x58 h6 fun x59 =>
 cl (nat_lit 70) [x59, (.str (nat_lit 2) (nat_lit 8236))] h6 (fun x60 h61 =>
 LD x56 h61 fun x64 =>
 EQV x57 x64 <|
 BSL (nat_lit 9) (nat_lit 1) [(.str (nat_lit 0) (nat_lit 0)), (.str (nat_lit 0) (nat_lit 0)), (.str (nat_lit 0) (nat_lit 0)), (.str (nat_lit 0) (nat_lit 0)), (.str (nat_lit 0) (nat_lit 0))] (nat_lit 5) [((nat_lit 0), (.str (nat_lit 9) (nat_lit 598253505373897913702))), ((nat_lit 1), x57), ((nat_lit 2), (.str (nat_lit 1) (nat_lit 40))), ((nat_lit 3), x60), ((nat_lit 4), (.str (nat_lit 2) (nat_lit 8233)))] h61 fun x65 h66 =>
 cl (nat_lit 68) [x0, x65] h66 (fun x67 h68 =>
 j26  h68) kp) kp
noncomputable def B46x75 (x11 : AV) (x3 : AV) (h6 : Heap) (cl : CL) (x0 : AV) (j26 : Heap → Ans) (kp : KP) : Ans := EQL Pr 3 true x11 (.int .i64 (nat_lit 3)) fun x42 =>
 IFB x42 (FA (nat_lit 3) x3 fun x43 =>
 LD x43 h6 fun x44 =>
 cl (nat_lit 69) [x0, x44] h6 (fun x45 h46 =>
 BSL (nat_lit 9) (nat_lit 1) [(.str (nat_lit 0) (nat_lit 0))] (nat_lit 1) [((nat_lit 0), (.str (nat_lit 1) (nat_lit 32)))] h46 fun x49 h50 =>
 cl (nat_lit 68) [x0, x49] h50 (fun x51 h52 =>
 j26  h52) kp) kp)
 (EQL Pr 3 true x11 (.int .i64 (nat_lit 4)) fun x55 =>
 IFB x55 (B46x71 x3 h6 cl x0 j26 kp)
 (NC x0 fun x72 =>
 FA (nat_lit 4) x72 fun x73 =>
 ST (nat_lit 1) x73 (.bool true) h6 fun h74 =>
 j26  h74))
noncomputable def B46x76 (x11 : AV) (h6 : Heap) (cl : CL) (x0 : AV) (j26 : Heap → Ans) (kp : KP) (x3 : AV) : Ans := EQL Pr 3 true x11 (.int .i64 (nat_lit 1)) fun x34 =>
 IFB x34 (BSL (nat_lit 9) (nat_lit 1) [(.str (nat_lit 0) (nat_lit 0))] (nat_lit 1) [((nat_lit 0), (.str (nat_lit 4) (nat_lit 541347397)))] h6 fun x35 h36 =>
 cl (nat_lit 68) [x0, x35] h36 (fun x37 h38 =>
 j26  h38) kp)
 (EQL Pr 3 true x11 (.int .i64 (nat_lit 2)) fun x41 =>
 IFB x41 (j26  h6)
 (B46x75 x11 x3 h6 cl x0 j26 kp))
noncomputable def B46x77 (x3 : AV) (h6 : Heap) (cl : CL) (x0 : AV) (kr : KR) (kp : KP) : Ans := FA (nat_lit 0) x3 fun x10 =>
 LD x10 h6 fun x11 =>
 JO (fun h12 =>
 B46x25 x3 h12 cl x0 kr kp) fun j26 =>
 EQL Pr 3 true x11 (.int .i64 (nat_lit 0)) fun x27 =>
 IFB x27 (BSL (nat_lit 9) (nat_lit 1) [(.str (nat_lit 0) (nat_lit 0))] (nat_lit 1) [((nat_lit 0), (.str (nat_lit 6) (nat_lit 35520608945474)))] h6 fun x28 h29 =>
 cl (nat_lit 68) [x0, x28] h29 (fun x30 h31 =>
 j26  h31) kp)
 (B46x76 x11 h6 cl x0 j26 kp x3)
noncomputable def B46x134 (x114 : AV) (j78 : AV → Heap → Ans) (x119 : AV) (x123 : AV) (h124 : Heap) : Ans := JO (fun x125 h126 =>
 JO (fun x127 h128 =>
 SEL x114 (.bool true) x127 fun x129 =>
 j78 x129 h128) fun j130 =>
 GW false x114 (NEQ Pr 4 false x119 x125 fun x131 =>
 j130 x131 h126)
 (j130 undefA h126)) fun j132 =>
 GW false x114 (EQL Pr 3 true x123 (.int .i64 (nat_lit 3)) fun x133 =>
 j132 x133 h124)
 (j132 undefA h124)
noncomputable def B46x141 (x114 : AV) (j78 : AV → Heap → Ans) (x3 : AV) (x117 : AV) (h118 : Heap) : Ans := JO (fun x119 h120 =>
 JO (fun x121 h122 =>
 JO (fun x123 h124 =>
 B46x134 x114 j78 x119 x123 h124) fun j135 =>
 GW false x114 (LD x121 h122 fun x136 =>
 j135 x136 h122)
 (j135 undefA h122)) fun j137 =>
 GW false x114 (FA (nat_lit 0) x3 fun x138 =>
 j137 x138 h120)
 (j137 undefA h120)) fun j139 =>
 GW false x114 (GEQ Pr 3 true x117 (.int .i64 (nat_lit 0)) fun x140 =>
 j139 x140 h118)
 (j139 undefA h118)
noncomputable def B46x148 (x91 : AV) (j78 : AV → Heap → Ans) (x3 : AV) (x110 : AV) (h111 : Heap) : Ans := JO (fun x112 h113 =>
 SEL x91 (.bool true) x112 fun x114 =>
 JO (fun x115 h116 =>
 JO (fun x117 h118 =>
 B46x141 x114 j78 x3 x117 h118) fun j142 =>
 GW false x114 (LD x115 h116 fun x143 =>
 j142 x143 h116)
 (j142 undefA h116)) fun j144 =>
 GW false x114 (FA (nat_lit 3) x3 fun x145 =>
 j144 x145 h113)
 (j144 undefA h113)) fun j146 =>
 GW false x91 (OV (unOpA .not x110) fun x147 =>
 j146 x147 h111)
 (j146 undefA h111)
noncomputable def B46x156 (x91 : AV) (j78 : AV → Heap → Ans) (x3 : AV) (cl : CL) (x94 : AV) (kp : KP) (x106 : AV) (h107 : Heap) : Ans := JO (fun x108 h109 =>
 JO (fun x110 h111 =>
 B46x148 x91 j78 x3 x110 h111) fun j149 =>
 GW false x91 (cl (nat_lit 23) [x94, (.int .i64 (nat_lit 18446744073709551615)), x108] h109 (fun x150 h151 =>
 j149 x150 h151) kp)
 (j149 undefA h109)) fun j154 =>
 GW false x91 (SUB Pr 3 true x106 (.int .i64 (nat_lit 1)) fun x155 =>
 j154 x155 h107)
 (j154 undefA h107)
noncomputable def B46x163 (x91 : AV) (j78 : AV → Heap → Ans) (x3 : AV) (cl : CL) (x94 : AV) (kp : KP) (x100 : AV) (h101 : Heap) : Ans := JO (fun x102 h103 =>
 JO (fun x104 h105 =>
 JO (fun x106 h107 =>
 B46x156 x91 j78 x3 cl x94 kp x106 h107) fun j157 =>
 GW false x91 (LENS x104 fun x158 =>
 j157 x158 h105)
 (j157 undefA h105)) fun j159 =>
 GW false x91 (LD x102 h103 fun x160 =>
 j159 x160 h103)
 (j159 undefA h103)) fun j161 =>
 GW false x91 (FA (nat_lit 0) x100 fun x162 =>
 j161 x162 h101)
 (j161 undefA h101)
noncomputable def B46x169 (x91 : AV) (j78 : AV → Heap → Ans) (x3 : AV) (cl : CL) (x94 : AV) (kp : KP) (x0 : AV) (h95 : Heap) : Ans := JO (fun x96 h97 =>
 JO (fun x98 h99 =>
 JO (fun x100 h101 =>
 B46x163 x91 j78 x3 cl x94 kp x100 h101) fun j164 =>
 GW false x91 (FA (nat_lit 0) x98 fun x165 =>
 j164 x165 h99)
 (j164 undefA h99)) fun j166 =>
 GW false x91 (NC x96 fun x167 =>
 j166 x167 h97)
 (j166 undefA h97)) fun j168 =>
 GW false x91 (j168 x0 h95)
 (j168 undefA h95)
noncomputable def F46 (fu : Nat) (oR : FuncId → List AV → Option AV) (cl : CL) (args : List AV) (h2 : Heap) (kr : KR) (kp : KP) : Ans := AR2 args fun x0 x1 =>
 BOX 58 x1 h2 fun x3 h4 =>
 JO (fun x5 h6 =>
 IFB x5 (NC x0 fun x7 =>
 FA (nat_lit 4) x7 fun x8 =>
 ST (nat_lit 1) x8 (.bool true) h6 fun h9 =>
 kr (.tuple []) h9)
 (B46x77 x3 h6 cl x0 kr kp)) fun j78 =>
 FA (nat_lit 4) x3 fun x79 =>
 LD x79 h4 fun x80 =>
 NC x0 fun x81 =>
 FA (nat_lit 0) x81 fun x82 =>
 FA (nat_lit 0) x82 fun x83 =>
 LD x83 h4 fun x84 =>
 LENS x84 fun x85 =>
 SUB Pr 3 true x85 (.int .i64 (nat_lit 1)) fun x86 =>
 cl (nat_lit 23) [x80, (.int .i64 (nat_lit 0)), x86] h4 (fun x87 h88 =>
 OV (unOpA .not x87) fun x91 =>
 JO (fun x92 h93 =>
 JO (fun x94 h95 =>
 B46x169 x91 j78 x3 cl x94 kp x0 h95) fun j170 =>
 GW false x91 (LD x92 h93 fun x171 =>
 j170 x171 h93)
 (j170 undefA h93)) fun j172 =>
 GW false x91 (FA (nat_lit 3) x3 fun x173 =>
 j172 x173 h88)
 (j172 undefA h88)) kp

theorem eqF46 : F46 = fun fu oR => compF Pr fu oR 46 2 := by kernel_rfl

noncomputable def F47 (fu : Nat) (oR : FuncId → List AV → Option AV) (cl : CL) (args : List AV) (h1 : Heap) (kr : KR) (kp : KP) : Ans := AR1 args fun x0 =>
 NC x0 fun x2 =>
 FA (nat_lit 1) x2 fun x3 =>
 LD x3 h1 fun x4 =>
 OPV (builtinF .unsafeSliceData Pr [22] [x4] h1) fun x5 =>
 NC x0 fun x6 =>
 FA (nat_lit 1) x6 fun x7 =>
 LD x7 h1 fun x8 =>
 LENS x8 fun x9 =>
 GEN (builtinF .unsafeString Pr [120, 3] [x5, x9] h1) cl (fun x10 h11 =>
 kr x10 h11) kp

theorem eqF47 : F47 = fun fu oR => compF Pr fu oR 47 1 := by kernel_rfl

noncomputable def B48x41 (x0 : AV) (x2 : AV) (h26 : Heap) (x4 : AV) (i22 : Nat) (a23 : List AV) (kr : KR) (oR : FuncId → List AV → Option AV) (kp : KP) : Ans := OV (buildA Pr 37 []) fun x35 =>
 LENT x0 fun x36 =>
 ST (nat_lit 2) x2 x35 h26 fun h37 =>
 ST (nat_lit 1) x4 x36 h37 fun h38 =>
 ENDD ((i22, a23) :: []) (LDN (nat_lit 2) x2 h38 fun x39 =>
 LD x4 h38 fun x40 =>
 kr (.tuple [x39, x40]) h38)
 (SLOW Pr oR 48 [(2, x2), (3, x4)] ((i22, a23) :: []) .returning h38 kr kp)
noncomputable def B48x49 (x20 : AV) (h26 : Heap) (x2 : AV) (x4 : AV) (i22 : Nat) (a23 : List AV) (kr : KR) (oR : FuncId → List AV → Option AV) (kp : KP) : Ans := NC x20 fun x42 =>
 FA (nat_lit 4) x42 fun x43 =>
 LDN (nat_lit 2) x43 h26 fun x44 =>
 ST (nat_lit 2) x2 x44 h26 fun h45 =>
 ST (nat_lit 1) x4 (.int .i64 (nat_lit 18446744073709551615)) h45 fun h46 =>
 ENDD ((i22, a23) :: []) (LDN (nat_lit 2) x2 h46 fun x47 =>
 LD x4 h46 fun x48 =>
 kr (.tuple [x47, x48]) h46)
 (SLOW Pr oR 48 [(2, x2), (3, x4)] ((i22, a23) :: []) .returning h46 kr kp)
noncomputable def B48x50 (x0 : AV) (x10 : AV) (h7 : Heap) (x2 : AV) (x4 : AV) (cl : CL) (kr : KR) (oR : FuncId → List AV → Option AV) (kp : KP) : Ans := LENT x0 fun x18 =>
 OV (buildA Pr 123 [((nat_lit 0), x10), ((nat_lit 2), x18)]) fun x19 =>
 BOX 123 x19 h7 fun x20 h21 =>
 GDF (dfrV (some (.func (.func 73) [] [x2, x4])) [] h21) fun i22 a23 h24 =>
 cl (nat_lit 74) [x20] h24 (fun x25 h26 =>
 NC x20 fun x29 =>
 FA (nat_lit 4) x29 fun x30 =>
 FA (nat_lit 0) x30 fun x31 =>
 LD x31 h26 fun x32 =>
 LENS x32 fun x33 =>
 GTR Pr 3 true x33 (.int .i64 (nat_lit 800)) fun x34 =>
 IFB x34 (B48x41 x0 x2 h26 x4 i22 a23 kr oR kp)
 (B48x49 x20 h26 x2 x4 i22 a23 kr oR kp)) (fun c27 h28 => ENDD ((i22, a23) :: []) (kp c27 h28)
 (SLOW Pr oR 48 [(2, x2), (3, x4)] ((i22, a23) :: []) (.panicking c27) h28 kr kp))
noncomputable def F48 (fu : Nat) (oR : FuncId → List AV → Option AV) (cl : CL) (args : List AV) (h1 : Heap) (kr : KR) (kp : KP) : Ans := AR1 args fun x0 =>
 NEWC (.n (some (.nilslice)) (.n (some (.nilslice)) .e .e) .e) (nat_lit 2) 37 h1 fun x2 h3 =>
 NEWC (.n (some (.int .i64 (nat_lit 0))) .e .e) (nat_lit 1) 3 h3 fun x4 h5 =>
 cl (nat_lit 72) [x0] h5 (fun x6 h7 =>
 EX (nat_lit 0) x6 fun x10 =>
 EX (nat_lit 1) x6 fun x11 =>
 GEQ Pr 3 true x11 (.int .i64 (nat_lit 0)) fun x12 =>
 IFB x12 (OV (buildA Pr 37 []) fun x13 =>
 ST (nat_lit 2) x2 x13 h7 fun h14 =>
 ST (nat_lit 1) x4 x11 h14 fun h15 =>
 LDN (nat_lit 2) x2 h15 fun x16 =>
 LD x4 h15 fun x17 =>
 kr (.tuple [x16, x17]) h15)
 (B48x50 x0 x10 h7 x2 x4 cl kr oR kp)) kp

theorem eqF48 : F48 = fun fu oR => compF Pr fu oR 48 1 := by kernel_rfl

noncomputable def B49x30 (x0 : AV) (x8 : AV) (h9 : Heap) (x1 : AV) (x2 : AV) (cl : CL) (kr : KR) (j10 : AV → Heap → Ans) (kp : KP) : Ans := SA (nat_lit 5) x0 x8 fun x12 =>
 LDN (nat_lit 5) x12 h9 fun x13 =>
 NEWC (.n (some (.int .i64 (nat_lit 0))) (.n (some (.str (nat_lit 0) (nat_lit 0))) (.n (some (.int .i64 (nat_lit 0))) .e .e) .e) (.n (some (.str (nat_lit 0) (nat_lit 0))) (.n (some (.nilslice)) .e .e) .e)) (nat_lit 5) 92 h9 fun x14 h15 =>
 ST (nat_lit 5) x14 x13 h15 fun h16 =>
 SA (nat_lit 5) x1 x8 fun x17 =>
 LDN (nat_lit 5) x17 h16 fun x18 =>
 NEWC (.n (some (.int .i64 (nat_lit 0))) (.n (some (.str (nat_lit 0) (nat_lit 0))) (.n (some (.int .i64 (nat_lit 0))) .e .e) .e) (.n (some (.str (nat_lit 0) (nat_lit 0))) (.n (some (.nilslice)) .e .e) .e)) (nat_lit 5) 92 h16 fun x19 h20 =>
 ST (nat_lit 5) x19 x18 h20 fun h21 =>
 LDN (nat_lit 5) x14 h21 fun x22 =>
 LDN (nat_lit 5) x19 h21 fun x23 =>
 GEN (callV Pr (some x2) [x22, x23] h21) cl (fun x24 h25 =>
 OV (unOpA .not x24) fun x28 =>
 IFB x28 (kr (.bool false) h25)
 (ADD Pr 3 true x8 (.int .i64 (nat_lit 1)) fun x29 =>
 j10 x29 h25)) kp
noncomputable def F49 (fu : Nat) (oR : FuncId → List AV → Option AV) (cl : CL) (args : List AV) (h3 : Heap) (kr : KR) (kp : KP) : Ans := AR3 args fun x0 x1 x2 =>
 LENS x0 fun x4 =>
 LENS x1 fun x5 =>
 NEQ Pr 3 false x4 x5 fun x6 =>
 IFB x6 (kr (.bool false) h3)
 (LENS x0 fun x7 =>
 LP fu (fun _ _ => Ans.no) (fun j10 x8 h9 =>
 LSS Pr 3 false x8 x7 fun x11 =>
 IFB x11 (B49x30 x0 x8 h9 x1 x2 cl kr j10 kp)
 (kr (.bool true) h9)) (.int .i64 (nat_lit 0)) h3)

theorem eqF49 : F49 = fun fu oR => compF Pr fu oR 49 3 := by kernel_rfl

noncomputable def B50x65 (x44 : AV) (kr : KR) (cl : CL) (x47 : AV) (kp : KP) (x5 : AV) (h48 : Heap) : Ans := JO (fun x49 h50 =>
 JO (fun x51 h52 =>
 JO (fun x53 h54 =>
 SEL x44 x53 (.bool false) fun x55 =>
 kr x55 h54) fun j56 =>
 GW true x44 (cl (nat_lit 51) [x47, x51] h52 (fun x57 h58 =>
 j56 x57 h58) kp)
 (j56 undefA h52)) fun j61 =>
 GW true x44 (LD x49 h50 fun x62 =>
 j61 x62 h50)
 (j61 undefA h50)) fun j63 =>
 GW true x44 (FA (nat_lit 4) x5 fun x64 =>
 j63 x64 h48)
 (j63 undefA h48)
noncomputable def B50x72 (x33 : AV) (kr : KR) (cl : CL) (kp : KP) (x5 : AV) (x3 : AV) (x36 : AV) (x40 : AV) (h41 : Heap) : Ans := JO (fun x42 h43 =>
 SEL x33 x42 (.bool false) fun x44 =>
 JO (fun x45 h46 =>
 JO (fun x47 h48 =>
 B50x65 x44 kr cl x47 kp x5 h48) fun j66 =>
 GW true x44 (LD x45 h46 fun x67 =>
 j66 x67 h46)
 (j66 undefA h46)) fun j68 =>
 GW true x44 (FA (nat_lit 4) x3 fun x69 =>
 j68 x69 h43)
 (j68 undefA h43)) fun j70 =>
 GW true x33 (EQL Pr 3 false x36 x40 fun x71 =>
 j70 x71 h41)
 (j70 undefA h41)
noncomputable def B50x79 (x33 : AV) (kr : KR) (cl : CL) (kp : KP) (x5 : AV) (x3 : AV) (x34 : AV) (h35 : Heap) : Ans := JO (fun x36 h37 =>
 JO (fun x38 h39 =>
 JO (fun x40 h41 =>
 B50x72 x33 kr cl kp x5 x3 x36 x40 h41) fun j73 =>
 GW true x33 (LD x38 h39 fun x74 =>
 j73 x74 h39)
 (j73 undefA h39)) fun j75 =>
 GW true x33 (FA (nat_lit 3) x5 fun x76 =>
 j75 x76 h37)
 (j75 undefA h37)) fun j77 =>
 GW true x33 (LD x34 h35 fun x78 =>
 j77 x78 h35)
 (j77 undefA h35)
noncomputable def B50x86 (x22 : AV) (kr : KR) (cl : CL) (kp : KP) (x5 : AV) (x3 : AV) (x25 : AV) (x27 : AV) (h28 : Heap) : Ans := JO (fun x29 h30 =>
 JO (fun x31 h32 =>
 SEL x22 x31 (.bool false) fun x33 =>
 JO (fun x34 h35 =>
 B50x79 x33 kr cl kp x5 x3 x34 h35) fun j80 =>
 GW true x33 (FA (nat_lit 3) x3 fun x81 =>
 j80 x81 h32)
 (j80 undefA h32)) fun j82 =>
 GW true x22 (EQL Pr 9 false x25 x29 fun x83 =>
 j82 x83 h30)
 (j82 undefA h30)) fun j84 =>
 GW true x22 (LD x27 h28 fun x85 =>
 j84 x85 h28)
 (j84 undefA h28)
noncomputable def B50x93 (x11 : AV) (x20 : AV) (kr : KR) (cl : CL) (kp : KP) (x5 : AV) (x3 : AV) (h21 : Heap) : Ans := SEL x11 x20 (.bool false) fun x22 =>
 JO (fun x23 h24 =>
 JO (fun x25 h26 =>
 JO (fun x27 h28 =>
 B50x86 x22 kr cl kp x5 x3 x25 x27 h28) fun j87 =>
 GW true x22 (FA (nat_lit 2) x5 fun x88 =>
 j87 x88 h26)
 (j87 undefA h26)) fun j89 =>
 GW true x22 (LD x23 h24 fun x90 =>
 j89 x90 h24)
 (j89 undefA h24)) fun j91 =>
 GW true x22 (FA (nat_lit 2) x3 fun x92 =>
 j91 x92 h21)
 (j91 undefA h21)
noncomputable def B50x100 (x11 : AV) (kr : KR) (cl : CL) (kp : KP) (x5 : AV) (x3 : AV) (x14 : AV) (h15 : Heap) : Ans := JO (fun x16 h17 =>
 JO (fun x18 h19 =>
 JO (fun x20 h21 =>
 B50x93 x11 x20 kr cl kp x5 x3 h21) fun j94 =>
 GW true x11 (EQL Pr 9 false x14 x18 fun x95 =>
 j94 x95 h19)
 (j94 undefA h19)) fun j96 =>
 GW true x11 (LD x16 h17 fun x97 =>
 j96 x97 h17)
 (j96 undefA h17)) fun j98 =>
 GW true x11 (FA (nat_lit 1) x5 fun x99 =>
 j98 x99 h15)
 (j98 undefA h15)
noncomputable def F50 (fu : Nat) (oR : FuncId → List AV → Option AV) (cl : CL) (args : List AV) (h2 : Heap) (kr : KR) (kp : KP) : Ans := AR2 args fun x0 x1 =>
 BOX 92 x0 h2 fun x3 h4 =>
 BOX 92 x1 h4 fun x5 h6 =>
 FA (nat_lit 0) x3 fun x7 =>
 LD x7 h6 fun x8 =>
 FA (nat_lit 0) x5 fun x9 =>
 LD x9 h6 fun x10 =>
 EQL Pr 3 false x8 x10 fun x11 =>
 JO (fun x12 h13 =>
 JO (fun x14 h15 =>
 B50x100 x11 kr cl kp x5 x3 x14 h15) fun j101 =>
 GW true x11 (LD x12 h13 fun x102 =>
 j101 x102 h13)
 (j101 undefA h13)) fun j103 =>
 GW true x11 (FA (nat_lit 1) x3 fun x104 =>
 j103 x104 h6)
 (j103 undefA h6)

theorem eqF50 : F50 = fun fu oR => compF Pr fu oR 50 2 := by kernel_rfl

noncomputable def B51x17 (x0 : AV) (fu : Nat) (x1 : AV) (kr : KR) (h2 : Heap) : Ans := LENS x0 fun x6 =>
 LP fu (fun _ _ => Ans.no) (fun j9 x7 h8 =>
 LSS Pr 3 false x7 x6 fun x10 =>
 IFB x10 (SA (nat_lit 1) x0 x7 fun x11 =>
 LD x11 h8 fun x12 =>
 SA (nat_lit 1) x1 x7 fun x13 =>
 LD x13 h8 fun x14 =>
 NEQ Pr 3 false x12 x14 fun x15 =>
 IFB x15 (kr (.bool false) h8)
 (ADD Pr 3 true x7 (.int .i64 (nat_lit 1)) fun x16 =>
 j9 x16 h8))
 (kr (.bool true) h8)) (.int .i64 (nat_lit 0)) h2
noncomputable def F51 (fu : Nat) (oR : FuncId → List AV → Option AV) (cl : CL) (args : List AV) (h2 : Heap) (kr : KR) (kp : KP) : Ans := AR2 args fun x0 x1 =>
 LENS x0 fun x3 =>
 LENS x1 fun x4 =>
 NEQ Pr 3 false x3 x4 fun x5 =>
 IFB x5 (kr (.bool false) h2)
 (B51x17 x0 fu x1 kr h2)

theorem eqF51 : F51 = fun fu oR => compF Pr fu oR 51 2 := by kernel_rfl

noncomputable def B52x30 (x0 : AV) (x8 : AV) (h9 : Heap) (x1 : AV) (x2 : AV) (cl : CL) (kr : KR) (j10 : AV → Heap → Ans) (kp : KP) : Ans := SA (nat_lit 5) x0 x8 fun x12 =>
 LDN (nat_lit 5) x12 h9 fun x13 =>
 NEWC (.n (some (.int .i64 (nat_lit 0))) (.n (some (.str (nat_lit 0) (nat_lit 0))) (.n (some (.int .i64 (nat_lit 0))) .e .e) .e) (.n (some (.nilslice)) (.n (some (.int .i64 (nat_lit 0))) .e .e) .e)) (nat_lit 5) 58 h9 fun x14 h15 =>
 ST (nat_lit 5) x14 x13 h15 fun h16 =>
 SA (nat_lit 5) x1 x8 fun x17 =>
 LDN (nat_lit 5) x17 h16 fun x18 =>
 NEWC (.n (some (.int .i64 (nat_lit 0))) (.n (some (.str (nat_lit 0) (nat_lit 0))) (.n (some (.int .i64 (nat_lit 0))) .e .e) .e) (.n (some (.nilslice)) (.n (some (.int .i64 (nat_lit 0))) .e .e) .e)) (nat_lit 5) 58 h16 fun x19 h20 =>
 ST (nat_lit 5) x19 x18 h20 fun h21 =>
 LDN (nat_lit 5) x14 h21 fun x22 =>
 LDN (nat_lit 5) x19 h21 fun x23 =>
 GEN (callV Pr (some x2) [x22, x23] h21) cl (fun x24 h25 =>
 OV (unOpA .not x24) fun x28 =>
 IFB x28 (kr (.bool false) h25)
 (ADD Pr 3 true x8 (.int .i64 (nat_lit 1)) fun x29 =>
 j10 x29 h25)) kp
noncomputable def F52 (fu : Nat) (oR : FuncId → List AV → Option AV) (cl : CL) (args : List AV) (h3 : Heap) (kr : KR) (kp : KP) : Ans := AR3 args fun x0 x1 x2 =>
 LENS x0 fun x4 =>
 LENS x1 fun x5 =>
 NEQ Pr 3 false x4 x5 fun x6 =>
 IFB x6 (kr (.bool false) h3)
 (LENS x0 fun x7 =>
 LP fu (fun _ _ => Ans.no) (fun j10 x8 h9 =>
 LSS Pr 3 false x8 x7 fun x11 =>
 IFB x11 (B52x30 x0 x8 h9 x1 x2 cl kr j10 kp)
 (kr (.bool true) h9)) (.int .i64 (nat_lit 0)) h3)

theorem eqF52 : F52 = fun fu oR => compF Pr fu oR 52 3 := by kernel_rfl

noncomputable def B53x62 (x44 : AV) (kr : KR) (x47 : AV) (x5 : AV) (h48 : Heap) : Ans := JO (fun x49 h50 =>
 JO (fun x51 h52 =>
 JO (fun x53 h54 =>
 SEL x44 x53 (.bool false) fun x55 =>
 kr x55 h54) fun j56 =>
 GW true x44 (EQL Pr 3 false x47 x51 fun x57 =>
 j56 x57 h52)
 (j56 undefA h52)) fun j58 =>
 GW true x44 (LD x49 h50 fun x59 =>
 j58 x59 h50)
 (j58 undefA h50)) fun j60 =>
 GW true x44 (FA (nat_lit 4) x5 fun x61 =>
 j60 x61 h48)
 (j60 undefA h48)
noncomputable def B53x69 (x33 : AV) (kr : KR) (x5 : AV) (x3 : AV) (x36 : AV) (x40 : AV) (h41 : Heap) : Ans := JO (fun x42 h43 =>
 SEL x33 x42 (.bool false) fun x44 =>
 JO (fun x45 h46 =>
 JO (fun x47 h48 =>
 B53x62 x44 kr x47 x5 h48) fun j63 =>
 GW true x44 (LD x45 h46 fun x64 =>
 j63 x64 h46)
 (j63 undefA h46)) fun j65 =>
 GW true x44 (FA (nat_lit 4) x3 fun x66 =>
 j65 x66 h43)
 (j65 undefA h43)) fun j67 =>
 GW true x33 (EQL Pr 3 false x36 x40 fun x68 =>
 j67 x68 h41)
 (j67 undefA h41)
noncomputable def B53x76 (x33 : AV) (kr : KR) (x5 : AV) (x3 : AV) (x34 : AV) (h35 : Heap) : Ans := JO (fun x36 h37 =>
 JO (fun x38 h39 =>
 JO (fun x40 h41 =>
 B53x69 x33 kr x5 x3 x36 x40 h41) fun j70 =>
 GW true x33 (LD x38 h39 fun x71 =>
 j70 x71 h39)
 (j70 undefA h39)) fun j72 =>
 GW true x33 (FA (nat_lit 3) x5 fun x73 =>
 j72 x73 h37)
 (j72 undefA h37)) fun j74 =>
 GW true x33 (LD x34 h35 fun x75 =>
 j74 x75 h35)
 (j74 undefA h35)
noncomputable def B53x86 (x22 : AV) (kr : KR) (x5 : AV) (x3 : AV) (cl : CL) (x25 : AV) (kp : KP) (x27 : AV) (h28 : Heap) : Ans := JO (fun x29 h30 =>
 JO (fun x31 h32 =>
 SEL x22 x31 (.bool false) fun x33 =>
 JO (fun x34 h35 =>
 B53x76 x33 kr x5 x3 x34 h35) fun j77 =>
 GW true x33 (FA (nat_lit 3) x3 fun x78 =>
 j77 x78 h32)
 (j77 undefA h32)) fun j79 =>
 GW true x22 (cl (nat_lit 54) [x25, x29] h30 (fun x80 h81 =>
 j79 x80 h81) kp)
 (j79 undefA h30)) fun j84 =>
 GW true x22 (LD x27 h28 fun x85 =>
 j84 x85 h28)
 (j84 undefA h28)
noncomputable def B53x93 (x11 : AV) (x20 : AV) (kr : KR) (x5 : AV) (x3 : AV) (cl : CL) (kp : KP) (h21 : Heap) : Ans := SEL x11 x20 (.bool false) fun x22 =>
 JO (fun x23 h24 =>
 JO (fun x25 h26 =>
 JO (fun x27 h28 =>
 B53x86 x22 kr x5 x3 cl x25 kp x27 h28) fun j87 =>
 GW true x22 (FA (nat_lit 2) x5 fun x88 =>
 j87 x88 h26)
 (j87 undefA h26)) fun j89 =>
 GW true x22 (LD x23 h24 fun x90 =>
 j89 x90 h24)
 (j89 undefA h24)) fun j91 =>
 GW true x22 (FA (nat_lit 2) x3 fun x92 =>
 j91 x92 h21)
 (j91 undefA h21)
noncomputable def B53x100 (x11 : AV) (kr : KR) (x5 : AV) (x3 : AV) (cl : CL) (kp : KP) (x14 : AV) (h15 : Heap) : Ans := JO (fun x16 h17 =>
 JO (fun x18 h19 =>
 JO (fun x20 h21 =>
 B53x93 x11 x20 kr x5 x3 cl kp h21) fun j94 =>
 GW true x11 (EQL Pr 9 false x14 x18 fun x95 =>
 j94 x95 h19)
 (j94 undefA h19)) fun j96 =>
 GW true x11 (LD x16 h17 fun x97 =>
 j96 x97 h17)
 (j96 undefA h17)) fun j98 =>
 GW true x11 (FA (nat_lit 1) x5 fun x99 =>
 j98 x99 h15)
 (j98 undefA h15)
noncomputable def F53 (fu : Nat) (oR : FuncId → List AV → Option AV) (cl : CL) (args : List AV) (h2 : Heap) (kr : KR) (kp : KP) : Ans := AR2 args fun x0 x1 =>
 BOX 58 x0 h2 fun x3 h4 =>
 BOX 58 x1 h4 fun x5 h6 =>
 FA (nat_lit 0) x3 fun x7 =>
 LD x7 h6 fun x8 =>
 FA (nat_lit 0) x5 fun x9 =>
 LD x9 h6 fun x10 =>
 EQL Pr 3 false x8 x10 fun x11 =>
 JO (fun x12 h13 =>
 JO (fun x14 h15 =>
 B53x100 x11 kr x5 x3 cl kp x14 h15) fun j101 =>
 GW true x11 (LD x12 h13 fun x102 =>
 j101 x102 h13)
 (j101 undefA h13)) fun j103 =>
 GW true x11 (FA (nat_lit 1) x3 fun x104 =>
 j103 x104 h6)
 (j103 undefA h6)

theorem eqF53 : F53 = fun fu oR => compF Pr fu oR 53 2 := by kernel_rfl

noncomputable def B54x17 (x0 : AV) (fu : Nat) (x1 : AV) (kr : KR) (h2 : Heap) : Ans := LENS x0 fun x6 =>
 LP fu (fun _ _ => Ans.no) (fun j9 x7 h8 =>
 LSS Pr 3 false x7 x6 fun x10 =>
 IFB x10 (SA (nat_lit 1) x0 x7 fun x11 =>
 LD x11 h8 fun x12 =>
 SA (nat_lit 1) x1 x7 fun x13 =>
 LD x13 h8 fun x14 =>
 NEQ Pr 9 false x12 x14 fun x15 =>
 IFB x15 (kr (.bool false) h8)
 (ADD Pr 3 true x7 (.int .i64 (nat_lit 1)) fun x16 =>
 j9 x16 h8))
 (kr (.bool true) h8)) (.int .i64 (nat_lit 0)) h2
noncomputable def F54 (fu : Nat) (oR : FuncId → List AV → Option AV) (cl : CL) (args : List AV) (h2 : Heap) (kr : KR) (kp : KP) : Ans := AR2 args fun x0 x1 =>
 LENS x0 fun x3 =>
 LENS x1 fun x4 =>
 NEQ Pr 3 false x3 x4 fun x5 =>
 IFB x5 (kr (.bool false) h2)
 (B54x17 x0 fu x1 kr h2)

theorem eqF54 : F54 = fun fu oR => compF Pr fu oR 54 2 := by kernel_rfl

noncomputable def F55 (fu : Nat) (oR : FuncId → List AV → Option AV) (cl : CL) (args : List AV) (h2 : Heap) (kr : KR) (kp : KP) : Ans := AR2 args fun x0 x1 =>
 cl (nat_lit 75) [x0, x1] h2 (fun x3 h4 =>
 GEQ Pr 3 true x3 (.int .i64 (nat_lit 0)) fun x7 =>
 kr x7 h4) kp

theorem eqF55 : F55 = fun fu oR => compF Pr fu oR 55 2 := by kernel_rfl

noncomputable def F57 (fu : Nat) (oR : FuncId → List AV → Option AV) (cl : CL) (args : List AV) (h2 : Heap) (kr : KR) (kp : KP) : Ans := AR2 args fun x0 x1 =>
 BOX 49 x0 h2 fun x3 h4 =>
 NEWC (.n (some (.int .i64 (nat_lit 0))) .e .e) (nat_lit 1) 3 h4 fun x5 h6 =>
 GDF (dfrV (some (.func (.func 79) [] [x3, x5])) [] h6) fun i7 a8 h9 =>
 LD x3 h9 fun x10 =>
 cl (nat_lit 80) [x10, x1] h9 (fun x11 h12 =>
 ST (nat_lit 1) x5 x11 h12 fun h15 =>
 ENDD ((i7, a8) :: []) (LD x5 h15 fun x16 =>
 kr x16 h15)
 (SLOW Pr oR 57 [(4, x5)] ((i7, a8) :: []) .returning h15 kr kp)) (fun c13 h14 => ENDD ((i7, a8) :: []) (kp c13 h14)
 (SLOW Pr oR 57 [(4, x5)] ((i7, a8) :: []) (.panicking c13) h14 kr kp))

theorem eqF57 : F57 = fun fu oR => compF Pr fu oR 57 2 := by kernel_rfl

noncomputable def B58x35 (x7 : AV) (x20 : AV) (h23 : Heap) (x8 : AV) (cl : CL) (j19 : AV → AV → Heap → Ans) (kp : KP) : Ans := OV (buildA Pr 131 [((nat_lit 0), x7), ((nat_lit 1), x20)]) fun x27 =>
 BSL (nat_lit 131) (nat_lit 2) [(.int .i64 (nat_lit 0)), (.int .i64 (nat_lit 0))] (nat_lit 1) [((nat_lit 0), x27)] h23 fun x28 h29 =>
 GEN (builtinF .append Pr [129, 129] [x8, x28] h29) cl (fun x30 h31 =>
 OV (unOpA .xor x7) fun x34 =>
 j19 x34 x30 h31) kp
noncomputable def B58x37 (j10 : AV → AV → Heap → Ans) (x11 : AV) (x1 : AV) (h12 : Heap) (cl : CL) (x7 : AV) (x8 : AV) (kp : KP) : Ans := JO (fun x16 x17 h18 =>
 j10 x16 x17 h18) fun j19 =>
 EX (nat_lit 1) x11 fun x20 =>
 EX (nat_lit 2) x11 fun x21 =>
 GEN (callV Pr (some x1) [x21] h12) cl (fun x22 h23 =>
 IFB x22 (GEQ Pr 3 true x7 (.int .i64 (nat_lit 0)) fun x26 =>
 IFB x26 (B58x35 x7 x20 h23 x8 cl j19 kp)
 (j19 x7 x8 h23))
 (LSS Pr 3 true x7 (.int .i64 (nat_lit 0)) fun x36 =>
 IFB x36 (j19 x20 x8 h23)
 (j19 x7 x8 h23))) kp
noncomputable def B58x61 (x38 : AV) (x44 : AV) (h45 : Heap) (x0 : AV) (x41 : AV) (j46 : AV → Heap → Ans) : Ans := SA (nat_lit 2) x38 x44 fun x48 =>
 LDN (nat_lit 2) x48 h45 fun x49 =>
 NEWC (.n (some (.int .i64 (nat_lit 0))) (.n (some (.int .i64 (nat_lit 0))) .e .e) .e) (nat_lit 2) 131 h45 fun x50 h51 =>
 ST (nat_lit 2) x50 x49 h51 fun h52 =>
 FA (nat_lit 0) x50 fun x53 =>
 LD x53 h52 fun x54 =>
 FA (nat_lit 1) x50 fun x55 =>
 LD x55 h52 fun x56 =>
 OV (sliceA Pr 9 x0 (some x54) (some x56) none) fun x57 =>
 SA (nat_lit 1) x41 x44 fun x58 =>
 ST (nat_lit 1) x58 x57 h52 fun h59 =>
 ADD Pr 3 true x44 (.int .i64 (nat_lit 1)) fun x60 =>
 j46 x60 h59
noncomputable def B58x72 (x0 : AV) (x7 : AV) (h12 : Heap) (x8 : AV) (cl : CL) (j62 : AV → Heap → Ans) (kp : KP) : Ans := LENT x0 fun x64 =>
 OV (buildA Pr 131 [((nat_lit 0), x7), ((nat_lit 1), x64)]) fun x65 =>
 BSL (nat_lit 131) (nat_lit 2) [(.int .i64 (nat_lit 0)), (.int .i64 (nat_lit 0))] (nat_lit 1) [((nat_lit 0), x65)] h12 fun x66 h67 =>
 GEN (builtinF .append Pr [129, 129] [x8, x66] h67) cl (fun x68 h69 =>
 j62 x68 h69) kp
noncomputable def B58x73 (fu : Nat) (x0 : AV) (kr : KR) (x7 : AV) (h12 : Heap) (x8 : AV) (cl : CL) (kp : KP) : Ans := JO (fun x38 h39 =>
 LENS x38 fun x40 =>
 OVH (makeSliceA Pr h39 43 x40 x40) fun x41 h42 =>
 LENS x38 fun x43 =>
 LP fu (fun _ _ => Ans.no) (fun j46 x44 h45 =>
 LSS Pr 3 false x44 x43 fun x47 =>
 IFB x47 (B58x61 x38 x44 h45 x0 x41 j46)
 (kr x41 h45)) (.int .i64 (nat_lit 0)) h42) fun j62 =>
 GEQ Pr 3 true x7 (.int .i64 (nat_lit 0)) fun x63 =>
 IFB x63 (B58x72 x0 x7 h12 x8 cl j62 kp)
 (j62 x8 h12)
noncomputable def F58 (fu : Nat) (oR : FuncId → List AV → Option AV) (cl : CL) (args : List AV) (h2 : Heap) (kr : KR) (kp : KP) : Ans := AR2 args fun x0 x1 =>
 OVH (makeSliceA Pr h2 129 (.int .i64 (nat_lit 0)) (.int .i64 (nat_lit 32))) fun x3 h4 =>
 OVH (rangeA Pr h4 9 x0) fun x5 h6 =>
 LP fu (fun _ _ _ => Ans.no) (fun j10 x7 x8 h9 =>
 GEN (nextA h9 x5 true) cl (fun x11 h12 =>
 EX (nat_lit 0) x11 fun x15 =>
 IFB x15 (B58x37 j10 x11 x1 h12 cl x7 x8 kp)
 (B58x73 fu x0 kr x7 h12 x8 cl kp)) kp) (.int .i64 (nat_lit 18446744073709551615)) x3 h6

theorem eqF58 : F58 = fun fu oR => compF Pr fu oR 58 2 := by kernel_rfl

noncomputable def B59x18 (x2 : AV) (kr : KR) (x0 : AV) (x3 : AV) (h4 : Heap) : Ans := JO (fun x5 h6 =>
 SEL x2 (.bool true) x5 fun x7 =>
 JO (fun x8 h9 =>
 JO (fun x10 h11 =>
 SEL x7 (.bool true) x10 fun x12 =>
 kr x12 h11) fun j13 =>
 GW false x7 (EQL Pr 21 true x8 (.int .i32 (nat_lit 10)) fun x14 =>
 j13 x14 h9)
 (j13 undefA h9)) fun j15 =>
 GW false x7 (j15 x0 h6)
 (j15 undefA h6)) fun j16 =>
 GW false x2 (EQL Pr 21 true x3 (.int .i32 (nat_lit 9)) fun x17 =>
 j16 x17 h4)
 (j16 undefA h4)
noncomputable def F59 (fu : Nat) (oR : FuncId → List AV → Option AV) (cl : CL) (args : List AV) (h1 : Heap) (kr : KR) (kp : KP) : Ans := AR1 args fun x0 =>
 EQL Pr 21 true x0 (.int .i32 (nat_lit 32)) fun x2 =>
 JO (fun x3 h4 =>
 B59x18 x2 kr x0 x3 h4) fun j19 =>
 GW false x2 (j19 x0 h1)
 (j19 undefA h1)

theorem eqF59 : F59 = fun fu oR => compF Pr fu oR 59 1 := by kernel_rfl

noncomputable def B60x71 (cl : CL) (x0 : AV) (x10 : AV) (x9 : AV) (x40 : AV) (x4 : AV) (h44 : Heap) (x20 : AV) (x31 : AV) (j19 : AV → AV → AV → AV → AV → Heap → Ans) (kp : KP) : Ans := cl (nat_lit 88) [x0, x10, x9, x40, x4] h44 (fun x49 h50 =>
 EX (nat_lit 0) x49 fun x53 =>
 EX (nat_lit 1) x49 fun x54 =>
 SUB Pr 3 false x53 x10 fun x55 =>
 SUB Pr 3 false x9 x53 fun x56 =>
 BOP Pr .quo 3 true x20 (.int .i64 (nat_lit 8)) fun x57 =>
 LSS Pr 3 false x55 x56 fun x58 =>
 IFB x58 (GEQ Pr 3 false x55 x57 fun x59 =>
 cl (nat_lit 60) [x0, x10, x53, x31, x4] h50 (fun x60 h61 =>
 ADD Pr 3 true x53 (.int .i64 (nat_lit 1)) fun x64 =>
 j19 x54 x59 x31 x9 x64 h61) kp)
 (GEQ Pr 3 false x56 x57 fun x65 =>
 ADD Pr 3 true x53 (.int .i64 (nat_lit 1)) fun x66 =>
 cl (nat_lit 60) [x0, x66, x9, x31, x4] h50 (fun x67 h68 =>
 j19 x54 x65 x31 x53 x10 h68) kp)) kp
noncomputable def B60x110 (x73 : AV) (j72 : AV → Heap → Ans) (x74 : AV) (x84 : AV) (x92 : AV) (h93 : Heap) (cl : CL) (kp : KP) : Ans := JO (fun x94 h95 =>
 JO (fun x96 h97 =>
 JO (fun x98 h99 =>
 SEL x73 x98 (.bool false) fun x100 =>
 j72 x100 h99) fun j101 =>
 GW true x73 (OV (unOpA .not x96) fun x102 =>
 j101 x102 h97)
 (j101 undefA h97)) fun j103 =>
 GW true x73 (LSS Pr 3 true x94 (.int .i64 (nat_lit 0)) fun x104 =>
 j103 x104 h95)
 (j103 undefA h95)) fun j105 =>
 GW true x73 (GEN (callV Pr (some x74) [x84, x92] h93) cl (fun x106 h107 =>
 j105 x106 h107) kp)
 (j105 undefA h93)
noncomputable def B60x116 (x73 : AV) (j72 : AV → Heap → Ans) (x74 : AV) (x84 : AV) (cl : CL) (kp : KP) (x86 : AV) (x40 : AV) (h87 : Heap) : Ans := JO (fun x88 h89 =>
 JO (fun x90 h91 =>
 JO (fun x92 h93 =>
 B60x110 x73 j72 x74 x84 x92 h93 cl kp) fun j111 =>
 GW true x73 (LDN (nat_lit 4) x90 h91 fun x112 =>
 j111 x112 h91)
 (j111 undefA h91)) fun j113 =>
 GW true x73 (SA (nat_lit 4) x86 x88 fun x114 =>
 j113 x114 h89)
 (j113 undefA h89)) fun j115 =>
 GW true x73 (j115 x40 h87)
 (j115 undefA h87)
noncomputable def B60x122 (x73 : AV) (j72 : AV → Heap → Ans) (x74 : AV) (cl : CL) (kp : KP) (x40 : AV) (x0 : AV) (x76 : AV) (x80 : AV) (h81 : Heap) : Ans := JO (fun x82 h83 =>
 JO (fun x84 h85 =>
 JO (fun x86 h87 =>
 B60x116 x73 j72 x74 x84 cl kp x86 x40 h87) fun j117 =>
 GW true x73 (j117 x0 h85)
 (j117 undefA h85)) fun j118 =>
 GW true x73 (LDN (nat_lit 4) x82 h83 fun x119 =>
 j118 x119 h83)
 (j118 undefA h83)) fun j120 =>
 GW true x73 (SA (nat_lit 4) x76 x80 fun x121 =>
 j120 x121 h81)
 (j120 undefA h81)
noncomputable def B60x127 (x73 : AV) (j72 : AV → Heap → Ans) (x74 : AV) (cl : CL) (kp : KP) (x40 : AV) (x0 : AV) (x10 : AV) (h75 : Heap) : Ans := JO (fun x76 h77 =>
 JO (fun x78 h79 =>
 JO (fun x80 h81 =>
 B60x122 x73 j72 x74 cl kp x40 x0 x76 x80 h81) fun j123 =>
 GW true x73 (SUB Pr 3 true x78 (.int .i64 (nat_lit 1)) fun x124 =>
 j123 x124 h79)
 (j123 undefA h79)) fun j125 =>
 GW true x73 (j125 x10 h77)
 (j125 undefA h77)) fun j126 =>
 GW true x73 (j126 x0 h75)
 (j126 undefA h75)
noncomputable def B60x129 (cl : CL) (x0 : AV) (x10 : AV) (x9 : AV) (x40 : AV) (x4 : AV) (j19 : AV → AV → AV → AV → AV → Heap → Ans) (x6 : AV) (x7 : AV) (x31 : AV) (kp : KP) (x20 : AV) (h42 : Heap) : Ans := JO (fun x43 h44 =>
 IFB x43 (cl (nat_lit 87) [x0, x10, x9, x40, x4] h44 (fun x45 h46 =>
 j19 x6 x7 x31 x9 x45 h46) kp)
 (B60x71 cl x0 x10 x9 x40 x4 h44 x20 x31 j19 kp)) fun j72 =>
 GTR Pr 3 true x10 (.int .i64 (nat_lit 0)) fun x73 =>
 JO (fun x74 h75 =>
 B60x127 x73 j72 x74 cl kp x40 x0 x10 h75) fun j128 =>
 GW true x73 (j128 x4 h42)
 (j128 undefA h42)
noncomputable def B60x145 (x133 : AV) (cl : CL) (x0 : AV) (x10 : AV) (x9 : AV) (x4 : AV) (kr : KR) (j130 : Heap → Ans) (kp : KP) (x134 : AV) (h135 : Heap) : Ans := JO (fun x136 h137 =>
 SEL x133 x136 (.bool false) fun x138 =>
 IFB x138 (cl (nat_lit 86) [x0, x10, x9, x4] h137 (fun x139 h140 =>
 IFB x139 (kr (.tuple []) h140)
 (j130  h140)) kp)
 (j130  h137)) fun j143 =>
 GW true x133 (EQL Pr 133 true x134 (.int .i64 (nat_lit 1)) fun x144 =>
 j143 x144 h135)
 (j143 undefA h135)
noncomputable def B60x148 (cl : CL) (x0 : AV) (x10 : AV) (x9 : AV) (x40 : AV) (x4 : AV) (j19 : AV → AV → AV → AV → AV → Heap → Ans) (x6 : AV) (x7 : AV) (x31 : AV) (kp : KP) (x20 : AV) (kr : KR) (x39 : AV) (h41 : Heap) : Ans := JO (fun h42 =>
 B60x129 cl x0 x10 x9 x40 x4 j19 x6 x7 x31 kp x20 h42) fun j130 =>
 JO (fun x131 h132 =>
 SEL x7 x131 (.bool false) fun x133 =>
 JO (fun x134 h135 =>
 B60x145 x133 cl x0 x10 x9 x4 kr j130 kp x134 h135) fun j146 =>
 GW true x133 (j146 x39 h132)
 (j146 undefA h132)) fun j147 =>
 GW true x7 (j147 x6 h41)
 (j147 undefA h41)
noncomputable def B60x158 (cl : CL) (x0 : AV) (x10 : AV) (x9 : AV) (x4 : AV) (h32 : Heap) (j19 : AV → AV → AV → AV → AV → Heap → Ans) (x6 : AV) (x7 : AV) (x31 : AV) (kp : KP) (x20 : AV) (kr : KR) : Ans := cl (nat_lit 84) [x0, x10, x9, x4] h32 (fun x33 h34 =>
 EX (nat_lit 0) x33 fun x37 =>
 EX (nat_lit 1) x33 fun x38 =>
 JO (fun x39 x40 h41 =>
 B60x148 cl x0 x10 x9 x40 x4 j19 x6 x7 x31 kp x20 kr x39 h41) fun j149 =>
 EQL Pr 133 true x38 (.int .i64 (nat_lit 2)) fun x150 =>
 IFB x150 (cl (nat_lit 85) [x0, x10, x9, x4] h34 (fun x151 h152 =>
 SUB Pr 3 true x9 (.int .i64 (nat_lit 1)) fun x155 =>
 SUB Pr 3 false x37 x10 fun x156 =>
 SUB Pr 3 false x155 x156 fun x157 =>
 j149 (.int .i64 (nat_lit 1)) x157 h152) kp)
 (j149 x38 x37 h34)) kp
noncomputable def B60x166 (x8 : AV) (cl : CL) (x0 : AV) (x10 : AV) (x9 : AV) (x4 : AV) (h11 : Heap) (kr : KR) (kp : KP) (j19 : AV → AV → AV → AV → AV → Heap → Ans) (x6 : AV) (x7 : AV) (x20 : AV) : Ans := EQL Pr 3 true x8 (.int .i64 (nat_lit 0)) fun x26 =>
 IFB x26 (cl (nat_lit 82) [x0, x10, x9, x4] h11 (fun x27 h28 =>
 kr (.tuple []) h28) kp)
 (JO (fun x31 h32 =>
 B60x158 cl x0 x10 x9 x4 h32 j19 x6 x7 x31 kp x20 kr) fun j159 =>
 OV (unOpA .not x7) fun x160 =>
 IFB x160 (cl (nat_lit 83) [x0, x10, x9, x4] h11 (fun x161 h162 =>
 SUB Pr 3 true x8 (.int .i64 (nat_lit 1)) fun x165 =>
 j159 x165 h162) kp)
 (j159 x8 h11))
noncomputable def B60x167 (j12 : AV → AV → AV → AV → AV → Heap → Ans) (x9 : AV) (x10 : AV) (cl : CL) (x0 : AV) (x4 : AV) (h11 : Heap) (kr : KR) (kp : KP) (x8 : AV) (x6 : AV) (x7 : AV) : Ans := JO (fun x13 x14 x15 x16 x17 h18 =>
 j12 x13 x14 x15 x16 x17 h18) fun j19 =>
 SUB Pr 3 false x9 x10 fun x20 =>
 LEQ Pr 3 true x20 (.int .i64 (nat_lit 12)) fun x21 =>
 IFB x21 (cl (nat_lit 81) [x0, x10, x9, x4] h11 (fun x22 h23 =>
 kr (.tuple []) h23) kp)
 (B60x166 x8 cl x0 x10 x9 x4 h11 kr kp j19 x6 x7 x20)
noncomputable def F60 (fu : Nat) (oR : FuncId → List AV → Option AV) (cl : CL) (args : List AV) (h5 : Heap) (kr : KR) (kp : KP) : Ans := AR5 args fun x0 x1 x2 x3 x4 =>
 LP fu (fun _ _ _ _ _ _ => Ans.no) (fun j12 x6 x7 x8 x9 x10 h11 =>
 B60x167 j12 x9 x10 cl x0 x4 h11 kr kp x8 x6 x7) (.bool true) (.bool true) x3 x2 x1 h5

theorem eqF60 : F60 = fun fu oR => compF Pr fu oR 60 5 := by kernel_rfl

noncomputable def F61 (fu : Nat) (oR : FuncId → List AV → Option AV) (cl : CL) (args : List AV) (h1 : Heap) (kr : KR) (kp : KP) : Ans := AR1 args fun x0 =>
 IFB (.bool false) (OV (convV Pr h1 105 140 x0) fun x2 =>
 cl (nat_lit 89) [x2] h1 (fun x3 h4 =>
 kr x3 h4) kp)
 (cl (nat_lit 90) [x0] h1 (fun x7 h8 =>
 kr x7 h8) kp)

theorem eqF61 : F61 = fun fu oR => compF Pr fu oR 61 1 := by kernel_rfl

noncomputable def F62 (fu : Nat) (oR : FuncId → List AV → Option AV) (cl : CL) (args : List AV) (h1 : Heap) (kr : KR) (kp : KP) : Ans := AR1 args fun x0 =>
 NEQ Pr 9 false x0 x0 fun x2 =>
 kr x2 h1

theorem eqF62 : F62 = fun fu oR => compF Pr fu oR 62 1 := by kernel_rfl

noncomputable def F63 (fu : Nat) (oR : FuncId → List AV → Option AV) (cl : CL) (args : List AV) (h1 : Heap) (kr : KR) (kp : KP) : Ans := AR1 args fun x0 =>
 NEQ Pr 3 false x0 x0 fun x2 =>
 kr x2 h1

theorem eqF63 : F63 = fun fu oR => compF Pr fu oR 63 1 := by kernel_rfl

noncomputable def B64x30 (x14 : AV) (h17 : Heap) (x9 : AV) (cl : CL) (x0 : AV) (x16 : AV) (j11 : AV → AV → Heap → Ans) (kp : KP) : Ans := LDN (nat_lit 4) x14 h17 fun x19 =>
 BSL (nat_lit 114) (nat_lit 4) [(.int .i64 (nat_lit 0)), (.str (nat_lit 0) (nat_lit 0)), (.int .i64 (nat_lit 0)), (.int .i64 (nat_lit 0))] (nat_lit 1) [((nat_lit 0), x19)] h17 fun x20 h21 =>
 GEN (builtinF .append Pr [106, 106] [x9, x20] h21) cl (fun x22 h23 =>
 cl (nat_lit 91) [x0, x16] h23 (fun x26 h27 =>
 j11 x26 x22 h27) kp) kp
noncomputable def B64x88 (x66 : AV) (x71 : AV) (cl : CL) (x0 : AV) (x8 : AV) (h72 : Heap) (x14 : AV) (j31 : AV → Heap → Ans) (kp : KP) : Ans := SEL x66 x71 (.bool false) fun x73 =>
 IFB x73 (cl (nat_lit 98) [x0, x8] h72 (fun x74 h75 =>
 EX (nat_lit 0) x74 fun x78 =>
 EX (nat_lit 1) x74 fun x79 =>
 ST (nat_lit 4) x14 x78 h75 fun h80 =>
 j31 x79 h80) kp)
 (cl (nat_lit 99) [x0, x8] h72 (fun x81 h82 =>
 EX (nat_lit 0) x81 fun x85 =>
 EX (nat_lit 1) x81 fun x86 =>
 ST (nat_lit 4) x14 x85 h82 fun h87 =>
 j31 x86 h87) kp)
noncomputable def B64x97 (x0 : AV) (x8 : AV) (cl : CL) (x14 : AV) (j31 : AV → Heap → Ans) (kp : KP) (x9 : AV) (h55 : Heap) : Ans := SAT x0 x8 fun x65 =>
 EQL Pr 5 true x65 (.int .u8 (nat_lit 47)) fun x66 =>
 JO (fun x67 h68 =>
 JO (fun x69 h70 =>
 JO (fun x71 h72 =>
 B64x88 x66 x71 cl x0 x8 h72 x14 j31 kp) fun j89 =>
 GW true x66 (OV (unOpA .not x69) fun x90 =>
 j89 x90 h70)
 (j89 undefA h70)) fun j91 =>
 GW true x66 (cl (nat_lit 97) [x67] h68 (fun x92 h93 =>
 j91 x92 h93) kp)
 (j91 undefA h68)) fun j96 =>
 GW true x66 (j96 x9 h55)
 (j96 undefA h55)
noncomputable def B64x98 (x0 : AV) (x8 : AV) (cl : CL) (h34 : Heap) (x14 : AV) (j31 : AV → Heap → Ans) (kp : KP) (x9 : AV) : Ans := SAT x0 x8 fun x44 =>
 EQL Pr 5 true x44 (.int .u8 (nat_lit 34)) fun x45 =>
 IFB x45 (cl (nat_lit 94) [x0, x8] h34 (fun x46 h47 =>
 EX (nat_lit 0) x46 fun x50 =>
 EX (nat_lit 1) x46 fun x51 =>
 ST (nat_lit 4) x14 x50 h47 fun h52 =>
 j31 x51 h52) kp)
 (SAT x0 x8 fun x53 =>
 cl (nat_lit 95) [x53] h34 (fun x54 h55 =>
 IFB x54 (cl (nat_lit 96) [x0, x8] h55 (fun x58 h59 =>
 EX (nat_lit 0) x58 fun x62 =>
 EX (nat_lit 1) x58 fun x63 =>
 ST (nat_lit 4) x14 x62 h59 fun h64 =>
 j31 x63 h64) kp)
 (B64x97 x0 x8 cl x14 j31 kp x9 h55)) kp)
noncomputable def B64x99 (h10 : Heap) (kr : KR) (x8 : AV) (x9 : AV) (cl : CL) (x0 : AV) (j11 : AV → AV → Heap → Ans) (kp : KP) : Ans := NEWC (.n (some (.int .i64 (nat_lit 0))) (.n (some (.str (nat_lit 0) (nat_lit 0))) (.n (some (.int .i64 (nat_lit 0))) .e .e) .e) (.n (some (.int .i64 (nat_lit 0))) .e .e)) (nat_lit 4) 114 h10 fun x14 h15 =>
 JO (fun x16 h17 =>
 LSS Pr 3 true x16 (.int .i64 (nat_lit 0)) fun x18 =>
 IFB x18 (kr (.tuple [(.nilslice), x8]) h17)
 (B64x30 x14 h17 x9 cl x0 x16 j11 kp)) fun j31 =>
 SAT x0 x8 fun x32 =>
 cl (nat_lit 92) [x32] h15 (fun x33 h34 =>
 IFB x33 (cl (nat_lit 93) [x0, x8] h34 (fun x37 h38 =>
 EX (nat_lit 0) x37 fun x41 =>
 EX (nat_lit 1) x37 fun x42 =>
 ST (nat_lit 4) x14 x41 h38 fun h43 =>
 j31 x42 h43) kp)
 (B64x98 x0 x8 cl h34 x14 j31 kp x9)) kp
noncomputable def F64 (fu : Nat) (oR : FuncId → List AV → Option AV) (cl : CL) (args : List AV) (h1 : Heap) (kr : KR) (kp : KP) : Ans := AR1 args fun x0 =>
 LENT x0 fun x2 =>
 GTR Pr 3 true x2 (.int .i64 (nat_lit 4000)) fun x3 =>
 IFB x3 (kr (.tuple [(.nilslice), (.int .i64 (nat_lit 0))]) h1)
 (cl (nat_lit 91) [x0, (.int .i64 (nat_lit 0))] h1 (fun x4 h5 =>
 LP fu (fun _ _ _ => Ans.no) (fun j11 x8 x9 h10 =>
 LENT x0 fun x12 =>
 LSS Pr 3 false x8 x12 fun x13 =>
 IFB x13 (B64x99 h10 kr x8 x9 cl x0 j11 kp)
 (kr (.tuple [x9, (.int .i64 (nat_lit 18446744073709551615))]) h10)) x4 (.nilslice) h5) kp)

theorem eqF64 : F64 = fun fu oR => compF Pr fu oR 64 1 := by kernel_rfl

noncomputable def B65x54 (cl : CL) (x0 : AV) (h36 : Heap) (x5 : AV) (j18 : Heap → Ans) (kp : KP) : Ans := cl (nat_lit 102) [x0, (.str (nat_lit 1) (nat_lit 123))] h36 (fun x41 h42 =>
 OV (unOpA .not x41) fun x45 =>
 IFB x45 (FA (nat_lit 0) x5 fun x46 =>
 ST (nat_lit 1) x46 (.int .i64 (nat_lit 3)) h42 fun h47 =>
 cl (nat_lit 103) [x0] h47 (fun x48 h49 =>
 FA (nat_lit 3) x5 fun x52 =>
 ST (nat_lit 1) x52 x48 h49 fun h53 =>
 j18  h53) kp)
 (j18  h42)) kp
noncomputable def B65x55 (cl : CL) (x0 : AV) (h20 : Heap) (x5 : AV) (j18 : Heap → Ans) (kp : KP) : Ans := cl (nat_lit 100) [x0, (.str (nat_lit 5) (nat_lit 336236856642))] h20 (fun x29 h30 =>
 IFB x29 (FA (nat_lit 0) x5 fun x33 =>
 ST (nat_lit 1) x33 (.int .i64 (nat_lit 0)) h30 fun h34 =>
 j18  h34)
 (cl (nat_lit 100) [x0, (.str (nat_lit 3) (nat_lit 4476485))] h30 (fun x35 h36 =>
 IFB x35 (FA (nat_lit 0) x5 fun x39 =>
 ST (nat_lit 1) x39 (.int .i64 (nat_lit 1)) h36 fun h40 =>
 j18  h40)
 (B65x54 cl x0 h36 x5 j18 kp)) kp)) kp
noncomputable def F65 (fu : Nat) (oR : FuncId → List AV → Option AV) (cl : CL) (args : List AV) (h1 : Heap) (kr : KR) (kp : KP) : Ans := AR1 args fun x0 =>
 NEWC (.n (some (.int .i64 (nat_lit 0))) (.n (some (.str (nat_lit 0) (nat_lit 0))) (.n (some (.int .i64 (nat_lit 0))) .e .e) .e) (.n (some (.nilslice)) (.n (some (.int .i64 (nat_lit 0))) .e .e) .e)) (nat_lit 5) 58 h1 fun x2 h3 =>
 OV (buildA Pr 58 [((nat_lit 0), (.int .i64 (nat_lit 2))), ((nat_lit 3), (.int .i64 (nat_lit 18446744073709551615)))]) fun x4 =>
 NEWC (.n (some (.int .i64 (nat_lit 0))) (.n (some (.str (nat_lit 0) (nat_lit 0))) (.n (some (.int .i64 (nat_lit 0))) .e .e) .e) (.n (some (.nilslice)) (.n (some (.int .i64 (nat_lit 0))) .e .e) .e)) (nat_lit 5) 58 h3 fun x5 h6 =>
 ST (nat_lit 5) x5 x4 h6 fun h7 =>
 JO (fun h8 =>
 cl (nat_lit 104) [x0] h8 (fun x9 h10 =>
 FA (nat_lit 4) x5 fun x13 =>
 ST (nat_lit 1) x13 x9 h10 fun h14 =>
 LDN (nat_lit 5) x5 h14 fun x15 =>
 ST (nat_lit 5) x2 x15 h14 fun h16 =>
 LDN (nat_lit 5) x2 h16 fun x17 =>
 kr x17 h16) kp) fun j18 =>
 cl (nat_lit 100) [x0, (.str (nat_lit 8) (nat_lit 7957695015192261990))] h7 (fun x19 h20 =>
 IFB x19 (cl (nat_lit 101) [x0] h20 (fun x23 h24 =>
 ST (nat_lit 5) x2 x23 h24 fun h27 =>
 LDN (nat_lit 5) x2 h27 fun x28 =>
 kr x28 h27) kp)
 (B65x55 cl x0 h20 x5 j18 kp)) kp

theorem eqF65 : F65 = fun fu oR => compF Pr fu oR 65 1 := by kernel_rfl

noncomputable def B66x56 (x5 : AV) (x37 : AV) (j40 : AV → AV → Heap → Ans) (x38 : AV) (h39 : Heap) : Ans := JO (fun x45 h46 =>
 FA (nat_lit 2) x5 fun x47 =>
 LD x47 h46 fun x48 =>
 SA (nat_lit 1) x48 x37 fun x49 =>
 LD x49 h46 fun x50 =>
 ADD Pr 9 false x45 x50 fun x51 =>
 ADD Pr 3 true x37 (.int .i64 (nat_lit 1)) fun x52 =>
 j40 x52 x51 h46) fun j53 =>
 GTR Pr 3 true x37 (.int .i64 (nat_lit 0)) fun x54 =>
 IFB x54 (ADD Pr 9 true x38 (.str (nat_lit 2) (nat_lit 8236)) fun x55 =>
 j53 x55 h39)
 (j53 x38 h39)
noncomputable def B66x58 (x5 : AV) (h6 : Heap) (fu : Nat) (j20 : AV → Heap → Ans) : Ans := FA (nat_lit 1) x5 fun x33 =>
 LD x33 h6 fun x34 =>
 ADD Pr 9 true (.str (nat_lit 9) (nat_lit 598253505373897913702)) x34 fun x35 =>
 ADD Pr 9 true x35 (.str (nat_lit 1) (nat_lit 40)) fun x36 =>
 LP fu (fun _ _ _ => Ans.no) (fun j40 x37 x38 h39 =>
 FA (nat_lit 2) x5 fun x41 =>
 LD x41 h39 fun x42 =>
 LENS x42 fun x43 =>
 LSS Pr 3 false x37 x43 fun x44 =>
 IFB x44 (B66x56 x5 x37 j40 x38 h39)
 (ADD Pr 9 true x38 (.str (nat_lit 2) (nat_lit 8233)) fun x57 =>
 j20 x57 h39)) (.int .i64 (nat_lit 0)) x36 h6
noncomputable def B66x59 (x8 : AV) (x3 : AV) (h6 : Heap) (x5 : AV) (cl : CL) (j20 : AV → Heap → Ans) (kp : KP) (fu : Nat) : Ans := EQL Pr 3 true x8 (.int .i64 (nat_lit 3)) fun x23 =>
 IFB x23 (LDN (nat_lit 2) x3 h6 fun x24 =>
 FA (nat_lit 3) x5 fun x25 =>
 LD x25 h6 fun x26 =>
 cl (nat_lit 105) [x24, x26] h6 (fun x27 h28 =>
 ADD Pr 9 true x27 (.str (nat_lit 1) (nat_lit 32)) fun x31 =>
 j20 x31 h28) kp)
 (EQL Pr 3 true x8 (.int .i64 (nat_lit 4)) fun x32 =>
 IFB x32 (B66x58 x5 h6 fu j20)
 (j20 (.str (nat_lit 0) (nat_lit 0)) h6))
noncomputable def F66 (fu : Nat) (oR : FuncId → List AV → Option AV) (cl : CL) (args : List AV) (h2 : Heap) (kr : KR) (kp : KP) : Ans := AR2 args fun x0 x1 =>
 BOX 37 x0 h2 fun x3 h4 =>
 BOX 58 x1 h4 fun x5 h6 =>
 FA (nat_lit 0) x5 fun x7 =>
 LD x7 h6 fun x8 =>
 JO (fun x9 h10 =>
 LDN (nat_lit 2) x3 h10 fun x11 =>
 FA (nat_lit 4) x5 fun x12 =>
 LD x12 h10 fun x13 =>
 cl (nat_lit 106) [x11, x13] h10 (fun x14 h15 =>
 ADD Pr 9 false x9 x14 fun x18 =>
 ADD Pr 9 true x18 (.str (nat_lit 1) (nat_lit 10)) fun x19 =>
 kr x19 h15) kp) fun j20 =>
 EQL Pr 3 true x8 (.int .i64 (nat_lit 0)) fun x21 =>
 IFB x21 (j20 (.str (nat_lit 6) (nat_lit 35520608945474)) h6)
 (EQL Pr 3 true x8 (.int .i64 (nat_lit 1)) fun x22 =>
 IFB x22 (j20 (.str (nat_lit 4) (nat_lit 541347397)) h6)
 (B66x59 x8 x3 h6 x5 cl j20 kp fu))

theorem eqF66 : F66 = fun fu oR => compF Pr fu oR 66 2 := by kernel_rfl

noncomputable def B67x45 (x32 : AV) (x2 : AV) (x28 : AV) (x16 : AV) (x27 : AV) (h33 : Heap) (x1 : AV) (j30 : AV → AV → Heap → Ans) : Ans := ADD Pr 3 false x32 x2 fun x37 =>
 OV (sliceA Pr 9 x28 none (some x37) none) fun x38 =>
 SA (nat_lit 1) x16 x27 fun x39 =>
 ST (nat_lit 1) x39 x38 h33 fun h40 =>
 LENT x1 fun x41 =>
 ADD Pr 3 false x32 x41 fun x42 =>
 OV (sliceA Pr 9 x28 (some x42) none none) fun x43 =>
 ADD Pr 3 true x27 (.int .i64 (nat_lit 1)) fun x44 =>
 j30 x44 x43 h40
noncomputable def B67x46 (x0 : AV) (x11 : AV) (h12 : Heap) (kr : KR) (fu : Nat) (cl : CL) (x1 : AV) (x2 : AV) (kp : KP) : Ans := LENT x0 fun x13 =>
 ADD Pr 3 true x13 (.int .i64 (nat_lit 1)) fun x14 =>
 OPV (builtinF .min Pr [3, 3] [x11, x14] h12) fun x15 =>
 OVH (makeSliceA Pr h12 43 x15 x15) fun x16 h17 =>
 SUB Pr 3 true x15 (.int .i64 (nat_lit 1)) fun x18 =>
 JO (fun x19 x20 h21 =>
 SA (nat_lit 1) x16 x19 fun x22 =>
 ST (nat_lit 1) x22 x20 h21 fun h23 =>
 ADD Pr 3 true x19 (.int .i64 (nat_lit 1)) fun x24 =>
 OV (sliceA Pr 43 x16 none (some x24) none) fun x25 =>
 kr x25 h23) fun j26 =>
 LP fu (fun _ _ _ => Ans.no) (fun j30 x27 x28 h29 =>
 LSS Pr 3 false x27 x18 fun x31 =>
 IFB x31 (cl (nat_lit 109) [x28, x1] h29 (fun x32 h33 =>
 LSS Pr 3 true x32 (.int .i64 (nat_lit 0)) fun x36 =>
 IFB x36 (j26 x27 x28 h33)
 (B67x45 x32 x2 x28 x16 x27 h33 x1 j30)) kp)
 (j26 x27 x28 h29)) (.int .i64 (nat_lit 0)) x0 h17
noncomputable def B67x54 (x1 : AV) (cl : CL) (x0 : AV) (x3 : AV) (h4 : Heap) (kr : KR) (kp : KP) (fu : Nat) (x2 : AV) : Ans := EQL Pr 9 true x1 (.str (nat_lit 0) (nat_lit 0)) fun x6 =>
 IFB x6 (cl (nat_lit 107) [x0, x3] h4 (fun x7 h8 =>
 kr x7 h8) kp)
 (JO (fun x11 h12 =>
 B67x46 x0 x11 h12 kr fu cl x1 x2 kp) fun j47 =>
 LSS Pr 3 true x3 (.int .i64 (nat_lit 0)) fun x48 =>
 IFB x48 (cl (nat_lit 108) [x0, x1] h4 (fun x49 h50 =>
 ADD Pr 3 true x49 (.int .i64 (nat_lit 1)) fun x53 =>
 j47 x53 h50) kp)
 (j47 x3 h4))
noncomputable def F67 (fu : Nat) (oR : FuncId → List AV → Option AV) (cl : CL) (args : List AV) (h4 : Heap) (kr : KR) (kp : KP) : Ans := AR4 args fun x0 x1 x2 x3 =>
 EQL Pr 3 true x3 (.int .i64 (nat_lit 0)) fun x5 =>
 IFB x5 (kr (.nilslice) h4)
 (B67x54 x1 cl x0 x3 h4 kr kp fu x2)

theorem eqF67 : F67 = fun fu oR => compF Pr fu oR 67 4 := by kernel_rfl

noncomputable def B68x41 (x19 : AV) (x0 : AV) (kr : KR) (cl : CL) (x24 : AV) (h25 : Heap) (kp : KP) : Ans := JO (fun x26 h27 =>
 JO (fun x28 h29 =>
 SEL x19 (.bool true) x28 fun x30 =>
 NC x0 fun x31 =>
 FA (nat_lit 4) x31 fun x32 =>
 ST (nat_lit 1) x32 x30 h29 fun h33 =>
 kr (.tuple []) h33) fun j34 =>
 GW false x19 (GTR Pr 3 true x26 (.int .i64 (nat_lit 4000)) fun x35 =>
 j34 x35 h27)
 (j34 undefA h27)) fun j36 =>
 GW false x19 (cl (nat_lit 111) [x24] h25 (fun x37 h38 =>
 j36 x37 h38) kp)
 (j36 undefA h25)
noncomputable def B68x47 (x0 : AV) (h5 : Heap) (kr : KR) (cl : CL) (kp : KP) : Ans := NC x0 fun x17 =>
 FA (nat_lit 4) x17 fun x18 =>
 LD x18 h5 fun x19 =>
 JO (fun x20 h21 =>
 JO (fun x22 h23 =>
 JO (fun x24 h25 =>
 B68x41 x19 x0 kr cl x24 h25 kp) fun j42 =>
 GW false x19 (FA (nat_lit 2) x22 fun x43 =>
 j42 x43 h23)
 (j42 undefA h23)) fun j44 =>
 GW false x19 (NC x20 fun x45 =>
 j44 x45 h21)
 (j44 undefA h21)) fun j46 =>
 GW false x19 (j46 x0 h5)
 (j46 undefA h5)
noncomputable def F68 (fu : Nat) (oR : FuncId → List AV → Option AV) (cl : CL) (args : List AV) (h2 : Heap) (kr : KR) (kp : KP) : Ans := AR2 args fun x0 x1 =>
 LENS x1 fun x3 =>
 LP fu (fun _ _ => Ans.no) (fun j6 x4 h5 =>
 LSS Pr 3 false x4 x3 fun x7 =>
 IFB x7 (SA (nat_lit 1) x1 x4 fun x8 =>
 LD x8 h5 fun x9 =>
 NC x0 fun x10 =>
 FA (nat_lit 2) x10 fun x11 =>
 cl (nat_lit 110) [x11, x9] h5 (fun x12 h13 =>
 ADD Pr 3 true x4 (.int .i64 (nat_lit 1)) fun x16 =>
 j6 x16 h13) kp)
 (B68x47 x0 h5 kr cl kp)) (.int .i64 (nat_lit 0)) h2

theorem eqF68 : F68 = fun fu oR => compF Pr fu oR 68 2 := by kernel_rfl

noncomputable def B69x42 (cl : CL) (x0 : AV) (x1 : AV) (h18 : Heap) (x17 : AV) (kr : KR) (kp : KP) : Ans := cl (nat_lit 113) [x0, x1, (.int .i64 (nat_lit 2)), (.int .i64 (nat_lit 2))] h18 (fun x22 h23 =>
 BSL (nat_lit 9) (nat_lit 1) [(.str (nat_lit 0) (nat_lit 0))] (nat_lit 1) [((nat_lit 0), (.str (nat_lit 1) (nat_lit 40)))] h23 fun x26 h27 =>
 cl (nat_lit 68) [x0, x26] h27 (fun x28 h29 =>
 cl (nat_lit 114) [x0, x22, x17] h29 (fun x32 h33 =>
 BSL (nat_lit 9) (nat_lit 1) [(.str (nat_lit 0) (nat_lit 0))] (nat_lit 1) [((nat_lit 0), (.str (nat_lit 1) (nat_lit 41)))] h33 fun x36 h37 =>
 cl (nat_lit 68) [x0, x36] h37 (fun x38 h39 =>
 kr (.tuple []) h39) kp) kp) kp) kp
noncomputable def B69x82 (x12 : AV) (h18 : Heap) (cl : CL) (x0 : AV) (j46 : Heap → Ans) (kp : KP) : Ans := FA (nat_lit 1) x12 fun x74 =>
 LD x74 h18 fun x75 =>
 BSL (nat_lit 9) (nat_lit 1) [(.str (nat_lit 0) (nat_lit 0)), (.str (nat_lit 0) (nat_lit 0)), (.str (nat_lit 0) (nat_lit 0))] (nat_lit 3) [((nat_lit 0), (.str (nat_lit 2) (nat_lit 12072))), ((nat_lit 1), x75), ((nat_lit 2), (.str (nat_lit 2) (nat_lit 10543)))] h18 fun x76 h77 =>
 cl (nat_lit 68) [x0, x76] h77 (fun x78 h79 =>
 j46  h79) kp
noncomputable def B69x113 (h18 : Heap) (cl : CL) (x0 : AV) (x1 : AV) (j46 : Heap → Ans) (kp : KP) : Ans := BSL (nat_lit 9) (nat_lit 1) [(.str (nat_lit 0) (nat_lit 0))] (nat_lit 1) [((nat_lit 0), (.str (nat_lit 2) (nat_lit 10276)))] h18 fun x93 h94 =>
 cl (nat_lit 68) [x0, x93] h94 (fun x95 h96 =>
 cl (nat_lit 113) [x0, x1, (.int .i64 (nat_lit 1)), (.int .i64 (nat_lit 1))] h96 (fun x99 h100 =>
 cl (nat_lit 114) [x0, x99, (.str (nat_lit 0) (nat_lit 0))] h100 (fun x103 h104 =>
 BSL (nat_lit 9) (nat_lit 1) [(.str (nat_lit 0) (nat_lit 0))] (nat_lit 1) [((nat_lit 0), (.str (nat_lit 1) (nat_lit 41)))] h104 fun x107 h108 =>
 cl (nat_lit 68) [x0, x107] h108 (fun x109 h110 =>
 j46  h110) kp) kp) kp) kp
noncomputable def B69x137 (x12 : AV) (h18 : Heap) (cl : CL) (x0 : AV) (x1 : AV) (j46 : Heap → Ans) (kp : KP) : Ans := FA (nat_lit 1) x12 fun x115 =>
 LD x115 h18 fun x116 =>
 BSL (nat_lit 9) (nat_lit 1) [(.str (nat_lit 0) (nat_lit 0)), (.str (nat_lit 0) (nat_lit 0))] (nat_lit 2) [((nat_lit 0), x116), ((nat_lit 1), (.str (nat_lit 1) (nat_lit 91)))] h18 fun x117 h118 =>
 cl (nat_lit 68) [x0, x117] h118 (fun x119 h120 =>
 cl (nat_lit 113) [x0, x1, (.int .i64 (nat_lit 1)), (.int .i64 (nat_lit 1))] h120 (fun x123 h124 =>
 cl (nat_lit 114) [x0, x123, (.str (nat_lit 0) (nat_lit 0))] h124 (fun x127 h128 =>
 BSL (nat_lit 9) (nat_lit 1) [(.str (nat_lit 0) (nat_lit 0))] (nat_lit 1) [((nat_lit 0), (.str (nat_lit 1) (nat_lit 93)))] h128 fun x131 h132 =>
 cl (nat_lit 68) [x0, x131] h132 (fun x133 h134 =>
 j46  h134) kp) kp) kp) kp
noncomputable def B69x161 (h18 : Heap) (cl : CL) (x0 : AV) (x1 : AV) (x12 : AV) (j46 : Heap → Ans) (kp : KP) : Ans := BSL (nat_lit 9) (nat_lit 1) [(.str (nat_lit 0) (nat_lit 0))] (nat_lit 1) [((nat_lit 0), (.str (nat_lit 1) (nat_lit 40)))] h18 fun x139 h140 =>
 cl (nat_lit 68) [x0, x139] h140 (fun x141 h142 =>
 cl (nat_lit 113) [x0, x1, (.int .i64 (nat_lit 1)), (.int .i64 (nat_lit 1))] h142 (fun x145 h146 =>
 cl (nat_lit 114) [x0, x145, (.str (nat_lit 0) (nat_lit 0))] h146 (fun x149 h150 =>
 FA (nat_lit 1) x12 fun x153 =>
 LD x153 h150 fun x154 =>
 BSL (nat_lit 9) (nat_lit 1) [(.str (nat_lit 0) (nat_lit 0)), (.str (nat_lit 0) (nat_lit 0)), (.str (nat_lit 0) (nat_lit 0))] (nat_lit 3) [((nat_lit 0), (.str (nat_lit 4) (nat_lit 544106784))), ((nat_lit 1), x154), ((nat_lit 2), (.str (nat_lit 1) (nat_lit 41)))] h150 fun x155 h156 =>
 cl (nat_lit 68) [x0, x155] h156 (fun x157 h158 =>
 j46  h158) kp) kp) kp) kp
noncomputable def B69x195 (cl : CL) (x0 : AV) (x1 : AV) (h18 : Heap) (j46 : Heap → Ans) (kp : KP) : Ans := cl (nat_lit 113) [x0, x1, (.int .i64 (nat_lit 3)), (.int .i64 (nat_lit 3))] h18 (fun x163 h164 =>
 BSL (nat_lit 9) (nat_lit 1) [(.str (nat_lit 0) (nat_lit 0))] (nat_lit 1) [((nat_lit 0), (.str (nat_lit 1) (nat_lit 40)))] h164 fun x167 h168 =>
 cl (nat_lit 68) [x0, x167] h168 (fun x169 h170 =>
 OV (sliceA Pr 90 x163 none (some (.int .i64 (nat_lit 1))) none) fun x173 =>
 cl (nat_lit 114) [x0, x173, (.str (nat_lit 0) (nat_lit 0))] h170 (fun x174 h175 =>
 BSL (nat_lit 9) (nat_lit 1) [(.str (nat_lit 0) (nat_lit 0))] (nat_lit 1) [((nat_lit 0), (.str (nat_lit 3) (nat_lit 2113312)))] h175 fun x178 h179 =>
 cl (nat_lit 68) [x0, x178] h179 (fun x180 h181 =>
 OV (sliceA Pr 90 x163 (some (.int .i64 (nat_lit 1))) none none) fun x184 =>
 cl (nat_lit 114) [x0, x184, (.str (nat_lit 3) (nat_lit 2112032))] h181 (fun x185 h186 =>
 BSL (nat_lit 9) (nat_lit 1) [(.str (nat_lit 0) (nat_lit 0))] (nat_lit 1) [((nat_lit 0), (.str (nat_lit 1) (nat_lit 41)))] h186 fun x189 h190 =>
 cl (nat_lit 68) [x0, x189] h190 (fun x191 h192 =>
 j46  h192) kp) kp) kp) kp) kp) kp
noncomputable def B69x225 (h197 : Heap) (x12 : AV) (cl : CL) (x0 : AV) (x1 : AV) (j46 : Heap → Ans) (kp : KP) : Ans := OPVH (newMap Pr 160 h197) fun x198 h199 =>
 OSK (mapUpdateA Pr h199 160 x198 (.int .i64 (nat_lit 12)) (.str (nat_lit 1) (nat_lit 33))) fun h200 =>
 OSK (mapUpdateA Pr h200 160 x198 (.int .i64 (nat_lit 25)) (.str (nat_lit 1) (nat_lit 45))) fun h201 =>
 FA (nat_lit 0) x12 fun x202 =>
 LD x202 h201 fun x203 =>
 OV (lookupA Pr h201 160 x198 x203 false) fun x204 =>
 BSL (nat_lit 9) (nat_lit 1) [(.str (nat_lit 0) (nat_lit 0)), (.str (nat_lit 0) (nat_lit 0))] (nat_lit 2) [((nat_lit 0), (.str (nat_lit 1) (nat_lit 40))), ((nat_lit 1), x204)] h201 fun x205 h206 =>
 cl (nat_lit 68) [x0, x205] h206 (fun x207 h208 =>
 cl (nat_lit 113) [x0, x1, (.int .i64 (nat_lit 1)), (.int .i64 (nat_lit 1))] h208 (fun x211 h212 =>
 cl (nat_lit 114) [x0, x211, (.str (nat_lit 0) (nat_lit 0))] h212 (fun x215 h216 =>
 BSL (nat_lit 9) (nat_lit 1) [(.str (nat_lit 0) (nat_lit 0))] (nat_lit 1) [((nat_lit 0), (.str (nat_lit 1) (nat_lit 41)))] h216 fun x219 h220 =>
 cl (nat_lit 68) [x0, x219] h220 (fun x221 h222 =>
 j46  h222) kp) kp) kp) kp
noncomputable def B69x301 (x282 : AV) (x284 : AV) (h285 : Heap) (cl : CL) (x0 : AV) (j286 : AV → Heap → Ans) (kp : KP) : Ans := SA (nat_lit 1) x282 x284 fun x288 =>
 LD x288 h285 fun x289 =>
 BSL (nat_lit 9) (nat_lit 1) [(.str (nat_lit 0) (nat_lit 0))] (nat_lit 1) [((nat_lit 0), (.str (nat_lit 2) (nat_lit 8236)))] h285 fun x290 h291 =>
 cl (nat_lit 68) [x0, x290] h291 (fun x292 h293 =>
 cl (nat_lit 69) [x0, x289] h293 (fun x296 h297 =>
 ADD Pr 3 true x284 (.int .i64 (nat_lit 1)) fun x300 =>
 j286 x300 h297) kp) kp
noncomputable def B69x308 (cl : CL) (x0 : AV) (x1 : AV) (h197 : Heap) (x12 : AV) (fu : Nat) (kp : KP) (j46 : Heap → Ans) : Ans := cl (nat_lit 113) [x0, x1, (.int .i64 (nat_lit 1)), (.int .i64 (nat_lit 2))] h197 (fun x259 h260 =>
 BSL (nat_lit 9) (nat_lit 1) [(.str (nat_lit 0) (nat_lit 0))] (nat_lit 1) [((nat_lit 0), (.str (nat_lit 6) (nat_lit 44480450031731)))] h260 fun x263 h264 =>
 cl (nat_lit 68) [x0, x263] h264 (fun x265 h266 =>
 OV (sliceA Pr 90 x259 none (some (.int .i64 (nat_lit 1))) none) fun x269 =>
 cl (nat_lit 114) [x0, x269, (.str (nat_lit 0) (nat_lit 0))] h266 (fun x270 h271 =>
 FA (nat_lit 2) x12 fun x274 =>
 LD x274 h271 fun x275 =>
 BSL (nat_lit 9) (nat_lit 1) [(.str (nat_lit 0) (nat_lit 0)), (.str (nat_lit 0) (nat_lit 0))] (nat_lit 2) [((nat_lit 0), (.str (nat_lit 2) (nat_lit 8236))), ((nat_lit 1), x275)] h271 fun x276 h277 =>
 cl (nat_lit 68) [x0, x276] h277 (fun x278 h279 =>
 OV (sliceA Pr 90 x259 (some (.int .i64 (nat_lit 1))) none none) fun x282 =>
 LENS x282 fun x283 =>
 LP fu (fun _ _ => Ans.no) (fun j286 x284 h285 =>
 LSS Pr 3 false x284 x283 fun x287 =>
 IFB x287 (B69x301 x282 x284 h285 cl x0 j286 kp)
 (BSL (nat_lit 9) (nat_lit 1) [(.str (nat_lit 0) (nat_lit 0))] (nat_lit 1) [((nat_lit 0), (.str (nat_lit 1) (nat_lit 41)))] h285 fun x302 h303 =>
 cl (nat_lit 68) [x0, x302] h303 (fun x304 h305 =>
 j46  h305) kp)) (.int .i64 (nat_lit 0)) h279) kp) kp) kp) kp
noncomputable def B69x312 (x44 : AV) (cl : CL) (x0 : AV) (x1 : AV) (h197 : Heap) (j46 : Heap → Ans) (kp : KP) (x12 : AV) (fu : Nat) : Ans := EQL Pr 3 true x44 (.int .i64 (nat_lit 32)) fun x253 =>
 IFB x253 (cl (nat_lit 117) [x0, x1, (.str (nat_lit 3) (nat_lit 7630441)), (.int .i64 (nat_lit 1)), (.int .i64 (nat_lit 1))] h197 (fun x254 h255 =>
 j46  h255) kp)
 (EQL Pr 3 true x44 (.int .i64 (nat_lit 30)) fun x258 =>
 IFB x258 (B69x308 cl x0 x1 h197 x12 fu kp j46)
 (NC x0 fun x309 =>
 FA (nat_lit 4) x309 fun x310 =>
 ST (nat_lit 1) x310 (.bool true) h197 fun h311 =>
 j46  h311))
noncomputable def B69x313 (x44 : AV) (cl : CL) (x0 : AV) (x1 : AV) (h197 : Heap) (j46 : Heap → Ans) (kp : KP) (x12 : AV) (fu : Nat) : Ans := EQL Pr 3 true x44 (.int .i64 (nat_lit 29)) fun x243 =>
 IFB x243 (cl (nat_lit 117) [x0, x1, (.str (nat_lit 5) (nat_lit 517097156201)), (.int .i64 (nat_lit 2)), (.int .i64 (nat_lit 2))] h197 (fun x244 h245 =>
 j46  h245) kp)
 (EQL Pr 3 true x44 (.int .i64 (nat_lit 31)) fun x248 =>
 IFB x248 (cl (nat_lit 117) [x0, x1, (.str (nat_lit 7) (nat_lit 32199680942501748)), (.int .i64 (nat_lit 1)), (.int .i64 (nat_lit 1))] h197 (fun x249 h250 =>
 j46  h250) kp)
 (B69x312 x44 cl x0 x1 h197 j46 kp x12 fu))
noncomputable def B69x314 (x44 : AV) (cl : CL) (x0 : AV) (x1 : AV) (h197 : Heap) (j46 : Heap → Ans) (kp : KP) (x12 : AV) (fu : Nat) : Ans := EQL Pr 3 true x44 (.int .i64 (nat_lit 27)) fun x233 =>
 IFB x233 (cl (nat_lit 117) [x0, x1, (.str (nat_lit 6) (nat_lit 114849160783212)), (.int .i64 (nat_lit 0)), (.int .i64 (nat_lit 1))] h197 (fun x234 h235 =>
 j46  h235) kp)
 (EQL Pr 3 true x44 (.int .i64 (nat_lit 28)) fun x238 =>
 IFB x238 (cl (nat_lit 117) [x0, x1, (.str (nat_lit 6) (nat_lit 125844477605235)), (.int .i64 (nat_lit 2)), (.int .i64 (nat_lit 3))] h197 (fun x239 h240 =>
 j46  h240) kp)
 (B69x313 x44 cl x0 x1 h197 j46 kp x12 fu))
noncomputable def B69x315 (x196 : AV) (h197 : Heap) (x12 : AV) (cl : CL) (x0 : AV) (x1 : AV) (j46 : Heap → Ans) (kp : KP) (x44 : AV) (fu : Nat) : Ans := IFB x196 (B69x225 h197 x12 cl x0 x1 j46 kp)
 (EQL Pr 3 true x44 (.int .i64 (nat_lit 26)) fun x226 =>
 IFB x226 (FA (nat_lit 1) x12 fun x227 =>
 LD x227 h197 fun x228 =>
 cl (nat_lit 117) [x0, x1, x228, (.int .i64 (nat_lit 0)), (.int .i64 (nat_lit 4000))] h197 (fun x229 h230 =>
 j46  h230) kp)
 (B69x314 x44 cl x0 x1 h197 j46 kp x12 fu))
noncomputable def B69x319 (x44 : AV) (cl : CL) (x0 : AV) (x1 : AV) (h18 : Heap) (j46 : Heap → Ans) (kp : KP) (x12 : AV) (fu : Nat) : Ans := EQL Pr 3 true x44 (.int .i64 (nat_lit 9)) fun x162 =>
 IFB x162 (B69x195 cl x0 x1 h18 j46 kp)
 (JO (fun x196 h197 =>
 B69x315 x196 h197 x12 cl x0 x1 j46 kp x44 fu) fun j316 =>
 EQL Pr 3 true x44 (.int .i64 (nat_lit 12)) fun x317 =>
 IFB x317 (j316 x317 h18)
 (EQL Pr 3 true x44 (.int .i64 (nat_lit 25)) fun x318 =>
 j316 x318 h18))
noncomputable def B69x320 (x44 : AV) (h18 : Heap) (cl : CL) (x0 : AV) (x1 : AV) (j46 : Heap → Ans) (kp : KP) (x12 : AV) (fu : Nat) : Ans := EQL Pr 3 true x44 (.int .i64 (nat_lit 4)) fun x92 =>
 IFB x92 (B69x113 h18 cl x0 x1 j46 kp)
 (EQL Pr 3 true x44 (.int .i64 (nat_lit 5)) fun x114 =>
 IFB x114 (B69x137 x12 h18 cl x0 x1 j46 kp)
 (EQL Pr 3 true x44 (.int .i64 (nat_lit 6)) fun x138 =>
 IFB x138 (B69x161 h18 cl x0 x1 x12 j46 kp)
 (B69x319 x44 cl x0 x1 h18 j46 kp x12 fu)))
noncomputable def B69x321 (x44 : AV) (x12 : AV) (h18 : Heap) (cl : CL) (x0 : AV) (j46 : Heap → Ans) (kp : KP) (x1 : AV) (fu : Nat) : Ans := EQL Pr 3 true x44 (.int .i64 (nat_lit 3)) fun x83 =>
 IFB x83 (FA (nat_lit 1) x12 fun x84 =>
 LD x84 h18 fun x85 =>
 BSL (nat_lit 9) (nat_lit 1) [(.str (nat_lit 0) (nat_lit 0))] (nat_lit 1) [((nat_lit 0), x85)] h18 fun x86 h87 =>
 cl (nat_lit 68) [x0, x86] h87 (fun x88 h89 =>
 j46  h89) kp)
 (B69x320 x44 h18 cl x0 x1 j46 kp x12 fu)
noncomputable def B69x322 (x44 : AV) (x12 : AV) (h18 : Heap) (cl : CL) (x0 : AV) (j46 : Heap → Ans) (kp : KP) (x1 : AV) (fu : Nat) : Ans := EQL Pr 3 true x44 (.int .i64 (nat_lit 1)) fun x60 =>
 IFB x60 (FA (nat_lit 1) x12 fun x61 =>
 LD x61 h18 fun x62 =>
 cl (nat_lit 116) [x62] h18 (fun x63 h64 =>
 BSL (nat_lit 9) (nat_lit 1) [(.str (nat_lit 0) (nat_lit 0))] (nat_lit 1) [((nat_lit 0), x63)] h64 fun x67 h68 =>
 cl (nat_lit 68) [x0, x67] h68 (fun x69 h70 =>
 j46  h70) kp) kp)
 (EQL Pr 3 true x44 (.int .i64 (nat_lit 2)) fun x73 =>
 IFB x73 (B69x82 x12 h18 cl x0 j46 kp)
 (B69x321 x44 x12 h18 cl x0 j46 kp x1 fu))
noncomputable def B69x323 (x12 : AV) (h18 : Heap) (kr : KR) (cl : CL) (x0 : AV) (kp : KP) (x1 : AV) (fu : Nat) : Ans := FA (nat_lit 0) x12 fun x43 =>
 LD x43 h18 fun x44 =>
 JO (fun h45 =>
 kr (.tuple []) h45) fun j46 =>
 EQL Pr 3 true x44 (.int .i64 (nat_lit 0)) fun x47 =>
 IFB x47 (FA (nat_lit 3) x12 fun x48 =>
 LD x48 h18 fun x49 =>
 cl (nat_lit 115) [x49] h18 (fun x50 h51 =>
 BSL (nat_lit 9) (nat_lit 1) [(.str (nat_lit 0) (nat_lit 0))] (nat_lit 1) [((nat_lit 0), x50)] h51 fun x54 h55 =>
 cl (nat_lit 68) [x0, x54] h55 (fun x56 h57 =>
 j46  h57) kp) kp)
 (B69x322 x44 x12 h18 cl x0 j46 kp x1 fu)
noncomputable def B69x324 (x0 : AV) (h2 : Heap) (x1 : AV) (cl : CL) (kr : KR) (kp : KP) (fu : Nat) : Ans := NC x0 fun x6 =>
 FA (nat_lit 0) x6 fun x7 =>
 FA (nat_lit 0) x7 fun x8 =>
 LD x8 h2 fun x9 =>
 SA (nat_lit 5) x9 x1 fun x10 =>
 LDN (nat_lit 5) x10 h2 fun x11 =>
 NEWC (.n (some (.int .i64 (nat_lit 0))) (.n (some (.str (nat_lit 0) (nat_lit 0))) (.n (some (.int .i64 (nat_lit 0))) .e .e) .e) (.n (some (.str (nat_lit 0) (nat_lit 0))) (.n (some (.nilslice)) .e .e) .e)) (nat_lit 5) 92 h2 fun x12 h13 =>
 ST (nat_lit 5) x12 x11 h13 fun h14 =>
 FA (nat_lit 0) x12 fun x15 =>
 LD x15 h14 fun x16 =>
 cl (nat_lit 112) [x16] h14 (fun x17 h18 =>
 NEQ Pr 9 true x17 (.str (nat_lit 0) (nat_lit 0)) fun x21 =>
 IFB x21 (B69x42 cl x0 x1 h18 x17 kr kp)
 (B69x323 x12 h18 kr cl x0 kp x1 fu)) kp
noncomputable def F69 (fu : Nat) (oR : FuncId → List AV → Option AV) (cl : CL) (args : List AV) (h2 : Heap) (kr : KR) (kp : KP) : Ans := AR2 args fun x0 x1 =>
 NC x0 fun x3 =>
 FA (nat_lit 4) x3 fun x4 =>
 LD x4 h2 fun x5 =>
 IFB x5 (kr (.tuple []) h2)
 (B69x324 x0 h2 x1 cl kr kp fu)

theorem eqF69 : F69 = fun fu oR => compF Pr fu oR 69 2 := by kernel_rfl

noncomputable def B70x30 (x0 : AV) (x11 : AV) (h13 : Heap) (x12 : AV) (j14 : AV → AV → Heap → Ans) (cl : CL) (kp : KP) : Ans := SA (nat_lit 1) x0 x11 fun x16 =>
 LD x16 h13 fun x17 =>
 JO (fun h18 =>
 LENT x17 fun x19 =>
 ADD Pr 3 false x12 x19 fun x20 =>
 ADD Pr 3 true x11 (.int .i64 (nat_lit 1)) fun x21 =>
 j14 x21 x20 h18) fun j22 =>
 LENT x17 fun x23 =>
 SUB Pr 3 true (.int .i64 (nat_lit 9223372036854775807)) x12 fun x24 =>
 GTR Pr 3 false x23 x24 fun x25 =>
 IFB x25 (GEN (panA (.iface (nat_lit 9) (.str (nat_lit 36) (nat_lit 232023140547069528372253906381035003553488466437483087989658184371904395368843875349619))) h13) cl (fun x26 h27 =>
 j22  h27) kp)
 (j22  h13)
noncomputable def B70x64 (x45 : AV) (x44 : AV) (x43 : AV) (h46 : Heap) (cl : CL) (x31 : AV) (x1 : AV) (j47 : AV → Heap → Ans) (kp : KP) (kr : KR) : Ans := LSS Pr 3 false x45 x44 fun x48 =>
 IFB x48 (SA (nat_lit 1) x43 x45 fun x49 =>
 LD x49 h46 fun x50 =>
 cl (nat_lit 110) [x31, x1] h46 (fun x51 h52 =>
 cl (nat_lit 110) [x31, x50] h52 (fun x55 h56 =>
 ADD Pr 3 true x45 (.int .i64 (nat_lit 1)) fun x59 =>
 j47 x59 h56) kp) kp)
 (cl (nat_lit 47) [x31] h46 (fun x60 h61 =>
 kr x60 h61) kp)
noncomputable def B70x65 (h13 : Heap) (cl : CL) (x12 : AV) (x0 : AV) (fu : Nat) (x1 : AV) (kp : KP) (kr : KR) : Ans := NEWC (.n (some (.nilp)) (.n (some (.nilslice)) .e .e) .e) (nat_lit 2) 84 h13 fun x31 h32 =>
 cl (nat_lit 118) [x31, x12] h32 (fun x33 h34 =>
 SA (nat_lit 1) x0 (.int .i64 (nat_lit 0)) fun x37 =>
 LD x37 h34 fun x38 =>
 cl (nat_lit 110) [x31, x38] h34 (fun x39 h40 =>
 OV (sliceA Pr 43 x0 (some (.int .i64 (nat_lit 1))) none none) fun x43 =>
 LENS x43 fun x44 =>
 LP fu (fun _ _ => Ans.no) (fun j47 x45 h46 =>
 B70x64 x45 x44 x43 h46 cl x31 x1 j47 kp kr) (.int .i64 (nat_lit 0)) h40) kp) kp
noncomputable def B70x85 (x1 : AV) (x0 : AV) (j66 : AV → Heap → Ans) (h2 : Heap) (cl : CL) (kp : KP) : Ans := JO (fun h69 =>
 LENT x1 fun x70 =>
 LENS x0 fun x71 =>
 SUB Pr 3 true x71 (.int .i64 (nat_lit 1)) fun x72 =>
 BOP Pr .mul 3 false x70 x72 fun x73 =>
 ADD Pr 3 false (.int .i64 (nat_lit 0)) x73 fun x74 =>
 j66 x74 h69) fun j75 =>
 LENT x1 fun x76 =>
 LENS x0 fun x77 =>
 SUB Pr 3 true x77 (.int .i64 (nat_lit 1)) fun x78 =>
 BOP Pr .quo 3 true (.int .i64 (nat_lit 9223372036854775807)) x78 fun x79 =>
 GEQ Pr 3 false x76 x79 fun x80 =>
 IFB x80 (GEN (panA (.iface (nat_lit 9) (.str (nat_lit 36) (nat_lit 232023140547069528372253906381035003553488466437483087989658184371904395368843875349619))) h2) cl (fun x81 h82 =>
 j75  h82) kp)
 (j75  h2)
noncomputable def B70x86 (x0 : AV) (fu : Nat) (cl : CL) (kp : KP) (x1 : AV) (kr : KR) (h2 : Heap) : Ans := JO (fun x8 h9 =>
 LENS x0 fun x10 =>
 LP fu (fun _ _ _ => Ans.no) (fun j14 x11 x12 h13 =>
 LSS Pr 3 false x11 x10 fun x15 =>
 IFB x15 (B70x30 x0 x11 h13 x12 j14 cl kp)
 (B70x65 h13 cl x12 x0 fu x1 kp kr)) (.int .i64 (nat_lit 0)) x8 h9) fun j66 =>
 LENT x1 fun x67 =>
 GTR Pr 3 true x67 (.int .i64 (nat_lit 0)) fun x68 =>
 IFB x68 (B70x85 x1 x0 j66 h2 cl kp)
 (j66 (.int .i64 (nat_lit 0)) h2)
noncomputable def F70 (fu : Nat) (oR : FuncId → List AV → Option AV) (cl : CL) (args : List AV) (h2 : Heap) (kr : KR) (kp : KP) : Ans := AR2 args fun x0 x1 =>
 LENS x0 fun x3 =>
 EQL Pr 3 true x3 (.int .i64 (nat_lit 0)) fun x4 =>
 IFB x4 (kr (.str (nat_lit 0) (nat_lit 0)) h2)
 (EQL Pr 3 true x3 (.int .i64 (nat_lit 1)) fun x5 =>
 IFB x5 (SA (nat_lit 1) x0 (.int .i64 (nat_lit 0)) fun x6 =>
 LD x6 h2 fun x7 =>
 kr x7 h2)
 (B70x86 x0 fu cl kp x1 kr h2))

theorem eqF70 : F70 = fun fu oR => compF Pr fu oR 70 2 := by kernel_rfl

noncomputable def B71x34 (cl : CL) (x0 : AV) (x1 : AV) (h14 : Heap) (j18 : Heap → Ans) (kp : KP) : Ans := cl (nat_lit 113) [x0, x1, (.int .i64 (nat_lit 1)), (.int .i64 (nat_lit 1))] h14 (fun x20 h21 =>
 cl (nat_lit 114) [x0, x20, (.str (nat_lit 0) (nat_lit 0))] h21 (fun x24 h25 =>
 BSL (nat_lit 9) (nat_lit 1) [(.str (nat_lit 0) (nat_lit 0))] (nat_lit 1) [((nat_lit 0), (.str (nat_lit 1) (nat_lit 59)))] h25 fun x28 h29 =>
 cl (nat_lit 68) [x0, x28] h29 (fun x30 h31 =>
 j18  h31) kp) kp) kp
noncomputable def B71x100 (x12 : AV) (h14 : Heap) (cl : CL) (x0 : AV) (x1 : AV) (j18 : Heap → Ans) (kp : KP) : Ans := FA (nat_lit 1) x12 fun x78 =>
 LD x78 h14 fun x79 =>
 BSL (nat_lit 9) (nat_lit 1) [(.str (nat_lit 0) (nat_lit 0)), (.str (nat_lit 0) (nat_lit 0)), (.str (nat_lit 0) (nat_lit 0))] (nat_lit 3) [((nat_lit 0), (.str (nat_lit 7) (nat_lit 9118749846955364))), ((nat_lit 1), x79), ((nat_lit 2), (.str (nat_lit 1) (nat_lit 91)))] h14 fun x80 h81 =>
 cl (nat_lit 68) [x0, x80] h81 (fun x82 h83 =>
 cl (nat_lit 113) [x0, x1, (.int .i64 (nat_lit 1)), (.int .i64 (nat_lit 1))] h83 (fun x86 h87 =>
 cl (nat_lit 114) [x0, x86, (.str (nat_lit 0) (nat_lit 0))] h87 (fun x90 h91 =>
 BSL (nat_lit 9) (nat_lit 1) [(.str (nat_lit 0) (nat_lit 0))] (nat_lit 1) [((nat_lit 0), (.str (nat_lit 2) (nat_lit 15197)))] h91 fun x94 h95 =>
 cl (nat_lit 68) [x0, x94] h95 (fun x96 h97 =>
 j18  h97) kp) kp) kp) kp
noncomputable def B71x149 (x130 : AV) (x132 : AV) (h133 : Heap) (cl : CL) (x0 : AV) (j134 : AV → Heap → Ans) (kp : KP) : Ans := SA (nat_lit 1) x130 x132 fun x136 =>
 LD x136 h133 fun x137 =>
 BSL (nat_lit 9) (nat_lit 1) [(.str (nat_lit 0) (nat_lit 0))] (nat_lit 1) [((nat_lit 0), (.str (nat_lit 6) (nat_lit 35620100269344)))] h133 fun x138 h139 =>
 cl (nat_lit 68) [x0, x138] h139 (fun x140 h141 =>
 cl (nat_lit 71) [x0, x137] h141 (fun x144 h145 =>
 ADD Pr 3 true x132 (.int .i64 (nat_lit 1)) fun x148 =>
 j134 x148 h145) kp) kp
noncomputable def B71x150 (cl : CL) (x0 : AV) (x1 : AV) (h14 : Heap) (fu : Nat) (kp : KP) (j18 : Heap → Ans) : Ans := cl (nat_lit 113) [x0, x1, (.int .i64 (nat_lit 2)), (.int .i64 (nat_lit 3))] h14 (fun x102 h103 =>
 BSL (nat_lit 9) (nat_lit 1) [(.str (nat_lit 0) (nat_lit 0))] (nat_lit 1) [((nat_lit 0), (.str (nat_lit 4) (nat_lit 673212009)))] h103 fun x106 h107 =>
 cl (nat_lit 68) [x0, x106] h107 (fun x108 h109 =>
 SA (nat_lit 1) x102 (.int .i64 (nat_lit 0)) fun x112 =>
 LD x112 h109 fun x113 =>
 cl (nat_lit 69) [x0, x113] h109 (fun x114 h115 =>
 BSL (nat_lit 9) (nat_lit 1) [(.str (nat_lit 0) (nat_lit 0))] (nat_lit 1) [((nat_lit 0), (.str (nat_lit 2) (nat_lit 8233)))] h115 fun x118 h119 =>
 cl (nat_lit 68) [x0, x118] h119 (fun x120 h121 =>
 SA (nat_lit 1) x102 (.int .i64 (nat_lit 1)) fun x124 =>
 LD x124 h121 fun x125 =>
 cl (nat_lit 71) [x0, x125] h121 (fun x126 h127 =>
 OV (sliceA Pr 90 x102 (some (.int .i64 (nat_lit 2))) none none) fun x130 =>
 LENS x130 fun x131 =>
 LP fu (fun _ _ => Ans.no) (fun j134 x132 h133 =>
 LSS Pr 3 false x132 x131 fun x135 =>
 IFB x135 (B71x149 x130 x132 h133 cl x0 j134 kp)
 (j18  h133)) (.int .i64 (nat_lit 0)) h127) kp) kp) kp) kp) kp
noncomputable def B71x180 (cl : CL) (x0 : AV) (x1 : AV) (h14 : Heap) (j18 : Heap → Ans) (kp : KP) : Ans := cl (nat_lit 113) [x0, x1, (.int .i64 (nat_lit 2)), (.int .i64 (nat_lit 2))] h14 (fun x152 h153 =>
 BSL (nat_lit 9) (nat_lit 1) [(.str (nat_lit 0) (nat_lit 0))] (nat_lit 1) [((nat_lit 0), (.str (nat_lit 7) (nat_lit 11294619051059319)))] h153 fun x156 h157 =>
 cl (nat_lit 68) [x0, x156] h157 (fun x158 h159 =>
 SA (nat_lit 1) x152 (.int .i64 (nat_lit 0)) fun x162 =>
 LD x162 h159 fun x163 =>
 cl (nat_lit 69) [x0, x163] h159 (fun x164 h165 =>
 BSL (nat_lit 9) (nat_lit 1) [(.str (nat_lit 0) (nat_lit 0))] (nat_lit 1) [((nat_lit 0), (.str (nat_lit 2) (nat_lit 8233)))] h165 fun x168 h169 =>
 cl (nat_lit 68) [x0, x168] h169 (fun x170 h171 =>
 SA (nat_lit 1) x152 (.int .i64 (nat_lit 1)) fun x174 =>
 LD x174 h171 fun x175 =>
 cl (nat_lit 71) [x0, x175] h171 (fun x176 h177 =>
 j18  h177) kp) kp) kp) kp) kp
noncomputable def B71x209 (cl : CL) (x0 : AV) (x1 : AV) (h14 : Heap) (j18 : Heap → Ans) (kp : KP) : Ans := cl (nat_lit 113) [x0, x1, (.int .i64 (nat_lit 4)), (.int .i64 (nat_lit 4))] h14 (fun x182 h183 =>
 BSL (nat_lit 9) (nat_lit 1) [(.str (nat_lit 0) (nat_lit 0))] (nat_lit 1) [((nat_lit 0), (.str (nat_lit 5) (nat_lit 172343062374)))] h183 fun x186 h187 =>
 cl (nat_lit 68) [x0, x186] h187 (fun x188 h189 =>
 OV (sliceA Pr 90 x182 none (some (.int .i64 (nat_lit 3))) none) fun x192 =>
 cl (nat_lit 114) [x0, x192, (.str (nat_lit 2) (nat_lit 8251))] h189 (fun x193 h194 =>
 BSL (nat_lit 9) (nat_lit 1) [(.str (nat_lit 0) (nat_lit 0))] (nat_lit 1) [((nat_lit 0), (.str (nat_lit 2) (nat_lit 8233)))] h194 fun x197 h198 =>
 cl (nat_lit 68) [x0, x197] h198 (fun x199 h200 =>
 SA (nat_lit 1) x182 (.int .i64 (nat_lit 3)) fun x203 =>
 LD x203 h200 fun x204 =>
 cl (nat_lit 71) [x0, x204] h200 (fun x205 h206 =>
 j18  h206) kp) kp) kp) kp) kp
noncomputable def B71x231 (x12 : AV) (h14 : Heap) (cl : CL) (x0 : AV) (x1 : AV) (j18 : Heap → Ans) (kp : KP) : Ans := FA (nat_lit 1) x12 fun x211 =>
 LD x211 h14 fun x212 =>
 FA (nat_lit 2) x12 fun x213 =>
 LD x213 h14 fun x214 =>
 BSL (nat_lit 9) (nat_lit 1) [(.str (nat_lit 0) (nat_lit 0)), (.str (nat_lit 0) (nat_lit 0)), (.str (nat_lit 0) (nat_lit 0)), (.str (nat_lit 0) (nat_lit 0)), (.str (nat_lit 0) (nat_lit 0))] (nat_lit 5) [((nat_lit 0), (.str (nat_lit 5) (nat_lit 172343062374))), ((nat_lit 1), x212), ((nat_lit 2), (.str (nat_lit 4) (nat_lit 544106784))), ((nat_lit 3), x214), ((nat_lit 4), (.str (nat_lit 2) (nat_lit 8233)))] h14 fun x215 h216 =>
 cl (nat_lit 68) [x0, x215] h216 (fun x217 h218 =>
 cl (nat_lit 113) [x0, x1, (.int .i64 (nat_lit 1)), (.int .i64 (nat_lit 1))] h218 (fun x221 h222 =>
 SA (nat_lit 1) x221 (.int .i64 (nat_lit 0)) fun x225 =>
 LD x225 h222 fun x226 =>
 cl (nat_lit 71) [x0, x226] h222 (fun x227 h228 =>
 j18  h228) kp) kp) kp
noncomputable def B71x264 (x242 : AV) (x247 : AV) (h248 : Heap) (cl : CL) (x0 : AV) (j249 : AV → Heap → Ans) (kp : KP) : Ans := SA (nat_lit 1) x242 x247 fun x251 =>
 LD x251 h248 fun x252 =>
 cl (nat_lit 71) [x0, x252] h248 (fun x253 h254 =>
 BSL (nat_lit 9) (nat_lit 1) [(.str (nat_lit 0) (nat_lit 0))] (nat_lit 1) [((nat_lit 0), (.str (nat_lit 1) (nat_lit 32)))] h254 fun x257 h258 =>
 cl (nat_lit 68) [x0, x257] h258 (fun x259 h260 =>
 ADD Pr 3 true x247 (.int .i64 (nat_lit 1)) fun x263 =>
 j249 x263 h260) kp) kp
noncomputable def B71x271 (h14 : Heap) (cl : CL) (x0 : AV) (x12 : AV) (x1 : AV) (fu : Nat) (kp : KP) (j18 : Heap → Ans) : Ans := BSL (nat_lit 9) (nat_lit 1) [(.str (nat_lit 0) (nat_lit 0))] (nat_lit 1) [((nat_lit 0), (.str (nat_lit 2) (nat_lit 8315)))] h14 fun x233 h234 =>
 cl (nat_lit 68) [x0, x233] h234 (fun x235 h236 =>
 FA (nat_lit 4) x12 fun x239 =>
 LD x239 h236 fun x240 =>
 LENS x240 fun x241 =>
 cl (nat_lit 113) [x0, x1, (.int .i64 (nat_lit 0)), x241] h236 (fun x242 h243 =>
 LENS x242 fun x246 =>
 LP fu (fun _ _ => Ans.no) (fun j249 x247 h248 =>
 LSS Pr 3 false x247 x246 fun x250 =>
 IFB x250 (B71x264 x242 x247 h248 cl x0 j249 kp)
 (BSL (nat_lit 9) (nat_lit 1) [(.str (nat_lit 0) (nat_lit 0))] (nat_lit 1) [((nat_lit 0), (.str (nat_lit 1) (nat_lit 125)))] h248 fun x265 h266 =>
 cl (nat_lit 68) [x0, x265] h266 (fun x267 h268 =>
 j18  h268) kp)) (.int .i64 (nat_lit 0)) h243) kp) kp
noncomputable def B71x275 (x16 : AV) (x12 : AV) (h14 : Heap) (cl : CL) (x0 : AV) (x1 : AV) (j18 : Heap → Ans) (kp : KP) (fu : Nat) : Ans := EQL Pr 3 true x16 (.int .i64 (nat_lit 46)) fun x210 =>
 IFB x210 (B71x231 x12 h14 cl x0 x1 j18 kp)
 (EQL Pr 3 true x16 (.int .i64 (nat_lit 53)) fun x232 =>
 IFB x232 (B71x271 h14 cl x0 x12 x1 fu kp j18)
 (NC x0 fun x272 =>
 FA (nat_lit 4) x272 fun x273 =>
 ST (nat_lit 1) x273 (.bool true) h14 fun h274 =>
 j18  h274))
noncomputable def B71x276 (x16 : AV) (cl : CL) (x0 : AV) (x1 : AV) (h14 : Heap) (fu : Nat) (kp : KP) (j18 : Heap → Ans) (x12 : AV) : Ans := EQL Pr 3 true x16 (.int .i64 (nat_lit 43)) fun x101 =>
 IFB x101 (B71x150 cl x0 x1 h14 fu kp j18)
 (EQL Pr 3 true x16 (.int .i64 (nat_lit 44)) fun x151 =>
 IFB x151 (B71x180 cl x0 x1 h14 j18 kp)
 (EQL Pr 3 true x16 (.int .i64 (nat_lit 45)) fun x181 =>
 IFB x181 (B71x209 cl x0 x1 h14 j18 kp)
 (B71x275 x16 x12 h14 cl x0 x1 j18 kp fu)))
noncomputable def B71x277 (x16 : AV) (cl : CL) (x0 : AV) (x1 : AV) (h14 : Heap) (j18 : Heap → Ans) (kp : KP) (x12 : AV) (fu : Nat) : Ans := EQL Pr 3 true x16 (.int .i64 (nat_lit 49)) fun x72 =>
 IFB x72 (cl (nat_lit 119) [x0, x1, (.str (nat_lit 4) (nat_lit 1954047342)), (.int .i64 (nat_lit 0)), (.int .i64 (nat_lit 0))] h14 (fun x73 h74 =>
 j18  h74) kp)
 (EQL Pr 3 true x16 (.int .i64 (nat_lit 52)) fun x77 =>
 IFB x77 (B71x100 x12 h14 cl x0 x1 j18 kp)
 (B71x276 x16 cl x0 x1 h14 fu kp j18 x12))
noncomputable def B71x278 (x16 : AV) (cl : CL) (x0 : AV) (x1 : AV) (h14 : Heap) (j18 : Heap → Ans) (kp : KP) (x12 : AV) (fu : Nat) : Ans := EQL Pr 3 true x16 (.int .i64 (nat_lit 47)) fun x62 =>
 IFB x62 (cl (nat_lit 119) [x0, x1, (.str (nat_lit 5) (nat_lit 461195539042)), (.int .i64 (nat_lit 0)), (.int .i64 (nat_lit 0))] h14 (fun x63 h64 =>
 j18  h64) kp)
 (EQL Pr 3 true x16 (.int .i64 (nat_lit 48)) fun x67 =>
 IFB x67 (cl (nat_lit 119) [x0, x1, (.str (nat_lit 8) (nat_lit 7310870969309884259)), (.int .i64 (nat_lit 0)), (.int .i64 (nat_lit 0))] h14 (fun x68 h69 =>
 j18  h69) kp)
 (B71x277 x16 cl x0 x1 h14 j18 kp x12 fu))
noncomputable def B71x279 (x16 : AV) (cl : CL) (x0 : AV) (x1 : AV) (h14 : Heap) (j18 : Heap → Ans) (kp : KP) (x12 : AV) (fu : Nat) : Ans := EQL Pr 3 true x16 (.int .i64 (nat_lit 50)) fun x52 =>
 IFB x52 (cl (nat_lit 119) [x0, x1, (.str (nat_lit 4) (nat_lit 1953069157)), (.int .i64 (nat_lit 0)), (.int .i64 (nat_lit 1))] h14 (fun x53 h54 =>
 j18  h54) kp)
 (EQL Pr 3 true x16 (.int .i64 (nat_lit 51)) fun x57 =>
 IFB x57 (cl (nat_lit 119) [x0, x1, (.str (nat_lit 6) (nat_lit 121437875889522)), (.int .i64 (nat_lit 0)), (.int .i64 (nat_lit 1))] h14 (fun x58 h59 =>
 j18  h59) kp)
 (B71x278 x16 cl x0 x1 h14 j18 kp x12 fu))
noncomputable def B71x280 (x16 : AV) (x12 : AV) (h14 : Heap) (cl : CL) (x0 : AV) (x1 : AV) (j18 : Heap → Ans) (kp : KP) (fu : Nat) : Ans := EQL Pr 3 true x16 (.int .i64 (nat_lit 42)) fun x43 =>
 IFB x43 (FA (nat_lit 4) x12 fun x44 =>
 LD x44 h14 fun x45 =>
 LENS x45 fun x46 =>
 OPV (builtinF .max Pr [3, 3] [(.int .i64 (nat_lit 1)), x46] h14) fun x47 =>
 cl (nat_lit 119) [x0, x1, (.str (nat_lit 6) (nat_lit 112650254643824)), (.int .i64 (nat_lit 1)), x47] h14 (fun x48 h49 =>
 j18  h49) kp)
 (B71x279 x16 cl x0 x1 h14 j18 kp x12 fu)
noncomputable def B71x281 (x16 : AV) (x12 : AV) (h14 : Heap) (cl : CL) (x0 : AV) (x1 : AV) (j18 : Heap → Ans) (kp : KP) (fu : Nat) : Ans := EQL Pr 3 true x16 (.int .i64 (nat_lit 41)) fun x35 =>
 IFB x35 (FA (nat_lit 4) x12 fun x36 =>
 LD x36 h14 fun x37 =>
 LENS x37 fun x38 =>
 cl (nat_lit 119) [x0, x1, (.str (nat_lit 5) (nat_lit 500068610672)), (.int .i64 (nat_lit 0)), x38] h14 (fun x39 h40 =>
 j18  h40) kp)
 (B71x280 x16 x12 h14 cl x0 x1 j18 kp fu)
noncomputable def B71x282 (x0 : AV) (h2 : Heap) (x1 : AV) (kr : KR) (cl : CL) (kp : KP) (fu : Nat) : Ans := NC x0 fun x6 =>
 FA (nat_lit 0) x6 fun x7 =>
 FA (nat_lit 0) x7 fun x8 =>
 LD x8 h2 fun x9 =>
 SA (nat_lit 5) x9 x1 fun x10 =>
 LDN (nat_lit 5) x10 h2 fun x11 =>
 NEWC (.n (some (.int .i64 (nat_lit 0))) (.n (some (.str (nat_lit 0) (nat_lit 0))) (.n (some (.int .i64 (nat_lit 0))) .e .e) .e) (.n (some (.str (nat_lit 0) (nat_lit 0))) (.n (some (.nilslice)) .e .e) .e)) (nat_lit 5) 92 h2 fun x12 h13 =>
 ST (nat_lit 5) x12 x11 h13 fun h14 =>
 FA (nat_lit 0) x12 fun x15 =>
 LD x15 h14 fun x16 =>
 JO (fun h17 =>
 kr (.tuple []) h17) fun j18 =>
 EQL Pr 3 true x16 (.int .i64 (nat_lit 40)) fun x19 =>
 IFB x19 (B71x34 cl x0 x1 h14 j18 kp)
 (B71x281 x16 x12 h14 cl x0 x1 j18 kp fu)
noncomputable def F71 (fu : Nat) (oR : FuncId → List AV → Option AV) (cl : CL) (args : List AV) (h2 : Heap) (kr : KR) (kp : KP) : Ans := AR2 args fun x0 x1 =>
 NC x0 fun x3 =>
 FA (nat_lit 4) x3 fun x4 =>
 LD x4 h2 fun x5 =>
 IFB x5 (kr (.tuple []) h2)
 (B71x282 x0 h2 x1 kr cl kp fu)

theorem eqF71 : F71 = fun fu oR => compF Pr fu oR 71 2 := by kernel_rfl

noncomputable def B72x63 (x35 : AV) (x10 : AV) (h47 : Heap) (x45 : AV) (x11 : AV) (cl : CL) (x7 : AV) (j19 : AV → AV → Heap → Ans) (kp : KP) : Ans := FA (nat_lit 3) x35 fun x49 =>
 ST (nat_lit 1) x49 x10 h47 fun h50 =>
 LDN (nat_lit 4) x35 h50 fun x51 =>
 LDN (nat_lit 4) x35 h50 fun x52 =>
 ADD Pr 3 false x10 x45 fun x53 =>
 BSL (nat_lit 114) (nat_lit 4) [(.int .i64 (nat_lit 0)), (.str (nat_lit 0) (nat_lit 0)), (.int .i64 (nat_lit 0)), (.int .i64 (nat_lit 0))] (nat_lit 1) [((nat_lit 0), x51)] h50 fun x54 h55 =>
 LDN (nat_lit 4) x35 h55 fun x56 =>
 EQV x52 x56 <|
 GEN (builtinF .append Pr [106, 106] [x11, x54] h55) cl (fun x57 h58 =>
 LDN (nat_lit 4) x35 h58 fun x61 =>
 EQV x52 x61 <|
 ST (nat_lit 4) x7 x52 h58 fun h62 =>
 j19 x53 x57 h62) kp
noncomputable def B72x64 (x0 : AV) (x10 : AV) (x7 : AV) (h22 : Heap) (cl : CL) (kr : KR) (x11 : AV) (j19 : AV → AV → Heap → Ans) (kp : KP) : Ans := OV (sliceA Pr 9 x0 (some x10) none none) fun x33 =>
 LDN (nat_lit 4) x7 h22 fun x34 =>
 NEWC (.n (some (.int .i64 (nat_lit 0))) (.n (some (.str (nat_lit 0) (nat_lit 0))) (.n (some (.int .i64 (nat_lit 0))) .e .e) .e) (.n (some (.int .i64 (nat_lit 0))) .e .e)) (nat_lit 4) 114 h22 fun x35 h36 =>
 NEWB h22 h36 fun b37 i38 h39 =>
 cl (nat_lit 123) [x33, x34] h39 (fun x40 h41 =>
 EX (nat_lit 0) x40 fun x44 =>
 EX (nat_lit 1) x40 fun x45 =>
 SETB h41 i38 b37 fun h46 =>
 ST (nat_lit 4) x35 x44 h46 fun h47 =>
 EQL Pr 3 true x45 (.int .i64 (nat_lit 0)) fun x48 =>
 IFB x48 (kr (.tuple [(.nilslice), x10]) h47)
 (B72x63 x35 x10 h47 x45 x11 cl x7 j19 kp)) kp
noncomputable def B72x65 (j13 : AV → AV → Heap → Ans) (x0 : AV) (x10 : AV) (cl : CL) (h12 : Heap) (x11 : AV) (kp : KP) (x7 : AV) (kr : KR) : Ans := JO (fun x16 x17 h18 =>
 j13 x16 x17 h18) fun j19 =>
 SAT x0 x10 fun x20 =>
 cl (nat_lit 120) [x20] h12 (fun x21 h22 =>
 IFB x21 (ADD Pr 3 true x10 (.int .i64 (nat_lit 1)) fun x25 =>
 j19 x25 x11 h22)
 (SAT x0 x10 fun x26 =>
 EQL Pr 5 true x26 (.int .u8 (nat_lit 35)) fun x27 =>
 IFB x27 (cl (nat_lit 121) [x0, x10, (.func (.func 122) [] [])] h22 (fun x28 h29 =>
 ADD Pr 3 false x10 x28 fun x32 =>
 j19 x32 x11 h29) kp)
 (B72x64 x0 x10 x7 h22 cl kr x11 j19 kp))) kp
noncomputable def B72x66 (h1 : Heap) (fu : Nat) (x0 : AV) (cl : CL) (kp : KP) (kr : KR) : Ans := BSL (nat_lit 114) (nat_lit 4) [] (nat_lit 0) [] h1 fun x4 h5 =>
 OV (buildA Pr 114 []) fun x6 =>
 NEWC (.n (some (.int .i64 (nat_lit 0))) (.n (some (.str (nat_lit 0) (nat_lit 0))) (.n (some (.int .i64 (nat_lit 0))) .e .e) .e) (.n (some (.int .i64 (nat_lit 0))) .e .e)) (nat_lit 4) 114 h5 fun x7 h8 =>
 ST (nat_lit 4) x7 x6 h8 fun h9 =>
 LP fu (fun _ _ _ => Ans.no) (fun j13 x10 x11 h12 =>
 LENT x0 fun x14 =>
 LSS Pr 3 false x10 x14 fun x15 =>
 IFB x15 (B72x65 j13 x0 x10 cl h12 x11 kp x7 kr)
 (kr (.tuple [x11, (.int .i64 (nat_lit 18446744073709551615))]) h12)) (.int .i64 (nat_lit 0)) x4 h9
noncomputable def F72 (fu : Nat) (oR : FuncId → List AV → Option AV) (cl : CL) (args : List AV) (h1 : Heap) (kr : KR) (kp : KP) : Ans := AR1 args fun x0 =>
 LENT x0 fun x2 =>
 GTR Pr 3 true x2 (.int .i64 (nat_lit 4000)) fun x3 =>
 IFB x3 (kr (.tuple [(.nilslice), (.int .i64 (nat_lit 0))]) h1)
 (B72x66 h1 fu x0 cl kp kr)

theorem eqF72 : F72 = fun fu oR => compF Pr fu oR 72 1 := by kernel_rfl

noncomputable def B74x32 (x0 : AV) (h2 : Heap) (cl : CL) (j3 : Heap → Ans) (kp : KP) : Ans := NC x0 fun x12 =>
 FA (nat_lit 4) x12 fun x13 =>
 FA (nat_lit 1) x13 fun x14 =>
 LD x14 h2 fun x15 =>
 cl (nat_lit 124) [x0] h2 (fun x16 h17 =>
 LD x14 h17 fun x20 =>
 EQV x15 x20 <|
 BSL (nat_lit 58) (nat_lit 5) [(.int .i64 (nat_lit 0)), (.str (nat_lit 0) (nat_lit 0)), (.nilslice), (.int .i64 (nat_lit 0)), (.int .i64 (nat_lit 0))] (nat_lit 1) [((nat_lit 0), x16)] h17 fun x21 h22 =>
 LD x14 h22 fun x23 =>
 EQV x15 x23 <|
 GEN (builtinF .append Pr [35, 35] [x15, x21] h22) cl (fun x24 h25 =>
 NC x0 fun x28 =>
 FA (nat_lit 4) x28 fun x29 =>
 FA (nat_lit 1) x29 fun x30 =>
 ST (nat_lit 1) x30 x24 h25 fun h31 =>
 j3  h31) kp) kp
noncomputable def F74 (fu : Nat) (oR : FuncId → List AV → Option AV) (cl : CL) (args : List AV) (h1 : Heap) (kr : KR) (kp : KP) : Ans := AR1 args fun x0 =>
 LP fu (fun _ => Ans.no) (fun j3 h2 =>
 NC x0 fun x4 =>
 FA (nat_lit 1) x4 fun x5 =>
 LD x5 h2 fun x6 =>
 NC x0 fun x7 =>
 FA (nat_lit 0) x7 fun x8 =>
 LD x8 h2 fun x9 =>
 LENS x9 fun x10 =>
 LSS Pr 3 false x6 x10 fun x11 =>
 IFB x11 (B74x32 x0 h2 cl j3 kp)
 (kr (.tuple []) h2))  h1

theorem eqF74 : F74 = fun fu oR => compF Pr fu oR 74 1 := by kernel_rfl

noncomputable def F75 (fu : Nat) (oR : FuncId → List AV → Option AV) (cl : CL) (args : List AV) (h2 : Heap) (kr : KR) (kp : KP) : Ans := AR2 args fun x0 x1 =>
 LENS x0 fun x3 =>
 LP fu (fun _ _ => Ans.no) (fun j6 x4 h5 =>
 LSS Pr 3 false x4 x3 fun x7 =>
 IFB x7 (SA (nat_lit 1) x0 x4 fun x8 =>
 LD x8 h5 fun x9 =>
 EQL Pr 3 false x1 x9 fun x10 =>
 IFB x10 (kr x4 h5)
 (ADD Pr 3 true x4 (.int .i64 (nat_lit 1)) fun x11 =>
 j6 x11 h5))
 (kr (.int .i64 (nat_lit 18446744073709551615)) h5)) (.int .i64 (nat_lit 0)) h2

theorem eqF75 : F75 = fun fu oR => compF Pr fu oR 75 2 := by kernel_rfl

noncomputable def B77x48 (x9 : AV) (h11 : Heap) (x0 : AV) (cl : CL) (x3 : AV) (kr : KR) (kp : KP) : Ans := FA (nat_lit 1) x9 fun x33 =>
 LD x33 h11 fun x34 =>
 NC x0 fun x35 =>
 FA (nat_lit 6) x35 fun x36 =>
 LD x36 h11 fun x37 =>
 cl (nat_lit 129) [x34, x37, (.int .i64 (nat_lit 11))] h11 (fun x38 h39 =>
 cl (nat_lit 128) [x38] h39 (fun x42 h43 =>
 ST (nat_lit 3) x3 x42 h43 fun h46 =>
 LDN (nat_lit 3) x3 h46 fun x47 =>
 kr x47 h46) kp) kp
noncomputable def B77x81 (x9 : AV) (h11 : Heap) (cl : CL) (x0 : AV) (x3 : AV) (kr : KR) (kp : KP) : Ans := FA (nat_lit 4) x9 fun x63 =>
 LD x63 h11 fun x64 =>
 SA (nat_lit 1) x64 (.int .i64 (nat_lit 0)) fun x65 =>
 LD x65 h11 fun x66 =>
 cl (nat_lit 77) [x0, x66] h11 (fun x67 h68 =>
 cl (nat_lit 133) [x67] h68 (fun x71 h72 =>
 cl (nat_lit 132) [x0, x71] h72 (fun x75 h76 =>
 ST (nat_lit 3) x3 x75 h76 fun h79 =>
 LDN (nat_lit 3) x3 h79 fun x80 =>
 kr x80 h79) kp) kp) kp
noncomputable def B77x107 (x9 : AV) (h11 : Heap) (cl : CL) (x0 : AV) (x1 : AV) (x3 : AV) (kr : KR) (kp : KP) : Ans := FA (nat_lit 4) x9 fun x83 =>
 LD x83 h11 fun x84 =>
 SA (nat_lit 1) x84 (.int .i64 (nat_lit 0)) fun x85 =>
 LD x85 h11 fun x86 =>
 cl (nat_lit 77) [x0, x86] h11 (fun x87 h88 =>
 cl (nat_lit 134) [x87] h88 (fun x91 h92 =>
 FA (nat_lit 1) x9 fun x95 =>
 LD x95 h92 fun x96 =>
 cl (nat_lit 131) [x0, x1, x96] h92 (fun x97 h98 =>
 cl (nat_lit 135) [x0, x97, x91] h98 (fun x101 h102 =>
 ST (nat_lit 3) x3 x101 h102 fun h105 =>
 LDN (nat_lit 3) x3 h105 fun x106 =>
 kr x106 h105) kp) kp) kp) kp
noncomputable def B77x143 (x9 : AV) (h11 : Heap) (cl : CL) (x0 : AV) (x1 : AV) (x3 : AV) (kr : KR) (kp : KP) : Ans := FA (nat_lit 4) x9 fun x109 =>
 LD x109 h11 fun x110 =>
 SA (nat_lit 1) x110 (.int .i64 (nat_lit 0)) fun x111 =>
 LD x111 h11 fun x112 =>
 cl (nat_lit 77) [x0, x112] h11 (fun x113 h114 =>
 cl (nat_lit 134) [x113] h114 (fun x117 h118 =>
 FA (nat_lit 1) x9 fun x121 =>
 LD x121 h118 fun x122 =>
 cl (nat_lit 131) [x0, x1, x122] h118 (fun x123 h124 =>
 cl (nat_lit 136) [x0, x123] h124 (fun x127 h128 =>
 OV (lookupA Pr h128 177 x127 x117 true) fun x131 =>
 EX (nat_lit 0) x131 fun x132 =>
 EX (nat_lit 1) x131 fun x133 =>
 NEWC (.n (some (.int .i64 (nat_lit 0))) (.n (some (.int .i64 (nat_lit 0))) .e .e) (.n (some (.str (nat_lit 0) (nat_lit 0))) .e .e)) (nat_lit 3) 54 h128 fun x134 h135 =>
 ST (nat_lit 3) x134 x132 h135 fun h136 =>
 cl (nat_lit 128) [x133] h136 (fun x137 h138 =>
 ST (nat_lit 3) x3 x137 h138 fun h141 =>
 LDN (nat_lit 3) x3 h141 fun x142 =>
 kr x142 h141) kp) kp) kp) kp) kp
noncomputable def B77x172 (x9 : AV) (h11 : Heap) (cl : CL) (x0 : AV) (x3 : AV) (kr : KR) (kp : KP) : Ans := FA (nat_lit 4) x9 fun x145 =>
 LD x145 h11 fun x146 =>
 SA (nat_lit 1) x146 (.int .i64 (nat_lit 0)) fun x147 =>
 LD x147 h11 fun x148 =>
 cl (nat_lit 137) [x0, x148] h11 (fun x149 h150 =>
 NEWC (.n (some (.int .i64 (nat_lit 0))) (.n (some (.str (nat_lit 0) (nat_lit 0))) (.n (some (.int .i64 (nat_lit 0))) .e .e) (.n (some (.int .i64 (nat_lit 0))) .e .e)) (.n (some (.str (nat_lit 0) (nat_lit 0))) (.n (some (.str (nat_lit 0) (nat_lit 0))) .e .e) .e)) (nat_lit 6) 180 h150 fun x153 h154 =>
 ST (nat_lit 6) x153 x149 h154 fun h155 =>
 LDN (nat_lit 6) x153 h155 fun x156 =>
 FA (nat_lit 4) x9 fun x157 =>
 LD x157 h155 fun x158 =>
 SA (nat_lit 1) x158 (.int .i64 (nat_lit 1)) fun x159 =>
 LD x159 h155 fun x160 =>
 cl (nat_lit 77) [x0, x160] h155 (fun x161 h162 =>
 LDN (nat_lit 6) x153 h162 fun x165 =>
 EQV x156 x165 <|
 cl (nat_lit 138) [x0, x156, x161] h162 (fun x166 h167 =>
 ST (nat_lit 3) x3 x166 h167 fun h170 =>
 LDN (nat_lit 3) x3 h170 fun x171 =>
 kr x171 h170) kp) kp) kp
noncomputable def B77x216 (x9 : AV) (h11 : Heap) (cl : CL) (x0 : AV) (x3 : AV) (kr : KR) (kp : KP) : Ans := FA (nat_lit 4) x9 fun x174 =>
 LD x174 h11 fun x175 =>
 SA (nat_lit 1) x175 (.int .i64 (nat_lit 0)) fun x176 =>
 LD x176 h11 fun x177 =>
 cl (nat_lit 137) [x0, x177] h11 (fun x178 h179 =>
 NEWC (.n (some (.int .i64 (nat_lit 0))) (.n (some (.str (nat_lit 0) (nat_lit 0))) (.n (some (.int .i64 (nat_lit 0))) .e .e) (.n (some (.int .i64 (nat_lit 0))) .e .e)) (.n (some (.str (nat_lit 0) (nat_lit 0))) (.n (some (.str (nat_lit 0) (nat_lit 0))) .e .e) .e)) (nat_lit 6) 180 h179 fun x182 h183 =>
 ST (nat_lit 6) x182 x178 h183 fun h184 =>
 LDN (nat_lit 6) x182 h184 fun x185 =>
 cl (nat_lit 139) [x0, x185] h184 (fun x186 h187 =>
 NEWC (.n (some (.int .i64 (nat_lit 0))) (.n (some (.int .i64 (nat_lit 0))) .e .e) (.n (some (.str (nat_lit 0) (nat_lit 0))) .e .e)) (nat_lit 3) 54 h187 fun x190 h191 =>
 ST (nat_lit 3) x190 x186 h191 fun h192 =>
 LDN (nat_lit 6) x182 h192 fun x193 =>
 LDN (nat_lit 3) x190 h192 fun x194 =>
 FA (nat_lit 4) x9 fun x195 =>
 LD x195 h192 fun x196 =>
 SA (nat_lit 1) x196 (.int .i64 (nat_lit 1)) fun x197 =>
 LD x197 h192 fun x198 =>
 cl (nat_lit 77) [x0, x198] h192 (fun x199 h200 =>
 LDN (nat_lit 3) x190 h200 fun x203 =>
 EQV x194 x203 <|
 LDN (nat_lit 6) x182 h200 fun x204 =>
 EQV x193 x204 <|
 cl (nat_lit 140) [(.int .i64 (nat_lit 20)), x194, x199] h200 (fun x205 h206 =>
 LDN (nat_lit 6) x182 h206 fun x209 =>
 EQV x193 x209 <|
 cl (nat_lit 138) [x0, x193, x205] h206 (fun x210 h211 =>
 ST (nat_lit 3) x3 x210 h211 fun h214 =>
 LDN (nat_lit 3) x3 h214 fun x215 =>
 kr x215 h214) kp) kp) kp) kp) kp
noncomputable def B77x250 (x9 : AV) (h11 : Heap) (cl : CL) (x0 : AV) (x3 : AV) (kr : KR) (kp : KP) : Ans := FA (nat_lit 4) x9 fun x218 =>
 LD x218 h11 fun x219 =>
 SA (nat_lit 1) x219 (.int .i64 (nat_lit 0)) fun x220 =>
 LD x220 h11 fun x221 =>
 cl (nat_lit 77) [x0, x221] h11 (fun x222 h223 =>
 cl (nat_lit 78) [x222] h223 (fun x226 h227 =>
 IFB x226 (FA (nat_lit 4) x9 fun x230 =>
 LD x230 h227 fun x231 =>
 SA (nat_lit 1) x231 (.int .i64 (nat_lit 1)) fun x232 =>
 LD x232 h227 fun x233 =>
 cl (nat_lit 77) [x0, x233] h227 (fun x234 h235 =>
 ST (nat_lit 3) x3 x234 h235 fun h238 =>
 LDN (nat_lit 3) x3 h238 fun x239 =>
 kr x239 h238) kp)
 (FA (nat_lit 4) x9 fun x240 =>
 LD x240 h227 fun x241 =>
 SA (nat_lit 1) x241 (.int .i64 (nat_lit 2)) fun x242 =>
 LD x242 h227 fun x243 =>
 cl (nat_lit 77) [x0, x243] h227 (fun x244 h245 =>
 ST (nat_lit 3) x3 x244 h245 fun h248 =>
 LDN (nat_lit 3) x3 h248 fun x249 =>
 kr x249 h248) kp)) kp) kp
noncomputable def B77x290 (x260 : AV) (cl : CL) (x3 : AV) (kr : KR) (kp : KP) (x274 : AV) (h275 : Heap) : Ans := JO (fun x276 h277 =>
 SEL x260 (.bool true) x276 fun x278 =>
 cl (nat_lit 128) [x278] h277 (fun x279 h280 =>
 ST (nat_lit 3) x3 x279 h280 fun h283 =>
 LDN (nat_lit 3) x3 h283 fun x284 =>
 kr x284 h283) kp) fun j285 =>
 GW false x260 (cl (nat_lit 78) [x274] h275 (fun x286 h287 =>
 j285 x286 h287) kp)
 (j285 undefA h275)
noncomputable def B77x300 (x260 : AV) (cl : CL) (x3 : AV) (kr : KR) (kp : KP) (x264 : AV) (x268 : AV) (h269 : Heap) : Ans := JO (fun x270 h271 =>
 JO (fun x272 h273 =>
 JO (fun x274 h275 =>
 B77x290 x260 cl x3 kr kp x274 h275) fun j291 =>
 GW false x260 (cl (nat_lit 77) [x264, x272] h273 (fun x292 h293 =>
 j291 x292 h293) kp)
 (j291 undefA h273)) fun j296 =>
 GW false x260 (LD x270 h271 fun x297 =>
 j296 x297 h271)
 (j296 undefA h271)) fun j298 =>
 GW false x260 (SA (nat_lit 1) x268 (.int .i64 (nat_lit 1)) fun x299 =>
 j298 x299 h269)
 (j298 undefA h269)
noncomputable def B77x306 (x9 : AV) (h11 : Heap) (cl : CL) (x0 : AV) (x3 : AV) (kr : KR) (kp : KP) : Ans := FA (nat_lit 4) x9 fun x252 =>
 LD x252 h11 fun x253 =>
 SA (nat_lit 1) x253 (.int .i64 (nat_lit 0)) fun x254 =>
 LD x254 h11 fun x255 =>
 cl (nat_lit 77) [x0, x255] h11 (fun x256 h257 =>
 cl (nat_lit 78) [x256] h257 (fun x260 h261 =>
 JO (fun x264 h265 =>
 JO (fun x266 h267 =>
 JO (fun x268 h269 =>
 B77x300 x260 cl x3 kr kp x264 x268 h269) fun j301 =>
 GW false x260 (LD x266 h267 fun x302 =>
 j301 x302 h267)
 (j301 undefA h267)) fun j303 =>
 GW false x260 (FA (nat_lit 4) x9 fun x304 =>
 j303 x304 h265)
 (j303 undefA h265)) fun j305 =>
 GW false x260 (j305 x0 h261)
 (j305 undefA h261)) kp) kp
noncomputable def B77x346 (x316 : AV) (cl : CL) (x3 : AV) (kr : KR) (kp : KP) (x330 : AV) (h331 : Heap) : Ans := JO (fun x332 h333 =>
 SEL x316 x332 (.bool false) fun x334 =>
 cl (nat_lit 128) [x334] h333 (fun x335 h336 =>
 ST (nat_lit 3) x3 x335 h336 fun h339 =>
 LDN (nat_lit 3) x3 h339 fun x340 =>
 kr x340 h339) kp) fun j341 =>
 GW true x316 (cl (nat_lit 78) [x330] h331 (fun x342 h343 =>
 j341 x342 h343) kp)
 (j341 undefA h331)
noncomputable def B77x356 (x316 : AV) (cl : CL) (x3 : AV) (kr : KR) (kp : KP) (x320 : AV) (x324 : AV) (h325 : Heap) : Ans := JO (fun x326 h327 =>
 JO (fun x328 h329 =>
 JO (fun x330 h331 =>
 B77x346 x316 cl x3 kr kp x330 h331) fun j347 =>
 GW true x316 (cl (nat_lit 77) [x320, x328] h329 (fun x348 h349 =>
 j347 x348 h349) kp)
 (j347 undefA h329)) fun j352 =>
 GW true x316 (LD x326 h327 fun x353 =>
 j352 x353 h327)
 (j352 undefA h327)) fun j354 =>
 GW true x316 (SA (nat_lit 1) x324 (.int .i64 (nat_lit 1)) fun x355 =>
 j354 x355 h325)
 (j354 undefA h325)
noncomputable def B77x362 (x9 : AV) (h11 : Heap) (cl : CL) (x0 : AV) (x3 : AV) (kr : KR) (kp : KP) : Ans := FA (nat_lit 4) x9 fun x308 =>
 LD x308 h11 fun x309 =>
 SA (nat_lit 1) x309 (.int .i64 (nat_lit 0)) fun x310 =>
 LD x310 h11 fun x311 =>
 cl (nat_lit 77) [x0, x311] h11 (fun x312 h313 =>
 cl (nat_lit 78) [x312] h313 (fun x316 h317 =>
 JO (fun x320 h321 =>
 JO (fun x322 h323 =>
 JO (fun x324 h325 =>
 B77x356 x316 cl x3 kr kp x320 x324 h325) fun j357 =>
 GW true x316 (LD x322 h323 fun x358 =>
 j357 x358 h323)
 (j357 undefA h323)) fun j359 =>
 GW true x316 (FA (nat_lit 4) x9 fun x360 =>
 j359 x360 h321)
 (j359 undefA h321)) fun j361 =>
 GW true x316 (j361 x0 h317)
 (j361 undefA h317)) kp) kp
noncomputable def B77x383 (x9 : AV) (h11 : Heap) (cl : CL) (x0 : AV) (x3 : AV) (kr : KR) (kp : KP) : Ans := FA (nat_lit 4) x9 fun x364 =>
 LD x364 h11 fun x365 =>
 SA (nat_lit 1) x365 (.int .i64 (nat_lit 0)) fun x366 =>
 LD x366 h11 fun x367 =>
 cl (nat_lit 77) [x0, x367] h11 (fun x368 h369 =>
 cl (nat_lit 78) [x368] h369 (fun x372 h373 =>
 OV (unOpA .not x372) fun x376 =>
 cl (nat_lit 128) [x376] h373 (fun x377 h378 =>
 ST (nat_lit 3) x3 x377 h378 fun h381 =>
 LDN (nat_lit 3) x3 h381 fun x382 =>
 kr x382 h381) kp) kp) kp
noncomputable def B77x435 (x408 : AV) (h414 : Heap) (x9 : AV) (cl : CL) (x394 : AV) (x3 : AV) (kr : KR) (kp : KP) : Ans := FA (nat_lit 1) x408 fun x418 =>
 LD x418 h414 fun x419 =>
 FA (nat_lit 0) x9 fun x420 =>
 LD x420 h414 fun x421 =>
 EQL Pr 3 true x421 (.int .i64 (nat_lit 13)) fun x422 =>
 cl (nat_lit 129) [x419, x394, (.int .i64 (nat_lit 11))] h414 (fun x423 h424 =>
 LD x420 h424 fun x427 =>
 EQV x421 x427 <|
 EQL Pr 4 false x423 x422 fun x428 =>
 cl (nat_lit 128) [x428] h424 (fun x429 h430 =>
 ST (nat_lit 3) x3 x429 h430 fun h433 =>
 LDN (nat_lit 3) x3 h433 fun x434 =>
 kr x434 h433) kp) kp
noncomputable def B77x465 (x9 : AV) (h414 : Heap) (cl : CL) (x0 : AV) (x394 : AV) (x3 : AV) (kr : KR) (kp : KP) : Ans := FA (nat_lit 4) x9 fun x436 =>
 LD x436 h414 fun x437 =>
 SA (nat_lit 1) x437 (.int .i64 (nat_lit 1)) fun x438 =>
 LD x438 h414 fun x439 =>
 FA (nat_lit 0) x9 fun x440 =>
 LD x440 h414 fun x441 =>
 EQL Pr 3 true x441 (.int .i64 (nat_lit 13)) fun x442 =>
 cl (nat_lit 77) [x0, x439] h414 (fun x443 h444 =>
 LD x440 h444 fun x447 =>
 EQV x441 x447 <|
 cl (nat_lit 134) [x443] h444 (fun x448 h449 =>
 LD x440 h449 fun x452 =>
 EQV x441 x452 <|
 cl (nat_lit 129) [x448, x394, (.int .i64 (nat_lit 4))] h449 (fun x453 h454 =>
 LD x440 h454 fun x457 =>
 EQV x441 x457 <|
 EQL Pr 4 false x453 x442 fun x458 =>
 cl (nat_lit 128) [x458] h454 (fun x459 h460 =>
 ST (nat_lit 3) x3 x459 h460 fun h463 =>
 LDN (nat_lit 3) x3 h463 fun x464 =>
 kr x464 h463) kp) kp) kp) kp
noncomputable def B77x466 (x9 : AV) (h385 : Heap) (cl : CL) (x0 : AV) (x3 : AV) (kr : KR) (kp : KP) : Ans := FA (nat_lit 4) x9 fun x386 =>
 LD x386 h385 fun x387 =>
 SA (nat_lit 1) x387 (.int .i64 (nat_lit 0)) fun x388 =>
 LD x388 h385 fun x389 =>
 cl (nat_lit 77) [x0, x389] h385 (fun x390 h391 =>
 cl (nat_lit 134) [x390] h391 (fun x394 h395 =>
 NC x0 fun x398 =>
 FA (nat_lit 0) x398 fun x399 =>
 FA (nat_lit 0) x399 fun x400 =>
 LD x400 h395 fun x401 =>
 FA (nat_lit 4) x9 fun x402 =>
 LD x402 h395 fun x403 =>
 SA (nat_lit 1) x403 (.int .i64 (nat_lit 1)) fun x404 =>
 LD x404 h395 fun x405 =>
 SA (nat_lit 5) x401 x405 fun x406 =>
 LDN (nat_lit 5) x406 h395 fun x407 =>
 NEWC (.n (some (.int .i64 (nat_lit 0))) (.n (some (.str (nat_lit 0) (nat_lit 0))) (.n (some (.int .i64 (nat_lit 0))) .e .e) .e) (.n (some (.str (nat_lit 0) (nat_lit 0))) (.n (some (.nilslice)) .e .e) .e)) (nat_lit 5) 92 h395 fun x408 h409 =>
 LDN (nat_lit 5) x406 h409 fun x410 =>
 EQV x407 x410 <|
 LD x404 h409 fun x411 =>
 EQV x405 x411 <|
 LD x402 h409 fun x412 =>
 EQV x403 x412 <|
 LD x400 h409 fun x413 =>
 EQV x401 x413 <|
 ST (nat_lit 5) x408 x407 h409 fun h414 =>
 FA (nat_lit 0) x408 fun x415 =>
 LD x415 h414 fun x416 =>
 EQL Pr 3 true x416 (.int .i64 (nat_lit 2)) fun x417 =>
 IFB x417 (B77x435 x408 h414 x9 cl x394 x3 kr kp)
 (B77x465 x9 h414 cl x0 x394 x3 kr kp)) kp) kp
noncomputable def B77x482 (x13 : AV) (x9 : AV) (h385 : Heap) (cl : CL) (x0 : AV) (x3 : AV) (kr : KR) (kp : KP) (x1 : AV) : Ans := EQL Pr 3 true x13 (.int .i64 (nat_lit 26)) fun x467 =>
 IFB x467 (LDN (nat_lit 5) x9 h385 fun x468 =>
 cl (nat_lit 141) [x0, x468] h385 (fun x469 h470 =>
 ST (nat_lit 3) x3 x469 h470 fun h473 =>
 LDN (nat_lit 3) x3 h473 fun x474 =>
 kr x474 h473) kp)
 (LDN (nat_lit 5) x9 h385 fun x475 =>
 cl (nat_lit 142) [x0, x1, x475] h385 (fun x476 h477 =>
 ST (nat_lit 3) x3 x476 h477 fun h480 =>
 LDN (nat_lit 3) x3 h480 fun x481 =>
 kr x481 h480) kp)
noncomputable def B77x486 (x13 : AV) (x9 : AV) (h11 : Heap) (cl : CL) (x0 : AV) (x3 : AV) (kr : KR) (kp : KP) (x1 : AV) : Ans := EQL Pr 3 true x13 (.int .i64 (nat_lit 12)) fun x363 =>
 IFB x363 (B77x383 x9 h11 cl x0 x3 kr kp)
 (JO (fun x384 h385 =>
 IFB x384 (B77x466 x9 h385 cl x0 x3 kr kp)
 (B77x482 x13 x9 h385 cl x0 x3 kr kp x1)) fun j483 =>
 EQL Pr 3 true x13 (.int .i64 (nat_lit 13)) fun x484 =>
 IFB x484 (j483 x484 h11)
 (EQL Pr 3 true x13 (.int .i64 (nat_lit 14)) fun x485 =>
 j483 x485 h11))
noncomputable def B77x487 (x13 : AV) (x9 : AV) (h11 : Heap) (cl : CL) (x0 : AV) (x3 : AV) (kr : KR) (kp : KP) (x1 : AV) : Ans := EQL Pr 3 true x13 (.int .i64 (nat_lit 9)) fun x217 =>
 IFB x217 (B77x250 x9 h11 cl x0 x3 kr kp)
 (EQL Pr 3 true x13 (.int .i64 (nat_lit 10)) fun x251 =>
 IFB x251 (B77x306 x9 h11 cl x0 x3 kr kp)
 (EQL Pr 3 true x13 (.int .i64 (nat_lit 11)) fun x307 =>
 IFB x307 (B77x362 x9 h11 cl x0 x3 kr kp)
 (B77x486 x13 x9 h11 cl x0 x3 kr kp x1)))
noncomputable def B77x488 (x13 : AV) (x9 : AV) (h11 : Heap) (cl : CL) (x0 : AV) (x1 : AV) (x3 : AV) (kr : KR) (kp : KP) : Ans := EQL Pr 3 true x13 (.int .i64 (nat_lit 6)) fun x108 =>
 IFB x108 (B77x143 x9 h11 cl x0 x1 x3 kr kp)
 (EQL Pr 3 true x13 (.int .i64 (nat_lit 7)) fun x144 =>
 IFB x144 (B77x172 x9 h11 cl x0 x3 kr kp)
 (EQL Pr 3 true x13 (.int .i64 (nat_lit 8)) fun x173 =>
 IFB x173 (B77x216 x9 h11 cl x0 x3 kr kp)
 (B77x487 x13 x9 h11 cl x0 x3 kr kp x1)))
noncomputable def B77x489 (x13 : AV) (x9 : AV) (h11 : Heap) (cl : CL) (x0 : AV) (x1 : AV) (x3 : AV) (kr : KR) (kp : KP) : Ans := EQL Pr 3 true x13 (.int .i64 (nat_lit 3)) fun x49 =>
 IFB x49 (FA (nat_lit 1) x9 fun x50 =>
 LD x50 h11 fun x51 =>
 cl (nat_lit 131) [x0, x1, x51] h11 (fun x52 h53 =>
 cl (nat_lit 130) [x0, x52] h53 (fun x56 h57 =>
 ST (nat_lit 3) x3 x56 h57 fun h60 =>
 LDN (nat_lit 3) x3 h60 fun x61 =>
 kr x61 h60) kp) kp)
 (EQL Pr 3 true x13 (.int .i64 (nat_lit 4)) fun x62 =>
 IFB x62 (B77x81 x9 h11 cl x0 x3 kr kp)
 (EQL Pr 3 true x13 (.int .i64 (nat_lit 5)) fun x82 =>
 IFB x82 (B77x107 x9 h11 cl x0 x1 x3 kr kp)
 (B77x488 x13 x9 h11 cl x0 x1 x3 kr kp)))
noncomputable def B77x490 (x13 : AV) (x9 : AV) (h11 : Heap) (cl : CL) (x3 : AV) (kr : KR) (kp : KP) (x0 : AV) (x1 : AV) : Ans := EQL Pr 3 true x13 (.int .i64 (nat_lit 1)) fun x23 =>
 IFB x23 (FA (nat_lit 1) x9 fun x24 =>
 LD x24 h11 fun x25 =>
 cl (nat_lit 127) [x25] h11 (fun x26 h27 =>
 ST (nat_lit 3) x3 x26 h27 fun h30 =>
 LDN (nat_lit 3) x3 h30 fun x31 =>
 kr x31 h30) kp)
 (EQL Pr 3 true x13 (.int .i64 (nat_lit 2)) fun x32 =>
 IFB x32 (B77x48 x9 h11 x0 cl x3 kr kp)
 (B77x489 x13 x9 h11 cl x0 x1 x3 kr kp))
noncomputable def F77 (fu : Nat) (oR : FuncId → List AV → Option AV) (cl : CL) (args : List AV) (h2 : Heap) (kr : KR) (kp : KP) : Ans := AR2 args fun x0 x1 =>
 NEWC (.n (some (.int .i64 (nat_lit 0))) (.n (some (.int .i64 (nat_lit 0))) .e .e) (.n (some (.str (nat_lit 0) (nat_lit 0))) .e .e)) (nat_lit 3) 54 h2 fun x3 h4 =>
 cl (nat_lit 125) [x0, x1] h4 (fun x5 h6 =>
 NEWC (.n (some (.int .i64 (nat_lit 0))) (.n (some (.str (nat_lit 0) (nat_lit 0))) (.n (some (.int .i64 (nat_lit 0))) .e .e) .e) (.n (some (.str (nat_lit 0) (nat_lit 0))) (.n (some (.nilslice)) .e .e) .e)) (nat_lit 5) 92 h6 fun x9 h10 =>
 ST (nat_lit 5) x9 x5 h10 fun h11 =>
 FA (nat_lit 0) x9 fun x12 =>
 LD x12 h11 fun x13 =>
 EQL Pr 3 true x13 (.int .i64 (nat_lit 0)) fun x14 =>
 IFB x14 (FA (nat_lit 3) x9 fun x15 =>
 LD x15 h11 fun x16 =>
 cl (nat_lit 126) [x16] h11 (fun x17 h18 =>
 ST (nat_lit 3) x3 x17 h18 fun h21 =>
 LDN (nat_lit 3) x3 h21 fun x22 =>
 kr x22 h21) kp)
 (B77x490 x13 x9 h11 cl x3 kr kp x0 x1)) kp

theorem eqF77 : F77 = fun fu oR => compF Pr fu oR 77 2 := by kernel_rfl

noncomputable def B80x30 (x18 : AV) (x17 : AV) (x16 : AV) (h19 : Heap) (cl : CL) (x0 : AV) (kr : KR) (j20 : AV → Heap → Ans) (kp : KP) (j13 : Heap → Ans) : Ans := LSS Pr 3 false x18 x17 fun x21 =>
 IFB x21 (SA (nat_lit 1) x16 x18 fun x22 =>
 LD x22 h19 fun x23 =>
 cl (nat_lit 80) [x0, x23] h19 (fun x24 h25 =>
 NEQ Pr 3 true x24 (.int .i64 (nat_lit 0)) fun x28 =>
 IFB x28 (kr x24 h25)
 (ADD Pr 3 true x18 (.int .i64 (nat_lit 1)) fun x29 =>
 j20 x29 h25)) kp)
 (j13  h19)
noncomputable def B80x73 (x7 : AV) (h50 : Heap) (cl : CL) (x0 : AV) (kr : KR) (kp : KP) (j13 : Heap → Ans) : Ans := FA (nat_lit 4) x7 fun x61 =>
 LD x61 h50 fun x62 =>
 LENS x62 fun x63 =>
 EQL Pr 3 true x63 (.int .i64 (nat_lit 3)) fun x64 =>
 IFB x64 (FA (nat_lit 4) x7 fun x65 =>
 LD x65 h50 fun x66 =>
 SA (nat_lit 1) x66 (.int .i64 (nat_lit 2)) fun x67 =>
 LD x67 h50 fun x68 =>
 cl (nat_lit 80) [x0, x68] h50 (fun x69 h70 =>
 kr x69 h70) kp)
 (j13  h50)
noncomputable def B80x74 (x7 : AV) (h9 : Heap) (cl : CL) (x0 : AV) (kr : KR) (kp : KP) (j13 : Heap → Ans) : Ans := FA (nat_lit 4) x7 fun x41 =>
 LD x41 h9 fun x42 =>
 SA (nat_lit 1) x42 (.int .i64 (nat_lit 0)) fun x43 =>
 LD x43 h9 fun x44 =>
 cl (nat_lit 77) [x0, x44] h9 (fun x45 h46 =>
 cl (nat_lit 78) [x45] h46 (fun x49 h50 =>
 IFB x49 (FA (nat_lit 4) x7 fun x53 =>
 LD x53 h50 fun x54 =>
 SA (nat_lit 1) x54 (.int .i64 (nat_lit 1)) fun x55 =>
 LD x55 h50 fun x56 =>
 cl (nat_lit 80) [x0, x56] h50 (fun x57 h58 =>
 kr x57 h58) kp)
 (B80x73 x7 h50 cl x0 kr kp j13)) kp) kp
noncomputable def B80x100 (x7 : AV) (h76 : Heap) (cl : CL) (x0 : AV) (kr : KR) (j77 : Heap → Ans) (kp : KP) (j13 : Heap → Ans) : Ans := FA (nat_lit 4) x7 fun x78 =>
 LD x78 h76 fun x79 =>
 SA (nat_lit 1) x79 (.int .i64 (nat_lit 0)) fun x80 =>
 LD x80 h76 fun x81 =>
 cl (nat_lit 77) [x0, x81] h76 (fun x82 h83 =>
 cl (nat_lit 78) [x82] h83 (fun x86 h87 =>
 IFB x86 (FA (nat_lit 4) x7 fun x90 =>
 LD x90 h87 fun x91 =>
 SA (nat_lit 1) x91 (.int .i64 (nat_lit 1)) fun x92 =>
 LD x92 h87 fun x93 =>
 cl (nat_lit 143) [x0, x93] h87 (fun x94 h95 =>
 EX (nat_lit 0) x94 fun x98 =>
 EX (nat_lit 1) x94 fun x99 =>
 IFB x98 (kr x99 h95)
 (j77  h95)) kp)
 (j13  h87)) kp) kp
noncomputable def B80x142 (x7 : AV) (h121 : Heap) (cl : CL) (x0 : AV) (kr : KR) (j111 : Heap → Ans) (kp : KP) : Ans := FA (nat_lit 4) x7 fun x124 =>
 LD x124 h121 fun x125 =>
 SA (nat_lit 1) x125 (.int .i64 (nat_lit 3)) fun x126 =>
 LD x126 h121 fun x127 =>
 cl (nat_lit 143) [x0, x127] h121 (fun x128 h129 =>
 EX (nat_lit 0) x128 fun x132 =>
 EX (nat_lit 1) x128 fun x133 =>
 IFB x132 (kr x133 h129)
 (FA (nat_lit 4) x7 fun x134 =>
 LD x134 h129 fun x135 =>
 SA (nat_lit 1) x135 (.int .i64 (nat_lit 2)) fun x136 =>
 LD x136 h129 fun x137 =>
 cl (nat_lit 77) [x0, x137] h129 (fun x138 h139 =>
 j111  h139) kp)) kp
noncomputable def B80x143 (x7 : AV) (h9 : Heap) (cl : CL) (x0 : AV) (fu : Nat) (kr : KR) (kp : KP) (j13 : Heap → Ans) : Ans := FA (nat_lit 4) x7 fun x102 =>
 LD x102 h9 fun x103 =>
 SA (nat_lit 1) x103 (.int .i64 (nat_lit 0)) fun x104 =>
 LD x104 h9 fun x105 =>
 cl (nat_lit 77) [x0, x105] h9 (fun x106 h107 =>
 LP fu (fun _ => Ans.no) (fun j111 h110 =>
 FA (nat_lit 4) x7 fun x112 =>
 LD x112 h110 fun x113 =>
 SA (nat_lit 1) x113 (.int .i64 (nat_lit 1)) fun x114 =>
 LD x114 h110 fun x115 =>
 cl (nat_lit 77) [x0, x115] h110 (fun x116 h117 =>
 cl (nat_lit 78) [x116] h117 (fun x120 h121 =>
 IFB x120 (B80x142 x7 h121 cl x0 kr j111 kp)
 (j13  h121)) kp) kp)  h107) kp
noncomputable def B80x208 (x159 : AV) (x180 : AV) (h181 : Heap) (x7 : AV) (cl : CL) (x0 : AV) (x1 : AV) (kr : KR) (j182 : AV → Heap → Ans) (kp : KP) : Ans := SA (nat_lit 1) x159 x180 fun x184 =>
 LD x184 h181 fun x185 =>
 FA (nat_lit 1) x7 fun x186 =>
 LD x186 h181 fun x187 =>
 cl (nat_lit 131) [x0, x1, x187] h181 (fun x188 h189 =>
 OV (buildA Pr 54 [((nat_lit 0), (.int .i64 (nat_lit 2))), ((nat_lit 2), x185)]) fun x192 =>
 cl (nat_lit 145) [x0, x188, x192] h189 (fun x193 h194 =>
 FA (nat_lit 4) x7 fun x197 =>
 LD x197 h194 fun x198 =>
 SA (nat_lit 1) x198 (.int .i64 (nat_lit 0)) fun x199 =>
 LD x199 h194 fun x200 =>
 cl (nat_lit 143) [x0, x200] h194 (fun x201 h202 =>
 EX (nat_lit 0) x201 fun x205 =>
 EX (nat_lit 1) x201 fun x206 =>
 IFB x205 (kr x206 h202)
 (ADD Pr 3 true x180 (.int .i64 (nat_lit 1)) fun x207 =>
 j182 x207 h202)) kp) kp) kp
noncomputable def B80x209 (h160 : Heap) (x157 : AV) (cl : CL) (x159 : AV) (j161 : AV → Heap → Ans) (kp : KP) (fu : Nat) (x7 : AV) (x0 : AV) (x1 : AV) (kr : KR) (j13 : Heap → Ans) : Ans := GEN (nextA h160 x157 false) cl (fun x162 h163 =>
 EX (nat_lit 0) x162 fun x166 =>
 IFB x166 (OV (entryA h163 x157) fun x167 =>
 EX (nat_lit 0) x167 fun x168 =>
 BSL (nat_lit 9) (nat_lit 1) [(.str (nat_lit 0) (nat_lit 0))] (nat_lit 1) [((nat_lit 0), x168)] h163 fun x169 h170 =>
 GEN (builtinF .append Pr [43, 43] [x159, x169] h170) cl (fun x171 h172 =>
 j161 x171 h172) kp)
 (cl (nat_lit 144) [x159] h163 (fun x175 h176 =>
 LENS x159 fun x179 =>
 LP fu (fun _ _ => Ans.no) (fun j182 x180 h181 =>
 LSS Pr 3 false x180 x179 fun x183 =>
 IFB x183 (B80x208 x159 x180 h181 x7 cl x0 x1 kr j182 kp)
 (j13  h181)) (.int .i64 (nat_lit 0)) h176) kp)) kp
noncomputable def B80x210 (h9 : Heap) (x7 : AV) (cl : CL) (x0 : AV) (x1 : AV) (fu : Nat) (kp : KP) (kr : KR) (j13 : Heap → Ans) : Ans := BSL (nat_lit 9) (nat_lit 1) [] (nat_lit 0) [] h9 fun x145 h146 =>
 FA (nat_lit 2) x7 fun x147 =>
 LD x147 h146 fun x148 =>
 cl (nat_lit 131) [x0, x1, x148] h146 (fun x149 h150 =>
 cl (nat_lit 136) [x0, x149] h150 (fun x153 h154 =>
 OVH (rangeA Pr h154 177 x153) fun x157 h158 =>
 LP fu (fun _ _ => Ans.no) (fun j161 x159 h160 =>
 B80x209 h160 x157 cl x159 j161 kp fu x7 x0 x1 kr j13) x145 h158) kp) kp
noncomputable def B80x237 (x7 : AV) (h9 : Heap) (cl : CL) (x0 : AV) (j216 : Heap → Ans) (kp : KP) : Ans := FA (nat_lit 4) x7 fun x221 =>
 LD x221 h9 fun x222 =>
 SA (nat_lit 1) x222 (.int .i64 (nat_lit 0)) fun x223 =>
 LD x223 h9 fun x224 =>
 cl (nat_lit 77) [x0, x224] h9 (fun x225 h226 =>
 cl (nat_lit 133) [x225] h226 (fun x229 h230 =>
 NC x0 fun x233 =>
 FA (nat_lit 12) x233 fun x234 =>
 FA (nat_lit 1) x234 fun x235 =>
 ST (nat_lit 1) x235 x229 h230 fun h236 =>
 j216  h236) kp) kp
noncomputable def B80x262 (h9 : Heap) (x0 : AV) (kr : KR) (x7 : AV) (cl : CL) (kp : KP) : Ans := OV (buildA Pr 54 []) fun x239 =>
 NEWC (.n (some (.int .i64 (nat_lit 0))) (.n (some (.int .i64 (nat_lit 0))) .e .e) (.n (some (.str (nat_lit 0) (nat_lit 0))) .e .e)) (nat_lit 3) 54 h9 fun x240 h241 =>
 ST (nat_lit 3) x240 x239 h241 fun h242 =>
 JO (fun h243 =>
 LDN (nat_lit 3) x240 h243 fun x244 =>
 NC x0 fun x245 =>
 FA (nat_lit 9) x245 fun x246 =>
 ST (nat_lit 3) x246 x244 h243 fun h247 =>
 kr (.int .i64 (nat_lit 3)) h247) fun j248 =>
 FA (nat_lit 4) x7 fun x249 =>
 LD x249 h242 fun x250 =>
 LENS x250 fun x251 =>
 GTR Pr 3 true x251 (.int .i64 (nat_lit 0)) fun x252 =>
 IFB x252 (FA (nat_lit 4) x7 fun x253 =>
 LD x253 h242 fun x254 =>
 SA (nat_lit 1) x254 (.int .i64 (nat_lit 0)) fun x255 =>
 LD x255 h242 fun x256 =>
 cl (nat_lit 77) [x0, x256] h242 (fun x257 h258 =>
 ST (nat_lit 3) x240 x257 h258 fun h261 =>
 j248  h261) kp)
 (j248  h242)
noncomputable def B80x290 (x7 : AV) (h9 : Heap) (cl : CL) (x0 : AV) (x1 : AV) (j13 : Heap → Ans) (kp : KP) : Ans := FA (nat_lit 4) x7 fun x264 =>
 LD x264 h9 fun x265 =>
 SA (nat_lit 1) x265 (.int .i64 (nat_lit 0)) fun x266 =>
 LD x266 h9 fun x267 =>
 cl (nat_lit 77) [x0, x267] h9 (fun x268 h269 =>
 cl (nat_lit 134) [x268] h269 (fun x272 h273 =>
 FA (nat_lit 1) x7 fun x276 =>
 LD x276 h273 fun x277 =>
 cl (nat_lit 131) [x0, x1, x277] h273 (fun x278 h279 =>
 cl (nat_lit 136) [x0, x278] h279 (fun x282 h283 =>
 GEN (builtinF .delete Pr [177, 9] [x282, x272] h283) cl (fun x286 h287 =>
 j13  h287) kp) kp) kp) kp) kp
noncomputable def B80x319 (x295 : AV) (x297 : AV) (h299 : Heap) (cl : CL) (x0 : AV) (x298 : AV) (j300 : AV → AV → Heap → Ans) (kp : KP) : Ans := SA (nat_lit 1) x295 x297 fun x302 =>
 LD x302 h299 fun x303 =>
 cl (nat_lit 77) [x0, x303] h299 (fun x304 h305 =>
 cl (nat_lit 134) [x304] h305 (fun x308 h309 =>
 BSL (nat_lit 9) (nat_lit 1) [(.str (nat_lit 0) (nat_lit 0))] (nat_lit 1) [((nat_lit 0), x308)] h309 fun x312 h313 =>
 GEN (builtinF .append Pr [43, 43] [x298, x312] h313) cl (fun x314 h315 =>
 ADD Pr 3 true x297 (.int .i64 (nat_lit 1)) fun x318 =>
 j300 x318 x314 h315) kp) kp) kp
noncomputable def B80x341 (cl : CL) (x0 : AV) (j13 : Heap → Ans) (kp : KP) (x7 : AV) (h299 : Heap) (x298 : AV) : Ans := JO (fun x320 h321 =>
 cl (nat_lit 70) [x320, (.str (nat_lit 1) (nat_lit 32))] h321 (fun x322 h323 =>
 ADD Pr 9 true x322 (.str (nat_lit 1) (nat_lit 10)) fun x326 =>
 cl (nat_lit 146) [x0, x326] h323 (fun x327 h328 =>
 j13  h328) kp) kp) fun j331 =>
 FA (nat_lit 4) x7 fun x332 =>
 LD x332 h299 fun x333 =>
 LENS x333 fun x334 =>
 EQL Pr 3 true x334 (.int .i64 (nat_lit 0)) fun x335 =>
 IFB x335 (NC x0 fun x336 =>
 FA (nat_lit 6) x336 fun x337 =>
 LD x337 h299 fun x338 =>
 BSL (nat_lit 9) (nat_lit 1) [(.str (nat_lit 0) (nat_lit 0))] (nat_lit 1) [((nat_lit 0), x338)] h299 fun x339 h340 =>
 j331 x339 h340)
 (j331 x298 h299)
noncomputable def B80x342 (h9 : Heap) (x7 : AV) (fu : Nat) (cl : CL) (x0 : AV) (kp : KP) (j13 : Heap → Ans) : Ans := BSL (nat_lit 9) (nat_lit 1) [] (nat_lit 0) [] h9 fun x292 h293 =>
 FA (nat_lit 4) x7 fun x294 =>
 LD x294 h293 fun x295 =>
 LENS x295 fun x296 =>
 LP fu (fun _ _ _ => Ans.no) (fun j300 x297 x298 h299 =>
 LSS Pr 3 false x297 x296 fun x301 =>
 IFB x301 (B80x319 x295 x297 h299 cl x0 x298 j300 kp)
 (B80x341 cl x0 j13 kp x7 h299 x298)) (.int .i64 (nat_lit 0)) x292 h293
noncomputable def B80x367 (x347 : AV) (x349 : AV) (h351 : Heap) (cl : CL) (x0 : AV) (x350 : AV) (j352 : AV → AV → Heap → Ans) (kp : KP) : Ans := SA (nat_lit 1) x347 x349 fun x354 =>
 LD x354 h351 fun x355 =>
 cl (nat_lit 77) [x0, x355] h351 (fun x356 h357 =>
 BSL (nat_lit 54) (nat_lit 3) [(.int .i64 (nat_lit 0)), (.int .i64 (nat_lit 0)), (.str (nat_lit 0) (nat_lit 0))] (nat_lit 1) [((nat_lit 0), x356)] h357 fun x360 h361 =>
 GEN (builtinF .append Pr [189, 189] [x350, x360] h361) cl (fun x362 h363 =>
 ADD Pr 3 true x349 (.int .i64 (nat_lit 1)) fun x366 =>
 j352 x366 x362 h363) kp) kp
noncomputable def B80x401 (x350 : AV) (h351 : Heap) (cl : CL) (x0 : AV) (j13 : Heap → Ans) (kp : KP) : Ans := SA (nat_lit 3) x350 (.int .i64 (nat_lit 0)) fun x368 =>
 LDN (nat_lit 3) x368 h351 fun x369 =>
 OV (sliceA Pr 189 x350 (some (.int .i64 (nat_lit 1))) none none) fun x370 =>
 cl (nat_lit 134) [x369] h351 (fun x371 h372 =>
 cl (nat_lit 147) [x371, x370] h372 (fun x375 h376 =>
 EX (nat_lit 0) x375 fun x379 =>
 EX (nat_lit 1) x375 fun x380 =>
 JO (fun h381 =>
 cl (nat_lit 146) [x0, x379] h381 (fun x382 h383 =>
 j13  h383) kp) fun j386 =>
 JO (fun x387 h388 =>
 IFB x387 (GEN (panA (.iface (nat_lit 71) (.int .i64 (nat_lit 10))) h388) cl (fun x389 h390 =>
 j386  h390) kp)
 (EQL Pr 3 true x380 (.int .i64 (nat_lit 3)) fun x393 =>
 IFB x393 (GEN (panA (.iface (nat_lit 71) (.int .i64 (nat_lit 5))) h388) cl (fun x394 h395 =>
 j386  h395) kp)
 (j386  h388))) fun j398 =>
 EQL Pr 3 true x380 (.int .i64 (nat_lit 1)) fun x399 =>
 IFB x399 (j398 x399 h376)
 (EQL Pr 3 true x380 (.int .i64 (nat_lit 2)) fun x400 =>
 j398 x400 h376)) kp) kp
noncomputable def B80x402 (h9 : Heap) (x7 : AV) (fu : Nat) (cl : CL) (x0 : AV) (kp : KP) (j13 : Heap → Ans) : Ans := BSL (nat_lit 54) (nat_lit 3) [] (nat_lit 0) [] h9 fun x344 h345 =>
 FA (nat_lit 4) x7 fun x346 =>
 LD x346 h345 fun x347 =>
 LENS x347 fun x348 =>
 LP fu (fun _ _ _ => Ans.no) (fun j352 x349 x350 h351 =>
 LSS Pr 3 false x349 x348 fun x353 =>
 IFB x353 (B80x367 x347 x349 h351 cl x0 x350 j352 kp)
 (B80x401 x350 h351 cl x0 j13 kp)) (.int .i64 (nat_lit 0)) x344 h345
noncomputable def B80x403 (x11 : AV) (x7 : AV) (h9 : Heap) (cl : CL) (x0 : AV) (x1 : AV) (j13 : Heap → Ans) (kp : KP) (fu : Nat) : Ans := EQL Pr 3 true x11 (.int .i64 (nat_lit 52)) fun x263 =>
 IFB x263 (B80x290 x7 h9 cl x0 x1 j13 kp)
 (EQL Pr 3 true x11 (.int .i64 (nat_lit 41)) fun x291 =>
 IFB x291 (B80x342 h9 x7 fu cl x0 kp j13)
 (EQL Pr 3 true x11 (.int .i64 (nat_lit 42)) fun x343 =>
 IFB x343 (B80x402 h9 x7 fu cl x0 kp j13)
 (j13  h9)))
noncomputable def B80x404 (x11 : AV) (kr : KR) (x7 : AV) (h9 : Heap) (cl : CL) (x0 : AV) (kp : KP) (x1 : AV) (j13 : Heap → Ans) (fu : Nat) : Ans := EQL Pr 3 true x11 (.int .i64 (nat_lit 50)) fun x214 =>
 IFB x214 (JO (fun h215 =>
 kr (.int .i64 (nat_lit 5)) h215) fun j216 =>
 FA (nat_lit 4) x7 fun x217 =>
 LD x217 h9 fun x218 =>
 LENS x218 fun x219 =>
 GTR Pr 3 true x219 (.int .i64 (nat_lit 0)) fun x220 =>
 IFB x220 (B80x237 x7 h9 cl x0 j216 kp)
 (j216  h9))
 (EQL Pr 3 true x11 (.int .i64 (nat_lit 51)) fun x238 =>
 IFB x238 (B80x262 h9 x0 kr x7 cl kp)
 (B80x403 x11 x7 h9 cl x0 x1 j13 kp fu))
noncomputable def B80x405 (x11 : AV) (kr : KR) (h9 : Heap) (x7 : AV) (cl : CL) (x0 : AV) (kp : KP) (x1 : AV) (j13 : Heap → Ans) (fu : Nat) : Ans := EQL Pr 3 true x11 (.int .i64 (nat_lit 47)) fun x211 =>
 IFB x211 (kr (.int .i64 (nat_lit 1)) h9)
 (EQL Pr 3 true x11 (.int .i64 (nat_lit 48)) fun x212 =>
 IFB x212 (kr (.int .i64 (nat_lit 2)) h9)
 (EQL Pr 3 true x11 (.int .i64 (nat_lit 49)) fun x213 =>
 IFB x213 (kr (.int .i64 (nat_lit 4)) h9)
 (B80x404 x11 kr x7 h9 cl x0 kp x1 j13 fu)))
noncomputable def B80x406 (x11 : AV) (fu : Nat) (x7 : AV) (cl : CL) (x0 : AV) (kr : KR) (kp : KP) (j13 : Heap → Ans) (h9 : Heap) (x1 : AV) : Ans := EQL Pr 3 true x11 (.int .i64 (nat_lit 44)) fun x75 =>
 IFB x75 (LP fu (fun _ => Ans.no) (fun j77 h76 =>
 B80x100 x7 h76 cl x0 kr j77 kp j13)  h9)
 (EQL Pr 3 true x11 (.int .i64 (nat_lit 45)) fun x101 =>
 IFB x101 (B80x143 x7 h9 cl x0 fu kr kp j13)
 (EQL Pr 3 true x11 (.int .i64 (nat_lit 46)) fun x144 =>
 IFB x144 (B80x210 h9 x7 cl x0 x1 fu kp kr j13)
 (B80x405 x11 kr h9 x7 cl x0 kp x1 j13 fu)))
noncomputable def B80x407 (x11 : AV) (x7 : AV) (h9 : Heap) (cl : CL) (x0 : AV) (j13 : Heap → Ans) (kp : KP) (kr : KR) (fu : Nat) (x1 : AV) : Ans := EQL Pr 3 true x11 (.int .i64 (nat_lit 40)) fun x31 =>
 IFB x31 (FA (nat_lit 4) x7 fun x32 =>
 LD x32 h9 fun x33 =>
 SA (nat_lit 1) x33 (.int .i64 (nat_lit 0)) fun x34 =>
 LD x34 h9 fun x35 =>
 cl (nat_lit 77) [x0, x35] h9 (fun x36 h37 =>
 j13  h37) kp)
 (EQL Pr 3 true x11 (.int .i64 (nat_lit 43)) fun x40 =>
 IFB x40 (B80x74 x7 h9 cl x0 kr kp j13)
 (B80x406 x11 fu x7 cl x0 kr kp j13 h9 x1))
noncomputable def F80 (fu : Nat) (oR : FuncId → List AV → Option AV) (cl : CL) (args : List AV) (h2 : Heap) (kr : KR) (kp : KP) : Ans := AR2 args fun x0 x1 =>
 cl (nat_lit 125) [x0, x1] h2 (fun x3 h4 =>
 NEWC (.n (some (.int .i64 (nat_lit 0))) (.n (some (.str (nat_lit 0) (nat_lit 0))) (.n (some (.int .i64 (nat_lit 0))) .e .e) .e) (.n (some (.str (nat_lit 0) (nat_lit 0))) (.n (some (.nilslice)) .e .e) .e)) (nat_lit 5) 92 h4 fun x7 h8 =>
 ST (nat_lit 5) x7 x3 h8 fun h9 =>
 FA (nat_lit 0) x7 fun x10 =>
 LD x10 h9 fun x11 =>
 JO (fun h12 =>
 kr (.int .i64 (nat_lit 0)) h12) fun j13 =>
 EQL Pr 3 true x11 (.int .i64 (nat_lit 53)) fun x14 =>
 IFB x14 (FA (nat_lit 4) x7 fun x15 =>
 LD x15 h9 fun x16 =>
 LENS x16 fun x17 =>
 LP fu (fun _ _ => Ans.no) (fun j20 x18 h19 =>
 B80x30 x18 x17 x16 h19 cl x0 kr j20 kp j13) (.int .i64 (nat_lit 0)) h9)
 (B80x407 x11 x7 h9 cl x0 j13 kp kr fu x1)) kp

theorem eqF80 : F80 = fun fu oR => compF Pr fu oR 80 2 := by kernel_rfl

noncomputable def B81x26 (x10 : AV) (x0 : AV) (h14 : Heap) (j12 : AV → Heap → Ans) : Ans := SUB Pr 3 true x10 (.int .i64 (nat_lit 1)) fun x15 =>
 SUB Pr 3 true x10 (.int .i64 (nat_lit 1)) fun x16 =>
 SA (nat_lit 4) x0 x16 fun x17 =>
 LDN (nat_lit 4) x17 h14 fun x18 =>
 SA (nat_lit 4) x0 x10 fun x19 =>
 LDN (nat_lit 4) x19 h14 fun x20 =>
 SA (nat_lit 4) x0 x10 fun x21 =>
 ST (nat_lit 4) x21 x18 h14 fun h22 =>
 SA (nat_lit 4) x0 x15 fun x23 =>
 ST (nat_lit 4) x23 x20 h22 fun h24 =>
 SUB Pr 3 true x10 (.int .i64 (nat_lit 1)) fun x25 =>
 j12 x25 h24
noncomputable def B81x62 (x29 : AV) (j28 : AV → Heap → Ans) (x30 : AV) (x38 : AV) (x48 : AV) (h49 : Heap) (cl : CL) (kp : KP) : Ans := JO (fun x50 h51 =>
 JO (fun x52 h53 =>
 SEL x29 x52 (.bool false) fun x54 =>
 j28 x54 h53) fun j55 =>
 GW true x29 (LSS Pr 3 true x50 (.int .i64 (nat_lit 0)) fun x56 =>
 j55 x56 h51)
 (j55 undefA h51)) fun j57 =>
 GW true x29 (GEN (callV Pr (some x30) [x38, x48] h49) cl (fun x58 h59 =>
 j57 x58 h59) kp)
 (j57 undefA h49)
noncomputable def B81x69 (x29 : AV) (j28 : AV → Heap → Ans) (x30 : AV) (x38 : AV) (cl : CL) (kp : KP) (x40 : AV) (x42 : AV) (h43 : Heap) : Ans := JO (fun x44 h45 =>
 JO (fun x46 h47 =>
 JO (fun x48 h49 =>
 B81x62 x29 j28 x30 x38 x48 h49 cl kp) fun j63 =>
 GW true x29 (LDN (nat_lit 4) x46 h47 fun x64 =>
 j63 x64 h47)
 (j63 undefA h47)) fun j65 =>
 GW true x29 (SA (nat_lit 4) x40 x44 fun x66 =>
 j65 x66 h45)
 (j65 undefA h45)) fun j67 =>
 GW true x29 (SUB Pr 3 true x42 (.int .i64 (nat_lit 1)) fun x68 =>
 j67 x68 h43)
 (j67 undefA h43)
noncomputable def B81x76 (x29 : AV) (j28 : AV → Heap → Ans) (x30 : AV) (cl : CL) (kp : KP) (x10 : AV) (x0 : AV) (x32 : AV) (x34 : AV) (h35 : Heap) : Ans := JO (fun x36 h37 =>
 JO (fun x38 h39 =>
 JO (fun x40 h41 =>
 JO (fun x42 h43 =>
 B81x69 x29 j28 x30 x38 cl kp x40 x42 h43) fun j70 =>
 GW true x29 (j70 x10 h41)
 (j70 undefA h41)) fun j71 =>
 GW true x29 (j71 x0 h39)
 (j71 undefA h39)) fun j72 =>
 GW true x29 (LDN (nat_lit 4) x36 h37 fun x73 =>
 j72 x73 h37)
 (j72 undefA h37)) fun j74 =>
 GW true x29 (SA (nat_lit 4) x32 x34 fun x75 =>
 j74 x75 h35)
 (j74 undefA h35)
noncomputable def B81x80 (x10 : AV) (x0 : AV) (j12 : AV → Heap → Ans) (x6 : AV) (j8 : AV → Heap → Ans) (x1 : AV) (cl : CL) (kp : KP) (x3 : AV) (h11 : Heap) : Ans := JO (fun x13 h14 =>
 IFB x13 (B81x26 x10 x0 h14 j12)
 (ADD Pr 3 true x6 (.int .i64 (nat_lit 1)) fun x27 =>
 j8 x27 h14)) fun j28 =>
 GTR Pr 3 false x10 x1 fun x29 =>
 JO (fun x30 h31 =>
 JO (fun x32 h33 =>
 JO (fun x34 h35 =>
 B81x76 x29 j28 x30 cl kp x10 x0 x32 x34 h35) fun j77 =>
 GW true x29 (j77 x10 h33)
 (j77 undefA h33)) fun j78 =>
 GW true x29 (j78 x0 h31)
 (j78 undefA h31)) fun j79 =>
 GW true x29 (j79 x3 h11)
 (j79 undefA h11)
noncomputable def F81 (fu : Nat) (oR : FuncId → List AV → Option AV) (cl : CL) (args : List AV) (h4 : Heap) (kr : KR) (kp : KP) : Ans := AR4 args fun x0 x1 x2 x3 =>
 ADD Pr 3 true x1 (.int .i64 (nat_lit 1)) fun x5 =>
 LP fu (fun _ _ => Ans.no) (fun j8 x6 h7 =>
 LSS Pr 3 false x6 x2 fun x9 =>
 IFB x9 (LP fu (fun _ _ => Ans.no) (fun j12 x10 h11 =>
 B81x80 x10 x0 j12 x6 j8 x1 cl kp x3 h11) x6 h7)
 (kr (.tuple []) h7)) x5 h4

theorem eqF81 : F81 = fun fu oR => compF Pr fu oR 81 4 := by kernel_rfl

noncomputable def B90x15 (h10 : Heap) (x9 : AV) (x8 : AV) (kr : KR) : Ans := OV (convV Pr h10 142 5 x9) fun x11 =>
 SAT (.str (nat_lit 256) (nat_lit 1013866857139168856493015739252390649739422828853819106890363778118420553376247557433637691341895324351018602695588957474325319502760499485336098898398377509666851054660423406800006203933793007272033180812049178612605246075062580585469430410618860250057463399279570354286669047577758927328864388992123306212451509403152394148136105363817402562688186708175358218852349079190158732807302672745370040257219644697201681238697346923541678507645485296520536209706771857694240900605172937619415410180424934769249448772944216470541052485265558808433676546390051204254346932932316488017972311616136051587427851453983453479168)) x11 fun x12 =>
 OV (convV Pr h10 5 3 x12) fun x13 =>
 ADD Pr 3 false x8 x13 fun x14 =>
 kr x14 h10
noncomputable def B90x24 (kr : KR) (x3 : AV) (x2 : AV) (h4 : Heap) : Ans := JO (fun x5 x6 h7 =>
 JO (fun x8 x9 h10 =>
 B90x15 h10 x9 x8 kr) fun j16 =>
 GEQ Pr 142 true x6 (.int .u64 (nat_lit 256)) fun x17 =>
 IFB x17 (BOP Pr .shr 142 true x6 (.int .u64 (nat_lit 8)) fun x18 =>
 ADD Pr 3 true x5 (.int .i64 (nat_lit 8)) fun x19 =>
 j16 x19 x18 h7)
 (j16 x5 x6 h7)) fun j20 =>
 GEQ Pr 142 true x3 (.int .u64 (nat_lit 65536)) fun x21 =>
 IFB x21 (BOP Pr .shr 142 true x3 (.int .u64 (nat_lit 16)) fun x22 =>
 ADD Pr 3 true x2 (.int .i64 (nat_lit 16)) fun x23 =>
 j20 x23 x22 h4)
 (j20 x2 x3 h4)
noncomputable def F90 (fu : Nat) (oR : FuncId → List AV → Option AV) (cl : CL) (args : List AV) (h1 : Heap) (kr : KR) (kp : KP) : Ans := AR1 args fun x0 =>
 JO (fun x2 x3 h4 =>
 B90x24 kr x3 x2 h4) fun j25 =>
 GEQ Pr 142 true x0 (.int .u64 (nat_lit 4294967296)) fun x26 =>
 IFB x26 (BOP Pr .shr 142 true x0 (.int .u64 (nat_lit 32)) fun x27 =>
 j25 (.int .i64 (nat_lit 32)) x27 h1)
 (j25 (.int .i64 (nat_lit 0)) x0 h1)

theorem eqF90 : F90 = fun fu oR => compF Pr fu oR 90 1 := by kernel_rfl

noncomputable def B91x32 (x17 : AV) (x13 : AV) (j15 : AV → Heap → Ans) (j10 : AV → Heap → Ans) (x18 : AV) (x20 : AV) (h21 : Heap) : Ans := JO (fun x22 h23 =>
 JO (fun x24 h25 =>
 SEL x17 x24 (.bool false) fun x26 =>
 IFB x26 (ADD Pr 3 true x13 (.int .i64 (nat_lit 1)) fun x27 =>
 j15 x27 h25)
 (j10 x13 h25)) fun j28 =>
 GW true x17 (NEQ Pr 5 true x22 (.int .u8 (nat_lit 10)) fun x29 =>
 j28 x29 h23)
 (j28 undefA h23)) fun j30 =>
 GW true x17 (SAT x18 x20 fun x31 =>
 j30 x31 h21)
 (j30 undefA h21)
noncomputable def B91x42 (j5 : AV → Heap → Ans) (x0 : AV) (x3 : AV) (fu : Nat) (h4 : Heap) (cl : CL) (kr : KR) (kp : KP) : Ans := JO (fun x8 h9 =>
 j5 x8 h9) fun j10 =>
 SAT x0 x3 fun x11 =>
 EQL Pr 5 true x11 (.int .u8 (nat_lit 35)) fun x12 =>
 IFB x12 (LP fu (fun _ _ => Ans.no) (fun j15 x13 h14 =>
 LENT x0 fun x16 =>
 LSS Pr 3 false x13 x16 fun x17 =>
 JO (fun x18 h19 =>
 JO (fun x20 h21 =>
 B91x32 x17 x13 j15 j10 x18 x20 h21) fun j33 =>
 GW true x17 (j33 x13 h19)
 (j33 undefA h19)) fun j34 =>
 GW true x17 (j34 x0 h14)
 (j34 undefA h14)) x3 h4)
 (SAT x0 x3 fun x35 =>
 cl (nat_lit 153) [x35] h4 (fun x36 h37 =>
 OV (unOpA .not x36) fun x40 =>
 IFB x40 (kr x3 h37)
 (ADD Pr 3 true x3 (.int .i64 (nat_lit 1)) fun x41 =>
 j10 x41 h37)) kp)
noncomputable def F91 (fu : Nat) (oR : FuncId → List AV → Option AV) (cl : CL) (args : List AV) (h2 : Heap) (kr : KR) (kp : KP) : Ans := AR2 args fun x0 x1 =>
 LP fu (fun _ _ => Ans.no) (fun j5 x3 h4 =>
 LENT x0 fun x6 =>
 LSS Pr 3 false x3 x6 fun x7 =>
 IFB x7 (B91x42 j5 x0 x3 fu h4 cl kr kp)
 (kr x3 h4)) x1 h2

theorem eqF91 : F91 = fun fu oR => compF Pr fu oR 91 2 := by kernel_rfl

noncomputable def F92 (fu : Nat) (oR : FuncId → List AV → Option AV) (cl : CL) (args : List AV) (h1 : Heap) (kr : KR) (kp : KP) : Ans := AR1 args fun x0 =>
 GEQ Pr 5 true x0 (.int .u8 (nat_lit 48)) fun x2 =>
 JO (fun x3 h4 =>
 JO (fun x5 h6 =>
 SEL x2 x5 (.bool false) fun x7 =>
 kr x7 h6) fun j8 =>
 GW true x2 (LEQ Pr 5 true x3 (.int .u8 (nat_lit 57)) fun x9 =>
 j8 x9 h4)
 (j8 undefA h4)) fun j10 =>
 GW true x2 (j10 x0 h1)
 (j10 undefA h1)

theorem eqF92 : F92 = fun fu oR => compF Pr fu oR 92 1 := by kernel_rfl

noncomputable def B93x32 (x0 : AV) (x1 : AV) (x20 : AV) (cl : CL) (h21 : Heap) (x3 : AV) (kr : KR) (kp : KP) : Ans := OV (sliceA Pr 9 x0 (some x1) (some x20) none) fun x22 =>
 cl (nat_lit 154) [x22] h21 (fun x23 h24 =>
 EX (nat_lit 0) x23 fun x27 =>
 EX (nat_lit 1) x23 fun x28 =>
 OV (buildA Pr 114 [((nat_lit 0), (.int .i64 (nat_lit 1))), ((nat_lit 2), x27), ((nat_lit 3), x1)]) fun x29 =>
 ST (nat_lit 4) x3 x29 h24 fun h30 =>
 LDN (nat_lit 4) x3 h30 fun x31 =>
 kr (.tuple [x31, x20]) h30) kp
noncomputable def B93x80 (x62 : AV) (x58 : AV) (j60 : AV → Heap → Ans) (j33 : AV → Heap → Ans) (cl : CL) (kp : KP) (x63 : AV) (x65 : AV) (h66 : Heap) : Ans := JO (fun x67 h68 =>
 JO (fun x69 h70 =>
 SEL x62 x69 (.bool false) fun x71 =>
 IFB x71 (ADD Pr 3 true x58 (.int .i64 (nat_lit 1)) fun x72 =>
 j60 x72 h70)
 (j33 x58 h70)) fun j73 =>
 GW true x62 (cl (nat_lit 92) [x67] h68 (fun x74 h75 =>
 j73 x74 h75) kp)
 (j73 undefA h68)) fun j78 =>
 GW true x62 (SAT x63 x65 fun x79 =>
 j78 x79 h66)
 (j78 undefA h66)
noncomputable def B93x83 (x5 : AV) (fu : Nat) (x0 : AV) (j33 : AV → Heap → Ans) (cl : CL) (kp : KP) (h55 : Heap) : Ans := ADD Pr 3 true x5 (.int .i64 (nat_lit 1)) fun x57 =>
 LP fu (fun _ _ => Ans.no) (fun j60 x58 h59 =>
 LENT x0 fun x61 =>
 LSS Pr 3 false x58 x61 fun x62 =>
 JO (fun x63 h64 =>
 JO (fun x65 h66 =>
 B93x80 x62 x58 j60 j33 cl kp x63 x65 h66) fun j81 =>
 GW true x62 (j81 x58 h64)
 (j81 undefA h64)) fun j82 =>
 GW true x62 (j82 x0 h59)
 (j82 undefA h59)) x57 h55
noncomputable def B93x91 (x45 : AV) (x5 : AV) (fu : Nat) (x0 : AV) (j33 : AV → Heap → Ans) (cl : CL) (kp : KP) (x46 : AV) (x50 : AV) (h51 : Heap) : Ans := JO (fun x52 h53 =>
 JO (fun x54 h55 =>
 SEL x45 x54 (.bool false) fun x56 =>
 IFB x56 (B93x83 x5 fu x0 j33 cl kp h55)
 (j33 x5 h55)) fun j84 =>
 GW true x45 (cl (nat_lit 92) [x52] h53 (fun x85 h86 =>
 j84 x85 h86) kp)
 (j84 undefA h53)) fun j89 =>
 GW true x45 (SAT x46 x50 fun x90 =>
 j89 x90 h51)
 (j89 undefA h51)
noncomputable def B93x96 (x36 : AV) (x43 : AV) (x5 : AV) (fu : Nat) (x0 : AV) (j33 : AV → Heap → Ans) (cl : CL) (kp : KP) (h44 : Heap) : Ans := SEL x36 x43 (.bool false) fun x45 =>
 JO (fun x46 h47 =>
 JO (fun x48 h49 =>
 JO (fun x50 h51 =>
 B93x91 x45 x5 fu x0 j33 cl kp x46 x50 h51) fun j92 =>
 GW true x45 (ADD Pr 3 true x48 (.int .i64 (nat_lit 1)) fun x93 =>
 j92 x93 h49)
 (j92 undefA h49)) fun j94 =>
 GW true x45 (j94 x5 h47)
 (j94 undefA h47)) fun j95 =>
 GW true x45 (j95 x0 h44)
 (j95 undefA h44)
noncomputable def B93x102 (x36 : AV) (x5 : AV) (fu : Nat) (x0 : AV) (j33 : AV → Heap → Ans) (cl : CL) (kp : KP) (x37 : AV) (h38 : Heap) : Ans := JO (fun x39 h40 =>
 JO (fun x41 h42 =>
 JO (fun x43 h44 =>
 B93x96 x36 x43 x5 fu x0 j33 cl kp h44) fun j97 =>
 GW true x36 (EQL Pr 5 true x41 (.int .u8 (nat_lit 46)) fun x98 =>
 j97 x98 h42)
 (j97 undefA h42)) fun j99 =>
 GW true x36 (SAT x37 x39 fun x100 =>
 j99 x100 h40)
 (j99 undefA h40)) fun j101 =>
 GW true x36 (j101 x5 h38)
 (j101 undefA h38)
noncomputable def B93x104 (x9 : AV) (x16 : AV) (x5 : AV) (j7 : AV → Heap → Ans) (h17 : Heap) (x0 : AV) (x1 : AV) (cl : CL) (x3 : AV) (kr : KR) (kp : KP) (fu : Nat) : Ans := SEL x9 x16 (.bool false) fun x18 =>
 IFB x18 (ADD Pr 3 true x5 (.int .i64 (nat_lit 1)) fun x19 =>
 j7 x19 h17)
 (JO (fun x20 h21 =>
 B93x32 x0 x1 x20 cl h21 x3 kr kp) fun j33 =>
 ADD Pr 3 true x5 (.int .i64 (nat_lit 1)) fun x34 =>
 LENT x0 fun x35 =>
 LSS Pr 3 false x34 x35 fun x36 =>
 JO (fun x37 h38 =>
 B93x102 x36 x5 fu x0 j33 cl kp x37 h38) fun j103 =>
 GW true x36 (j103 x0 h17)
 (j103 undefA h17))
noncomputable def B93x113 (x9 : AV) (x5 : AV) (j7 : AV → Heap → Ans) (x0 : AV) (x1 : AV) (cl : CL) (x3 : AV) (kr : KR) (kp : KP) (fu : Nat) (x10 : AV) (h11 : Heap) : Ans := JO (fun x12 h13 =>
 JO (fun x14 h15 =>
 JO (fun x16 h17 =>
 B93x104 x9 x16 x5 j7 h17 x0 x1 cl x3 kr kp fu) fun j105 =>
 GW true x9 (cl (nat_lit 92) [x14] h15 (fun x106 h107 =>
 j105 x106 h107) kp)
 (j105 undefA h15)) fun j110 =>
 GW true x9 (SAT x10 x12 fun x111 =>
 j110 x111 h13)
 (j110 undefA h13)) fun j112 =>
 GW true x9 (j112 x5 h11)
 (j112 undefA h11)
noncomputable def F93 (fu : Nat) (oR : FuncId → List AV → Option AV) (cl : CL) (args : List AV) (h2 : Heap) (kr : KR) (kp : KP) : Ans := AR2 args fun x0 x1 =>
 NEWC (.n (some (.int .i64 (nat_lit 0))) (.n (some (.str (nat_lit 0) (nat_lit 0))) (.n (some (.int .i64 (nat_lit 0))) .e .e) .e) (.n (some (.int .i64 (nat_lit 0))) .e .e)) (nat_lit 4) 114 h2 fun x3 h4 =>
 LP fu (fun _ _ => Ans.no) (fun j7 x5 h6 =>
 LENT x0 fun x8 =>
 LSS Pr 3 false x5 x8 fun x9 =>
 JO (fun x10 h11 =>
 B93x113 x9 x5 j7 x0 x1 cl x3 kr kp fu x10 h11) fun j114 =>
 GW true x9 (j114 x0 h6)
 (j114 undefA h6)) x1 h4

theorem eqF93 : F93 = fun fu oR => compF Pr fu oR 93 2 := by kernel_rfl

noncomputable def B94x56 (x0 : AV) (x35 : AV) (j44 : AV → Heap → Ans) (x3 : AV) (kr : KR) (x41 : AV) (h8 : Heap) : Ans := JO (fun x47 h48 =>
 IFB x47 (SAT x0 x35 fun x49 =>
 j44 x49 h48)
 (OV (buildA Pr 114 []) fun x50 =>
 ST (nat_lit 4) x3 x50 h48 fun h51 =>
 LDN (nat_lit 4) x3 h51 fun x52 =>
 kr (.tuple [x52, (.int .i64 (nat_lit 18446744073709551615))]) h51)) fun j53 =>
 EQL Pr 5 true x41 (.int .u8 (nat_lit 34)) fun x54 =>
 IFB x54 (j53 x54 h8)
 (EQL Pr 5 true x41 (.int .u8 (nat_lit 92)) fun x55 =>
 j53 x55 h8)
noncomputable def B94x57 (x6 : AV) (x0 : AV) (x3 : AV) (h8 : Heap) (kr : KR) (j33 : AV → AV → Heap → Ans) : Ans := ADD Pr 3 true x6 (.int .i64 (nat_lit 1)) fun x35 =>
 LENT x0 fun x36 =>
 EQL Pr 3 false x35 x36 fun x37 =>
 IFB x37 (OV (buildA Pr 114 []) fun x38 =>
 ST (nat_lit 4) x3 x38 h8 fun h39 =>
 LDN (nat_lit 4) x3 h39 fun x40 =>
 kr (.tuple [x40, (.int .i64 (nat_lit 18446744073709551615))]) h39)
 (SAT x0 x35 fun x41 =>
 JO (fun x42 h43 =>
 j33 x42 x35 h43) fun j44 =>
 EQL Pr 5 true x41 (.int .u8 (nat_lit 110)) fun x45 =>
 IFB x45 (j44 (.int .u8 (nat_lit 10)) h8)
 (EQL Pr 5 true x41 (.int .u8 (nat_lit 116)) fun x46 =>
 IFB x46 (j44 (.int .u8 (nat_lit 9)) h8)
 (B94x56 x0 x35 j44 x3 kr x41 h8)))
noncomputable def B94x58 (x7 : AV) (cl : CL) (j9 : AV → AV → Heap → Ans) (kp : KP) (x12 : AV) (x6 : AV) (x0 : AV) (x3 : AV) (h8 : Heap) (kr : KR) : Ans := JO (fun x23 x24 h25 =>
 BSL (nat_lit 5) (nat_lit 1) [(.int .u8 (nat_lit 0))] (nat_lit 1) [((nat_lit 0), x23)] h25 fun x26 h27 =>
 GEN (builtinF .append Pr [22, 22] [x7, x26] h27) cl (fun x28 h29 =>
 ADD Pr 3 true x24 (.int .i64 (nat_lit 1)) fun x32 =>
 j9 x32 x28 h29) kp) fun j33 =>
 EQL Pr 5 true x12 (.int .u8 (nat_lit 92)) fun x34 =>
 IFB x34 (B94x57 x6 x0 x3 h8 kr j33)
 (j33 x12 x6 h8)
noncomputable def B94x59 (x0 : AV) (x6 : AV) (h8 : Heap) (x7 : AV) (x1 : AV) (x3 : AV) (kr : KR) (cl : CL) (j9 : AV → AV → Heap → Ans) (kp : KP) : Ans := SAT x0 x6 fun x12 =>
 EQL Pr 5 true x12 (.int .u8 (nat_lit 34)) fun x13 =>
 IFB x13 (OV (convV Pr h8 22 9 x7) fun x14 =>
 OV (buildA Pr 114 [((nat_lit 0), (.int .i64 (nat_lit 2))), ((nat_lit 1), x14), ((nat_lit 3), x1)]) fun x15 =>
 ADD Pr 3 true x6 (.int .i64 (nat_lit 1)) fun x16 =>
 ST (nat_lit 4) x3 x15 h8 fun h17 =>
 LDN (nat_lit 4) x3 h17 fun x18 =>
 kr (.tuple [x18, x16]) h17)
 (EQL Pr 5 true x12 (.int .u8 (nat_lit 10)) fun x19 =>
 IFB x19 (OV (buildA Pr 114 []) fun x20 =>
 ST (nat_lit 4) x3 x20 h8 fun h21 =>
 LDN (nat_lit 4) x3 h21 fun x22 =>
 kr (.tuple [x22, (.int .i64 (nat_lit 18446744073709551615))]) h21)
 (B94x58 x7 cl j9 kp x12 x6 x0 x3 h8 kr))
noncomputable def F94 (fu : Nat) (oR : FuncId → List AV → Option AV) (cl : CL) (args : List AV) (h2 : Heap) (kr : KR) (kp : KP) : Ans := AR2 args fun x0 x1 =>
 NEWC (.n (some (.int .i64 (nat_lit 0))) (.n (some (.str (nat_lit 0) (nat_lit 0))) (.n (some (.int .i64 (nat_lit 0))) .e .e) .e) (.n (some (.int .i64 (nat_lit 0))) .e .e)) (nat_lit 4) 114 h2 fun x3 h4 =>
 ADD Pr 3 true x1 (.int .i64 (nat_lit 1)) fun x5 =>
 LP fu (fun _ _ _ => Ans.no) (fun j9 x6 x7 h8 =>
 LENT x0 fun x10 =>
 LSS Pr 3 false x6 x10 fun x11 =>
 IFB x11 (B94x59 x0 x6 h8 x7 x1 x3 kr cl j9 kp)
 (OV (buildA Pr 114 []) fun x60 =>
 ST (nat_lit 4) x3 x60 h8 fun h61 =>
 LDN (nat_lit 4) x3 h61 fun x62 =>
 kr (.tuple [x62, (.int .i64 (nat_lit 18446744073709551615))]) h61)) x5 (.nilslice) h4

theorem eqF94 : F94 = fun fu oR => compF Pr fu oR 94 2 := by kernel_rfl

noncomputable def B95x31 (x7 : AV) (kr : KR) (x0 : AV) (x12 : AV) (x16 : AV) (h17 : Heap) : Ans := JO (fun x18 h19 =>
 SEL x7 (.bool true) x18 fun x20 =>
 JO (fun x21 h22 =>
 JO (fun x23 h24 =>
 SEL x20 (.bool true) x23 fun x25 =>
 kr x25 h24) fun j26 =>
 GW false x20 (EQL Pr 5 true x21 (.int .u8 (nat_lit 95)) fun x27 =>
 j26 x27 h22)
 (j26 undefA h22)) fun j28 =>
 GW false x20 (j28 x0 h19)
 (j28 undefA h19)) fun j29 =>
 GW false x7 (SEL x12 x16 (.bool false) fun x30 =>
 j29 x30 h17)
 (j29 undefA h17)
noncomputable def B95x36 (x7 : AV) (kr : KR) (x0 : AV) (x10 : AV) (h11 : Heap) : Ans := JO (fun x12 h13 =>
 JO (fun x14 h15 =>
 JO (fun x16 h17 =>
 B95x31 x7 kr x0 x12 x16 h17) fun j32 =>
 GW true x12 (LEQ Pr 5 true x14 (.int .u8 (nat_lit 122)) fun x33 =>
 j32 x33 h15)
 (j32 undefA h15)) fun j34 =>
 GW true x12 (j34 x0 h13)
 (j34 undefA h13)) fun j35 =>
 GW false x7 (j35 x10 h11)
 (j35 undefA h11)
noncomputable def B95x42 (x2 : AV) (kr : KR) (x0 : AV) (x3 : AV) (h4 : Heap) : Ans := JO (fun x5 h6 =>
 SEL x2 x5 (.bool false) fun x7 =>
 JO (fun x8 h9 =>
 JO (fun x10 h11 =>
 B95x36 x7 kr x0 x10 h11) fun j37 =>
 GW false x7 (GEQ Pr 5 true x8 (.int .u8 (nat_lit 97)) fun x38 =>
 j37 x38 h9)
 (j37 undefA h9)) fun j39 =>
 GW false x7 (j39 x0 h6)
 (j39 undefA h6)) fun j40 =>
 GW true x2 (LEQ Pr 5 true x3 (.int .u8 (nat_lit 90)) fun x41 =>
 j40 x41 h4)
 (j40 undefA h4)
noncomputable def F95 (fu : Nat) (oR : FuncId → List AV → Option AV) (cl : CL) (args : List AV) (h1 : Heap) (kr : KR) (kp : KP) : Ans := AR1 args fun x0 =>
 GEQ Pr 5 true x0 (.int .u8 (nat_lit 65)) fun x2 =>
 JO (fun x3 h4 =>
 B95x42 x2 kr x0 x3 h4) fun j43 =>
 GW true x2 (j43 x0 h1)
 (j43 undefA h1)

theorem eqF95 : F95 = fun fu oR => compF Pr fu oR 95 1 := by kernel_rfl

noncomputable def B96x60 (x44 : AV) (x22 : AV) (j34 : Heap → Ans) (x45 : AV) (x47 : AV) (h48 : Heap) : Ans := JO (fun x49 h50 =>
 JO (fun x51 h52 =>
 SEL x44 x51 (.bool false) fun x53 =>
 IFB x53 (FA (nat_lit 0) x22 fun x54 =>
 ST (nat_lit 1) x54 (.int .i64 (nat_lit 5)) h52 fun h55 =>
 j34  h55)
 (j34  h52)) fun j56 =>
 GW true x44 (EQL Pr 5 true x49 (.int .u8 (nat_lit 40)) fun x57 =>
 j56 x57 h50)
 (j56 undefA h50)) fun j58 =>
 GW true x44 (SAT x45 x47 fun x59 =>
 j58 x59 h48)
 (j58 undefA h48)
noncomputable def B96x63 (x22 : AV) (x3 : AV) (kr : KR) (x5 : AV) (h24 : Heap) (cl : CL) (x0 : AV) (kp : KP) : Ans := JO (fun h30 =>
 LDN (nat_lit 4) x22 h30 fun x31 =>
 ST (nat_lit 4) x3 x31 h30 fun h32 =>
 LDN (nat_lit 4) x3 h32 fun x33 =>
 kr (.tuple [x33, x5]) h32) fun j34 =>
 FA (nat_lit 1) x22 fun x35 =>
 LD x35 h24 fun x36 =>
 cl (nat_lit 156) [x36] h24 (fun x37 h38 =>
 IFB x37 (FA (nat_lit 0) x22 fun x41 =>
 ST (nat_lit 1) x41 (.int .i64 (nat_lit 6)) h38 fun h42 =>
 j34  h42)
 (LENT x0 fun x43 =>
 LSS Pr 3 false x5 x43 fun x44 =>
 JO (fun x45 h46 =>
 JO (fun x47 h48 =>
 B96x60 x44 x22 j34 x45 x47 h48) fun j61 =>
 GW true x44 (j61 x5 h46)
 (j61 undefA h46)) fun j62 =>
 GW true x44 (j62 x0 h38)
 (j62 undefA h38))) kp
noncomputable def B96x64 (x0 : AV) (x1 : AV) (x5 : AV) (h17 : Heap) (x3 : AV) (kr : KR) (cl : CL) (kp : KP) : Ans := OV (sliceA Pr 9 x0 (some x1) (some x5) none) fun x20 =>
 OV (buildA Pr 114 [((nat_lit 0), (.int .i64 (nat_lit 4))), ((nat_lit 1), x20), ((nat_lit 3), x1)]) fun x21 =>
 NEWC (.n (some (.int .i64 (nat_lit 0))) (.n (some (.str (nat_lit 0) (nat_lit 0))) (.n (some (.int .i64 (nat_lit 0))) .e .e) .e) (.n (some (.int .i64 (nat_lit 0))) .e .e)) (nat_lit 4) 114 h17 fun x22 h23 =>
 ST (nat_lit 4) x22 x21 h23 fun h24 =>
 SUB Pr 3 false x5 x1 fun x25 =>
 GTR Pr 3 true x25 (.int .i64 (nat_lit 40)) fun x26 =>
 IFB x26 (OV (buildA Pr 114 []) fun x27 =>
 ST (nat_lit 4) x3 x27 h24 fun h28 =>
 LDN (nat_lit 4) x3 h28 fun x29 =>
 kr (.tuple [x29, (.int .i64 (nat_lit 18446744073709551615))]) h28)
 (B96x63 x22 x3 kr x5 h24 cl x0 kp)
noncomputable def B96x72 (x9 : AV) (x5 : AV) (j7 : AV → Heap → Ans) (x0 : AV) (x1 : AV) (x3 : AV) (kr : KR) (cl : CL) (kp : KP) (x10 : AV) (x12 : AV) (h13 : Heap) : Ans := JO (fun x14 h15 =>
 JO (fun x16 h17 =>
 SEL x9 x16 (.bool false) fun x18 =>
 IFB x18 (ADD Pr 3 true x5 (.int .i64 (nat_lit 1)) fun x19 =>
 j7 x19 h17)
 (B96x64 x0 x1 x5 h17 x3 kr cl kp)) fun j65 =>
 GW true x9 (cl (nat_lit 155) [x14] h15 (fun x66 h67 =>
 j65 x66 h67) kp)
 (j65 undefA h15)) fun j70 =>
 GW true x9 (SAT x10 x12 fun x71 =>
 j70 x71 h13)
 (j70 undefA h13)
noncomputable def F96 (fu : Nat) (oR : FuncId → List AV → Option AV) (cl : CL) (args : List AV) (h2 : Heap) (kr : KR) (kp : KP) : Ans := AR2 args fun x0 x1 =>
 NEWC (.n (some (.int .i64 (nat_lit 0))) (.n (some (.str (nat_lit 0) (nat_lit 0))) (.n (some (.int .i64 (nat_lit 0))) .e .e) .e) (.n (some (.int .i64 (nat_lit 0))) .e .e)) (nat_lit 4) 114 h2 fun x3 h4 =>
 LP fu (fun _ _ => Ans.no) (fun j7 x5 h6 =>
 LENT x0 fun x8 =>
 LSS Pr 3 false x5 x8 fun x9 =>
 JO (fun x10 h11 =>
 JO (fun x12 h13 =>
 B96x72 x9 x5 j7 x0 x1 x3 kr cl kp x10 x12 h13) fun j73 =>
 GW true x9 (j73 x5 h11)
 (j73 undefA h11)) fun j74 =>
 GW true x9 (j74 x0 h6)
 (j74 undefA h6)) x1 h4

theorem eqF96 : F96 = fun fu oR => compF Pr fu oR 96 2 := by kernel_rfl

noncomputable def B99x26 (x17 : AV) (x5 : AV) (x9 : AV) (h18 : Heap) (x1 : AV) (x16 : AV) (x3 : AV) (kr : KR) (j11 : AV → Heap → Ans) : Ans := IFB x17 (SA (nat_lit 1) x5 x9 fun x19 =>
 LD x19 h18 fun x20 =>
 OV (buildA Pr 114 [((nat_lit 0), (.int .i64 (nat_lit 7))), ((nat_lit 1), x20), ((nat_lit 3), x1)]) fun x21 =>
 ADD Pr 3 false x1 x16 fun x22 =>
 ST (nat_lit 4) x3 x21 h18 fun h23 =>
 LDN (nat_lit 4) x3 h23 fun x24 =>
 kr (.tuple [x24, x22]) h23)
 (ADD Pr 3 true x9 (.int .i64 (nat_lit 1)) fun x25 =>
 j11 x25 h18)
noncomputable def B99x60 (x30 : AV) (j27 : AV → Heap → Ans) (x41 : AV) (x43 : AV) (x45 : AV) (h46 : Heap) : Ans := JO (fun x47 h48 =>
 JO (fun x49 h50 =>
 JO (fun x51 h52 =>
 SEL x30 x51 (.bool false) fun x53 =>
 j27 x53 h52) fun j54 =>
 GW true x30 (EQL Pr 9 false x41 x49 fun x55 =>
 j54 x55 h50)
 (j54 undefA h50)) fun j56 =>
 GW true x30 (LD x47 h48 fun x57 =>
 j56 x57 h48)
 (j56 undefA h48)) fun j58 =>
 GW true x30 (SA (nat_lit 1) x43 x45 fun x59 =>
 j58 x59 h46)
 (j58 undefA h46)
noncomputable def B99x65 (x30 : AV) (j27 : AV → Heap → Ans) (x9 : AV) (x5 : AV) (x31 : AV) (x33 : AV) (x39 : AV) (h40 : Heap) : Ans := JO (fun x41 h42 =>
 JO (fun x43 h44 =>
 JO (fun x45 h46 =>
 B99x60 x30 j27 x41 x43 x45 h46) fun j61 =>
 GW true x30 (j61 x9 h44)
 (j61 undefA h44)) fun j62 =>
 GW true x30 (j62 x5 h42)
 (j62 undefA h42)) fun j63 =>
 GW true x30 (OV (sliceA Pr 9 x31 (some x33) (some x39) none) fun x64 =>
 j63 x64 h40)
 (j63 undefA h40)
noncomputable def B99x71 (x30 : AV) (j27 : AV → Heap → Ans) (x9 : AV) (x5 : AV) (x31 : AV) (x16 : AV) (x1 : AV) (h32 : Heap) : Ans := JO (fun x33 h34 =>
 JO (fun x35 h36 =>
 JO (fun x37 h38 =>
 JO (fun x39 h40 =>
 B99x65 x30 j27 x9 x5 x31 x33 x39 h40) fun j66 =>
 GW true x30 (ADD Pr 3 false x35 x37 fun x67 =>
 j66 x67 h38)
 (j66 undefA h38)) fun j68 =>
 GW true x30 (j68 x16 h36)
 (j68 undefA h36)) fun j69 =>
 GW true x30 (j69 x1 h34)
 (j69 undefA h34)) fun j70 =>
 GW true x30 (j70 x1 h32)
 (j70 undefA h32)
noncomputable def B99x73 (x5 : AV) (x9 : AV) (h10 : Heap) (x1 : AV) (x3 : AV) (kr : KR) (j11 : AV → Heap → Ans) (x0 : AV) : Ans := SA (nat_lit 1) x5 x9 fun x14 =>
 LD x14 h10 fun x15 =>
 LENT x15 fun x16 =>
 JO (fun x17 h18 =>
 B99x26 x17 x5 x9 h18 x1 x16 x3 kr j11) fun j27 =>
 ADD Pr 3 false x1 x16 fun x28 =>
 LENT x0 fun x29 =>
 LEQ Pr 3 false x28 x29 fun x30 =>
 JO (fun x31 h32 =>
 B99x71 x30 j27 x9 x5 x31 x16 x1 h32) fun j72 =>
 GW true x30 (j72 x0 h10)
 (j72 undefA h10)
noncomputable def F99 (fu : Nat) (oR : FuncId → List AV → Option AV) (cl : CL) (args : List AV) (h2 : Heap) (kr : KR) (kp : KP) : Ans := AR2 args fun x0 x1 =>
 NEWC (.n (some (.int .i64 (nat_lit 0))) (.n (some (.str (nat_lit 0) (nat_lit 0))) (.n (some (.int .i64 (nat_lit 0))) .e .e) .e) (.n (some (.int .i64 (nat_lit 0))) .e .e)) (nat_lit 4) 114 h2 fun x3 h4 =>
 cl (nat_lit 157) [] h4 (fun x5 h6 =>
 LP fu (fun _ _ => Ans.no) (fun j11 x9 h10 =>
 LENS x5 fun x12 =>
 LSS Pr 3 false x9 x12 fun x13 =>
 IFB x13 (B99x73 x5 x9 h10 x1 x3 kr j11 x0)
 (OV (buildA Pr 114 []) fun x74 =>
 ST (nat_lit 4) x3 x74 h10 fun h75 =>
 LDN (nat_lit 4) x3 h75 fun x76 =>
 kr (.tuple [x76, (.int .i64 (nat_lit 18446744073709551615))]) h75)) (.int .i64 (nat_lit 0)) h6) kp

theorem eqF99 : F99 = fun fu oR => compF Pr fu oR 99 2 := by kernel_rfl

noncomputable def B100x24 (x5 : AV) (kr : KR) (x0 : AV) (x10 : AV) (h11 : Heap) : Ans := JO (fun x12 h13 =>
 SEL x5 (.bool true) x12 fun x14 =>
 IFB x14 (kr (.bool false) h13)
 (NC x0 fun x15 =>
 FA (nat_lit 1) x15 fun x16 =>
 LD x16 h13 fun x17 =>
 ADD Pr 3 true x17 (.int .i64 (nat_lit 1)) fun x18 =>
 NC x0 fun x19 =>
 FA (nat_lit 1) x19 fun x20 =>
 ST (nat_lit 1) x20 x18 h13 fun h21 =>
 kr (.bool true) h21)) fun j22 =>
 GW false x5 (OV (unOpA .not x10) fun x23 =>
 j22 x23 h11)
 (j22 undefA h11)
noncomputable def F100 (fu : Nat) (oR : FuncId → List AV → Option AV) (cl : CL) (args : List AV) (h2 : Heap) (kr : KR) (kp : KP) : Ans := AR2 args fun x0 x1 =>
 NC x0 fun x3 =>
 FA (nat_lit 5) x3 fun x4 =>
 LD x4 h2 fun x5 =>
 JO (fun x6 h7 =>
 JO (fun x8 h9 =>
 JO (fun x10 h11 =>
 B100x24 x5 kr x0 x10 h11) fun j25 =>
 GW false x5 (cl (nat_lit 102) [x6, x8] h9 (fun x26 h27 =>
 j25 x26 h27) kp)
 (j25 undefA h9)) fun j30 =>
 GW false x5 (j30 x1 h7)
 (j30 undefA h7)) fun j31 =>
 GW false x5 (j31 x0 h2)
 (j31 undefA h2)

theorem eqF100 : F100 = fun fu oR => compF Pr fu oR 100 2 := by kernel_rfl

noncomputable def B102x34 (x19 : AV) (kr : KR) (x1 : AV) (x20 : AV) (h21 : Heap) : Ans := JO (fun x22 h23 =>
 JO (fun x24 h25 =>
 JO (fun x26 h27 =>
 SEL x19 x26 (.bool false) fun x28 =>
 kr x28 h27) fun j29 =>
 GW true x19 (EQL Pr 9 false x22 x24 fun x30 =>
 j29 x30 h25)
 (j29 undefA h25)) fun j31 =>
 GW true x19 (j31 x1 h23)
 (j31 undefA h23)) fun j32 =>
 GW true x19 (LD x20 h21 fun x33 =>
 j32 x33 h21)
 (j32 undefA h21)
noncomputable def B102x41 (x12 : AV) (kr : KR) (x1 : AV) (x7 : AV) (x13 : AV) (h14 : Heap) : Ans := JO (fun x15 h16 =>
 JO (fun x17 h18 =>
 SEL x12 (.bool true) x17 fun x19 =>
 JO (fun x20 h21 =>
 B102x34 x19 kr x1 x20 h21) fun j35 =>
 GW true x19 (FA (nat_lit 1) x7 fun x36 =>
 j35 x36 h18)
 (j35 undefA h18)) fun j37 =>
 GW false x12 (EQL Pr 3 true x15 (.int .i64 (nat_lit 6)) fun x38 =>
 j37 x38 h16)
 (j37 undefA h16)) fun j39 =>
 GW false x12 (LD x13 h14 fun x40 =>
 j39 x40 h14)
 (j39 undefA h14)
noncomputable def F102 (fu : Nat) (oR : FuncId → List AV → Option AV) (cl : CL) (args : List AV) (h2 : Heap) (kr : KR) (kp : KP) : Ans := AR2 args fun x0 x1 =>
 cl (nat_lit 158) [x0] h2 (fun x3 h4 =>
 NEWC (.n (some (.int .i64 (nat_lit 0))) (.n (some (.str (nat_lit 0) (nat_lit 0))) (.n (some (.int .i64 (nat_lit 0))) .e .e) .e) (.n (some (.int .i64 (nat_lit 0))) .e .e)) (nat_lit 4) 114 h4 fun x7 h8 =>
 ST (nat_lit 4) x7 x3 h8 fun h9 =>
 FA (nat_lit 0) x7 fun x10 =>
 LD x10 h9 fun x11 =>
 EQL Pr 3 true x11 (.int .i64 (nat_lit 7)) fun x12 =>
 JO (fun x13 h14 =>
 B102x41 x12 kr x1 x7 x13 h14) fun j42 =>
 GW false x12 (FA (nat_lit 0) x7 fun x43 =>
 j42 x43 h9)
 (j42 undefA h9)) kp

theorem eqF102 : F102 = fun fu oR => compF Pr fu oR 102 2 := by kernel_rfl

noncomputable def B103x58 (cl : CL) (x0 : AV) (h44 : Heap) (x7 : AV) (j20 : AV → Heap → Ans) (kp : KP) : Ans := cl (nat_lit 103) [x0] h44 (fun x47 h48 =>
 BSL (nat_lit 3) (nat_lit 1) [(.int .i64 (nat_lit 0)), (.int .i64 (nat_lit 0))] (nat_lit 2) [((nat_lit 0), x7), ((nat_lit 1), x47)] h48 fun x51 h52 =>
 OV (buildA Pr 92 [((nat_lit 0), (.int .i64 (nat_lit 7))), ((nat_lit 4), x51)]) fun x53 =>
 cl (nat_lit 163) [x0, x53] h52 (fun x54 h55 =>
 j20 x54 h55) kp) kp
noncomputable def B103x74 (cl : CL) (x0 : AV) (h60 : Heap) (x7 : AV) (j20 : AV → Heap → Ans) (kp : KP) : Ans := cl (nat_lit 103) [x0] h60 (fun x63 h64 =>
 BSL (nat_lit 3) (nat_lit 1) [(.int .i64 (nat_lit 0)), (.int .i64 (nat_lit 0))] (nat_lit 2) [((nat_lit 0), x7), ((nat_lit 1), x63)] h64 fun x67 h68 =>
 OV (buildA Pr 92 [((nat_lit 0), (.int .i64 (nat_lit 8))), ((nat_lit 4), x67)]) fun x69 =>
 cl (nat_lit 163) [x0, x69] h68 (fun x70 h71 =>
 j20 x70 h71) kp) kp
noncomputable def B103x75 (x37 : AV) (x40 : AV) (cl : CL) (x0 : AV) (h41 : Heap) (x7 : AV) (j20 : AV → Heap → Ans) (kp : KP) : Ans := SEL x37 (.bool true) x40 fun x42 =>
 IFB x42 (cl (nat_lit 100) [x0, (.str (nat_lit 1) (nat_lit 61))] h41 (fun x43 h44 =>
 IFB x43 (B103x58 cl x0 h44 x7 j20 kp)
 (cl (nat_lit 100) [x0, (.str (nat_lit 2) (nat_lit 15659))] h44 (fun x59 h60 =>
 IFB x59 (B103x74 cl x0 h60 x7 j20 kp)
 (j20 x7 h60)) kp)) kp)
 (j20 x7 h41)
noncomputable def B103x81 (x32 : AV) (cl : CL) (x0 : AV) (x7 : AV) (j20 : AV → Heap → Ans) (kp : KP) (x31 : AV) (x33 : AV) (h34 : Heap) : Ans := JO (fun x35 h36 =>
 SEL x32 (.bool true) x35 fun x37 =>
 JO (fun x38 h39 =>
 JO (fun x40 h41 =>
 B103x75 x37 x40 cl x0 h41 x7 j20 kp) fun j76 =>
 GW false x37 (EQL Pr 3 true x38 (.int .i64 (nat_lit 5)) fun x77 =>
 j76 x77 h39)
 (j76 undefA h39)) fun j78 =>
 GW false x37 (j78 x31 h36)
 (j78 undefA h36)) fun j79 =>
 GW false x32 (EQL Pr 3 true x33 (.int .i64 (nat_lit 4)) fun x80 =>
 j79 x80 h34)
 (j79 undefA h34)
noncomputable def B103x83 (x0 : AV) (h8 : Heap) (x7 : AV) (cl : CL) (j20 : AV → Heap → Ans) (kp : KP) : Ans := NC x0 fun x25 =>
 FA (nat_lit 3) x25 fun x26 =>
 FA (nat_lit 0) x26 fun x27 =>
 LD x27 h8 fun x28 =>
 SA (nat_lit 5) x28 x7 fun x29 =>
 FA (nat_lit 0) x29 fun x30 =>
 LD x30 h8 fun x31 =>
 EQL Pr 3 true x31 (.int .i64 (nat_lit 3)) fun x32 =>
 JO (fun x33 h34 =>
 B103x81 x32 cl x0 x7 j20 kp x31 x33 h34) fun j82 =>
 GW false x32 (j82 x31 h8)
 (j82 undefA h8)
noncomputable def B103x84 (cl : CL) (x0 : AV) (h3 : Heap) (kr : KR) (kp : KP) : Ans := cl (nat_lit 162) [x0] h3 (fun x7 h8 =>
 JO (fun x11 h12 =>
 NC x0 fun x13 =>
 FA (nat_lit 2) x13 fun x14 =>
 LD x14 h12 fun x15 =>
 SUB Pr 3 true x15 (.int .i64 (nat_lit 1)) fun x16 =>
 NC x0 fun x17 =>
 FA (nat_lit 2) x17 fun x18 =>
 ST (nat_lit 1) x18 x16 h12 fun h19 =>
 kr x11 h19) fun j20 =>
 NC x0 fun x21 =>
 FA (nat_lit 5) x21 fun x22 =>
 LD x22 h8 fun x23 =>
 OV (unOpA .not x23) fun x24 =>
 IFB x24 (B103x83 x0 h8 x7 cl j20 kp)
 (j20 x7 h8)) kp
noncomputable def F103 (fu : Nat) (oR : FuncId → List AV → Option AV) (cl : CL) (args : List AV) (h1 : Heap) (kr : KR) (kp : KP) : Ans := AR1 args fun x0 =>
 cl (nat_lit 161) [x0] h1 (fun x2 h3 =>
 OV (unOpA .not x2) fun x6 =>
 IFB x6 (kr (.int .i64 (nat_lit 0)) h3)
 (B103x84 cl x0 h3 kr kp)) kp

theorem eqF103 : F103 = fun fu oR => compF Pr fu oR 103 1 := by kernel_rfl

noncomputable def B104x39 (x12 : AV) (x17 : AV) (cl : CL) (x0 : AV) (h18 : Heap) (x6 : AV) (j8 : AV → Heap → Ans) (kp : KP) (kr : KR) : Ans := SEL x12 x17 (.bool false) fun x19 =>
 IFB x19 (cl (nat_lit 164) [x0] h18 (fun x20 h21 =>
 BSL (nat_lit 3) (nat_lit 1) [(.int .i64 (nat_lit 0))] (nat_lit 1) [((nat_lit 0), x20)] h21 fun x24 h25 =>
 GEN (builtinF .append Pr [90, 90] [x6, x24] h25) cl (fun x26 h27 =>
 j8 x26 h27) kp) kp)
 (cl (nat_lit 159) [x0, (.str (nat_lit 1) (nat_lit 125))] h18 (fun x30 h31 =>
 OV (buildA Pr 92 [((nat_lit 0), (.int .i64 (nat_lit 53))), ((nat_lit 4), x6)]) fun x34 =>
 cl (nat_lit 163) [x0, x34] h31 (fun x35 h36 =>
 kr x35 h36) kp) kp)
noncomputable def B104x48 (x0 : AV) (h7 : Heap) (cl : CL) (x6 : AV) (j8 : AV → Heap → Ans) (kp : KP) (kr : KR) : Ans := NC x0 fun x9 =>
 FA (nat_lit 5) x9 fun x10 =>
 LD x10 h7 fun x11 =>
 OV (unOpA .not x11) fun x12 =>
 JO (fun x13 h14 =>
 JO (fun x15 h16 =>
 JO (fun x17 h18 =>
 B104x39 x12 x17 cl x0 h18 x6 j8 kp kr) fun j40 =>
 GW true x12 (OV (unOpA .not x15) fun x41 =>
 j40 x41 h16)
 (j40 undefA h16)) fun j42 =>
 GW true x12 (cl (nat_lit 102) [x13, (.str (nat_lit 1) (nat_lit 125))] h14 (fun x43 h44 =>
 j42 x43 h44) kp)
 (j42 undefA h14)) fun j47 =>
 GW true x12 (j47 x0 h7)
 (j47 undefA h7)
noncomputable def F104 (fu : Nat) (oR : FuncId → List AV → Option AV) (cl : CL) (args : List AV) (h1 : Heap) (kr : KR) (kp : KP) : Ans := AR1 args fun x0 =>
 cl (nat_lit 159) [x0, (.str (nat_lit 1) (nat_lit 123))] h1 (fun x2 h3 =>
 LP fu (fun _ _ => Ans.no) (fun j8 x6 h7 =>
 B104x48 x0 h7 cl x6 j8 kp kr) (.nilslice) h3) kp

theorem eqF104 : F104 = fun fu oR => compF Pr fu oR 104 1 := by kernel_rfl

noncomputable def B105x48 (x3 : AV) (h11 : Heap) (x9 : AV) (cl : CL) (kr : KR) (kp : KP) : Ans := LDN (nat_lit 2) x3 h11 fun x37 =>
 FA (nat_lit 4) x9 fun x38 =>
 LD x38 h11 fun x39 =>
 SA (nat_lit 1) x39 (.int .i64 (nat_lit 0)) fun x40 =>
 LD x40 h11 fun x41 =>
 cl (nat_lit 105) [x37, x41] h11 (fun x42 h43 =>
 ADD Pr 9 true (.str (nat_lit 2) (nat_lit 10276)) x42 fun x46 =>
 ADD Pr 9 true x46 (.str (nat_lit 1) (nat_lit 41)) fun x47 =>
 kr x47 h43) kp
noncomputable def B105x65 (x9 : AV) (h11 : Heap) (x3 : AV) (cl : CL) (kr : KR) (kp : KP) : Ans := FA (nat_lit 1) x9 fun x50 =>
 LD x50 h11 fun x51 =>
 ADD Pr 9 true x51 (.str (nat_lit 1) (nat_lit 91)) fun x52 =>
 LDN (nat_lit 2) x3 h11 fun x53 =>
 FA (nat_lit 4) x9 fun x54 =>
 LD x54 h11 fun x55 =>
 SA (nat_lit 1) x55 (.int .i64 (nat_lit 0)) fun x56 =>
 LD x56 h11 fun x57 =>
 cl (nat_lit 105) [x53, x57] h11 (fun x58 h59 =>
 LD x50 h59 fun x62 =>
 EQV x51 x62 <|
 ADD Pr 9 false x52 x58 fun x63 =>
 ADD Pr 9 true x63 (.str (nat_lit 1) (nat_lit 93)) fun x64 =>
 kr x64 h59) kp
noncomputable def B105x83 (x3 : AV) (h11 : Heap) (x9 : AV) (cl : CL) (kr : KR) (kp : KP) : Ans := LDN (nat_lit 2) x3 h11 fun x67 =>
 FA (nat_lit 4) x9 fun x68 =>
 LD x68 h11 fun x69 =>
 SA (nat_lit 1) x69 (.int .i64 (nat_lit 0)) fun x70 =>
 LD x70 h11 fun x71 =>
 FA (nat_lit 1) x9 fun x72 =>
 LD x72 h11 fun x73 =>
 cl (nat_lit 105) [x67, x71] h11 (fun x74 h75 =>
 LD x72 h75 fun x78 =>
 EQV x73 x78 <|
 ADD Pr 9 true (.str (nat_lit 1) (nat_lit 40)) x74 fun x79 =>
 ADD Pr 9 true x79 (.str (nat_lit 4) (nat_lit 544106784)) fun x80 =>
 ADD Pr 9 false x80 x73 fun x81 =>
 ADD Pr 9 true x81 (.str (nat_lit 1) (nat_lit 41)) fun x82 =>
 kr x82 h75) kp
noncomputable def B105x127 (x3 : AV) (h11 : Heap) (x9 : AV) (cl : CL) (kr : KR) (kp : KP) : Ans := LDN (nat_lit 2) x3 h11 fun x85 =>
 FA (nat_lit 4) x9 fun x86 =>
 LD x86 h11 fun x87 =>
 SA (nat_lit 1) x87 (.int .i64 (nat_lit 0)) fun x88 =>
 LD x88 h11 fun x89 =>
 LDN (nat_lit 2) x3 h11 fun x90 =>
 FA (nat_lit 4) x9 fun x91 =>
 LD x91 h11 fun x92 =>
 SA (nat_lit 1) x92 (.int .i64 (nat_lit 1)) fun x93 =>
 LD x93 h11 fun x94 =>
 LDN (nat_lit 2) x3 h11 fun x95 =>
 FA (nat_lit 4) x9 fun x96 =>
 LD x96 h11 fun x97 =>
 SA (nat_lit 1) x97 (.int .i64 (nat_lit 2)) fun x98 =>
 LD x98 h11 fun x99 =>
 cl (nat_lit 105) [x85, x89] h11 (fun x100 h101 =>
 LD x98 h101 fun x104 =>
 EQV x99 x104 <|
 LD x96 h101 fun x105 =>
 EQV x97 x105 <|
 LDN (nat_lit 2) x3 h101 fun x106 =>
 EQV x95 x106 <|
 LD x93 h101 fun x107 =>
 EQV x94 x107 <|
 LD x91 h101 fun x108 =>
 EQV x92 x108 <|
 LDN (nat_lit 2) x3 h101 fun x109 =>
 EQV x90 x109 <|
 ADD Pr 9 true (.str (nat_lit 1) (nat_lit 40)) x100 fun x110 =>
 ADD Pr 9 true x110 (.str (nat_lit 3) (nat_lit 2113312)) fun x111 =>
 cl (nat_lit 105) [x90, x94] h101 (fun x112 h113 =>
 LD x98 h113 fun x116 =>
 EQV x99 x116 <|
 LD x96 h113 fun x117 =>
 EQV x97 x117 <|
 LDN (nat_lit 2) x3 h113 fun x118 =>
 EQV x95 x118 <|
 ADD Pr 9 false x111 x112 fun x119 =>
 ADD Pr 9 true x119 (.str (nat_lit 3) (nat_lit 2112032)) fun x120 =>
 cl (nat_lit 105) [x95, x99] h113 (fun x121 h122 =>
 ADD Pr 9 false x120 x121 fun x125 =>
 ADD Pr 9 true x125 (.str (nat_lit 1) (nat_lit 41)) fun x126 =>
 kr x126 h122) kp) kp) kp
noncomputable def B105x140 (x3 : AV) (h11 : Heap) (x9 : AV) (cl : CL) (kr : KR) (kp : KP) : Ans := LDN (nat_lit 2) x3 h11 fun x129 =>
 FA (nat_lit 4) x9 fun x130 =>
 LD x130 h11 fun x131 =>
 SA (nat_lit 1) x131 (.int .i64 (nat_lit 0)) fun x132 =>
 LD x132 h11 fun x133 =>
 cl (nat_lit 105) [x129, x133] h11 (fun x134 h135 =>
 ADD Pr 9 true (.str (nat_lit 2) (nat_lit 8488)) x134 fun x138 =>
 ADD Pr 9 true x138 (.str (nat_lit 1) (nat_lit 41)) fun x139 =>
 kr x139 h135) kp
noncomputable def B105x153 (x3 : AV) (h11 : Heap) (x9 : AV) (cl : CL) (kr : KR) (kp : KP) : Ans := LDN (nat_lit 2) x3 h11 fun x142 =>
 FA (nat_lit 4) x9 fun x143 =>
 LD x143 h11 fun x144 =>
 SA (nat_lit 1) x144 (.int .i64 (nat_lit 0)) fun x145 =>
 LD x145 h11 fun x146 =>
 cl (nat_lit 105) [x142, x146] h11 (fun x147 h148 =>
 ADD Pr 9 true (.str (nat_lit 2) (nat_lit 11560)) x147 fun x151 =>
 ADD Pr 9 true x151 (.str (nat_lit 1) (nat_lit 41)) fun x152 =>
 kr x152 h148) kp
noncomputable def B105x180 (x3 : AV) (h11 : Heap) (x9 : AV) (cl : CL) (kr : KR) (kp : KP) : Ans := LDN (nat_lit 2) x3 h11 fun x155 =>
 FA (nat_lit 4) x9 fun x156 =>
 LD x156 h11 fun x157 =>
 SA (nat_lit 1) x157 (.int .i64 (nat_lit 0)) fun x158 =>
 LD x158 h11 fun x159 =>
 LDN (nat_lit 2) x3 h11 fun x160 =>
 FA (nat_lit 4) x9 fun x161 =>
 LD x161 h11 fun x162 =>
 SA (nat_lit 1) x162 (.int .i64 (nat_lit 1)) fun x163 =>
 LD x163 h11 fun x164 =>
 cl (nat_lit 105) [x155, x159] h11 (fun x165 h166 =>
 LD x163 h166 fun x169 =>
 EQV x164 x169 <|
 LD x161 h166 fun x170 =>
 EQV x162 x170 <|
 LDN (nat_lit 2) x3 h166 fun x171 =>
 EQV x160 x171 <|
 ADD Pr 9 true (.str (nat_lit 1) (nat_lit 40)) x165 fun x172 =>
 ADD Pr 9 true x172 (.str (nat_lit 1) (nat_lit 32)) fun x173 =>
 cl (nat_lit 105) [x160, x164] h166 (fun x174 h175 =>
 ADD Pr 9 false x173 x174 fun x178 =>
 ADD Pr 9 true x178 (.str (nat_lit 1) (nat_lit 41)) fun x179 =>
 kr x179 h175) kp) kp
noncomputable def B105x195 (x9 : AV) (h11 : Heap) (x3 : AV) (cl : CL) (kr : KR) (kp : KP) : Ans := FA (nat_lit 1) x9 fun x182 =>
 LD x182 h11 fun x183 =>
 ADD Pr 9 true x183 (.str (nat_lit 1) (nat_lit 40)) fun x184 =>
 LDN (nat_lit 2) x3 h11 fun x185 =>
 FA (nat_lit 4) x9 fun x186 =>
 LD x186 h11 fun x187 =>
 cl (nat_lit 166) [x185, x187] h11 (fun x188 h189 =>
 LD x182 h189 fun x192 =>
 EQV x183 x192 <|
 ADD Pr 9 false x184 x188 fun x193 =>
 ADD Pr 9 true x193 (.str (nat_lit 1) (nat_lit 41)) fun x194 =>
 kr x194 h189) kp
noncomputable def B105x231 (x211 : AV) (x3 : AV) (h205 : Heap) (x9 : AV) (cl : CL) (j215 : AV → Heap → Ans) (kp : KP) : Ans := ADD Pr 9 true x211 (.str (nat_lit 2) (nat_lit 8236)) fun x220 =>
 LDN (nat_lit 2) x3 h205 fun x221 =>
 FA (nat_lit 4) x9 fun x222 =>
 LD x222 h205 fun x223 =>
 SA (nat_lit 1) x223 (.int .i64 (nat_lit 1)) fun x224 =>
 LD x224 h205 fun x225 =>
 cl (nat_lit 105) [x221, x225] h205 (fun x226 h227 =>
 ADD Pr 9 false x220 x226 fun x230 =>
 j215 x230 h227) kp
noncomputable def B105x232 (x3 : AV) (h11 : Heap) (x9 : AV) (cl : CL) (kr : KR) (kp : KP) : Ans := LDN (nat_lit 2) x3 h11 fun x197 =>
 FA (nat_lit 4) x9 fun x198 =>
 LD x198 h11 fun x199 =>
 SA (nat_lit 1) x199 (.int .i64 (nat_lit 0)) fun x200 =>
 LD x200 h11 fun x201 =>
 FA (nat_lit 2) x9 fun x202 =>
 LD x202 h11 fun x203 =>
 cl (nat_lit 105) [x197, x201] h11 (fun x204 h205 =>
 LD x202 h205 fun x208 =>
 EQV x203 x208 <|
 ADD Pr 9 true (.str (nat_lit 6) (nat_lit 44480450031731)) x204 fun x209 =>
 ADD Pr 9 true x209 (.str (nat_lit 2) (nat_lit 8236)) fun x210 =>
 ADD Pr 9 false x210 x203 fun x211 =>
 JO (fun x212 h213 =>
 ADD Pr 9 true x212 (.str (nat_lit 1) (nat_lit 41)) fun x214 =>
 kr x214 h213) fun j215 =>
 FA (nat_lit 4) x9 fun x216 =>
 LD x216 h205 fun x217 =>
 LENS x217 fun x218 =>
 EQL Pr 3 true x218 (.int .i64 (nat_lit 2)) fun x219 =>
 IFB x219 (B105x231 x211 x3 h205 x9 cl j215 kp)
 (j215 x211 h205)) kp
noncomputable def B105x253 (x9 : AV) (h234 : Heap) (x3 : AV) (cl : CL) (kr : KR) (kp : KP) : Ans := FA (nat_lit 0) x9 fun x235 =>
 LD x235 h234 fun x236 =>
 LDN (nat_lit 2) x3 h234 fun x237 =>
 FA (nat_lit 4) x9 fun x238 =>
 LD x238 h234 fun x239 =>
 cl (nat_lit 167) [x236] h234 (fun x240 h241 =>
 LD x238 h241 fun x244 =>
 EQV x239 x244 <|
 LDN (nat_lit 2) x3 h241 fun x245 =>
 EQV x237 x245 <|
 ADD Pr 9 true x240 (.str (nat_lit 1) (nat_lit 40)) fun x246 =>
 cl (nat_lit 166) [x237, x239] h241 (fun x247 h248 =>
 ADD Pr 9 false x246 x247 fun x251 =>
 ADD Pr 9 true x251 (.str (nat_lit 1) (nat_lit 41)) fun x252 =>
 kr x252 h248) kp) kp
noncomputable def B105x291 (x3 : AV) (h234 : Heap) (x9 : AV) (cl : CL) (kr : KR) (kp : KP) : Ans := LDN (nat_lit 2) x3 h234 fun x254 =>
 FA (nat_lit 4) x9 fun x255 =>
 LD x255 h234 fun x256 =>
 SA (nat_lit 1) x256 (.int .i64 (nat_lit 0)) fun x257 =>
 LD x257 h234 fun x258 =>
 FA (nat_lit 0) x9 fun x259 =>
 LD x259 h234 fun x260 =>
 LDN (nat_lit 2) x3 h234 fun x261 =>
 FA (nat_lit 4) x9 fun x262 =>
 LD x262 h234 fun x263 =>
 SA (nat_lit 1) x263 (.int .i64 (nat_lit 1)) fun x264 =>
 LD x264 h234 fun x265 =>
 cl (nat_lit 105) [x254, x258] h234 (fun x266 h267 =>
 LD x264 h267 fun x270 =>
 EQV x265 x270 <|
 LD x262 h267 fun x271 =>
 EQV x263 x271 <|
 LDN (nat_lit 2) x3 h267 fun x272 =>
 EQV x261 x272 <|
 LD x259 h267 fun x273 =>
 EQV x260 x273 <|
 ADD Pr 9 true (.str (nat_lit 1) (nat_lit 40)) x266 fun x274 =>
 ADD Pr 9 true x274 (.str (nat_lit 1) (nat_lit 32)) fun x275 =>
 cl (nat_lit 168) [x260] h267 (fun x276 h277 =>
 LD x264 h277 fun x280 =>
 EQV x265 x280 <|
 LD x262 h277 fun x281 =>
 EQV x263 x281 <|
 LDN (nat_lit 2) x3 h277 fun x282 =>
 EQV x261 x282 <|
 ADD Pr 9 false x275 x276 fun x283 =>
 ADD Pr 9 true x283 (.str (nat_lit 1) (nat_lit 32)) fun x284 =>
 cl (nat_lit 105) [x261, x265] h277 (fun x285 h286 =>
 ADD Pr 9 false x284 x285 fun x289 =>
 ADD Pr 9 true x289 (.str (nat_lit 1) (nat_lit 41)) fun x290 =>
 kr x290 h286) kp) kp) kp
noncomputable def B105x298 (x13 : AV) (j292 : AV → Heap → Ans) (h11 : Heap) : Ans := EQL Pr 3 true x13 (.int .i64 (nat_lit 28)) fun x294 =>
 IFB x294 (j292 x294 h11)
 (EQL Pr 3 true x13 (.int .i64 (nat_lit 29)) fun x295 =>
 IFB x295 (j292 x295 h11)
 (EQL Pr 3 true x13 (.int .i64 (nat_lit 31)) fun x296 =>
 IFB x296 (j292 x296 h11)
 (EQL Pr 3 true x13 (.int .i64 (nat_lit 32)) fun x297 =>
 j292 x297 h11)))
noncomputable def B105x299 (x13 : AV) (x3 : AV) (h11 : Heap) (x9 : AV) (cl : CL) (kr : KR) (kp : KP) : Ans := EQL Pr 3 true x13 (.int .i64 (nat_lit 30)) fun x196 =>
 IFB x196 (B105x232 x3 h11 x9 cl kr kp)
 (JO (fun x233 h234 =>
 IFB x233 (B105x253 x9 h234 x3 cl kr kp)
 (B105x291 x3 h234 x9 cl kr kp)) fun j292 =>
 EQL Pr 3 true x13 (.int .i64 (nat_lit 27)) fun x293 =>
 IFB x293 (j292 x293 h11)
 (B105x298 x13 j292 h11))
noncomputable def B105x300 (x13 : AV) (x3 : AV) (h11 : Heap) (x9 : AV) (cl : CL) (kr : KR) (kp : KP) : Ans := EQL Pr 3 true x13 (.int .i64 (nat_lit 25)) fun x141 =>
 IFB x141 (B105x153 x3 h11 x9 cl kr kp)
 (EQL Pr 3 true x13 (.int .i64 (nat_lit 19)) fun x154 =>
 IFB x154 (B105x180 x3 h11 x9 cl kr kp)
 (EQL Pr 3 true x13 (.int .i64 (nat_lit 26)) fun x181 =>
 IFB x181 (B105x195 x9 h11 x3 cl kr kp)
 (B105x299 x13 x3 h11 x9 cl kr kp)))
noncomputable def B105x301 (x13 : AV) (x3 : AV) (h11 : Heap) (x9 : AV) (cl : CL) (kr : KR) (kp : KP) : Ans := EQL Pr 3 true x13 (.int .i64 (nat_lit 6)) fun x66 =>
 IFB x66 (B105x83 x3 h11 x9 cl kr kp)
 (EQL Pr 3 true x13 (.int .i64 (nat_lit 9)) fun x84 =>
 IFB x84 (B105x127 x3 h11 x9 cl kr kp)
 (EQL Pr 3 true x13 (.int .i64 (nat_lit 12)) fun x128 =>
 IFB x128 (B105x140 x3 h11 x9 cl kr kp)
 (B105x300 x13 x3 h11 x9 cl kr kp)))
noncomputable def B105x302 (x13 : AV) (x9 : AV) (h11 : Heap) (kr : KR) (x3 : AV) (cl : CL) (kp : KP) : Ans := EQL Pr 3 true x13 (.int .i64 (nat_lit 3)) fun x33 =>
 IFB x33 (FA (nat_lit 1) x9 fun x34 =>
 LD x34 h11 fun x35 =>
 kr x35 h11)
 (EQL Pr 3 true x13 (.int .i64 (nat_lit 4)) fun x36 =>
 IFB x36 (B105x48 x3 h11 x9 cl kr kp)
 (EQL Pr 3 true x13 (.int .i64 (nat_lit 5)) fun x49 =>
 IFB x49 (B105x65 x9 h11 x3 cl kr kp)
 (B105x301 x13 x3 h11 x9 cl kr kp)))
noncomputable def B105x303 (x13 : AV) (x9 : AV) (h11 : Heap) (cl : CL) (kr : KR) (kp : KP) (x3 : AV) : Ans := EQL Pr 3 true x13 (.int .i64 (nat_lit 1)) fun x21 =>
 IFB x21 (FA (nat_lit 1) x9 fun x22 =>
 LD x22 h11 fun x23 =>
 cl (nat_lit 165) [x23] h11 (fun x24 h25 =>
 kr x24 h25) kp)
 (EQL Pr 3 true x13 (.int .i64 (nat_lit 2)) fun x28 =>
 IFB x28 (FA (nat_lit 1) x9 fun x29 =>
 LD x29 h11 fun x30 =>
 ADD Pr 9 true (.str (nat_lit 2) (nat_lit 12072)) x30 fun x31 =>
 ADD Pr 9 true x31 (.str (nat_lit 2) (nat_lit 10543)) fun x32 =>
 kr x32 h11)
 (B105x302 x13 x9 h11 kr x3 cl kp))
noncomputable def F105 (fu : Nat) (oR : FuncId → List AV → Option AV) (cl : CL) (args : List AV) (h2 : Heap) (kr : KR) (kp : KP) : Ans := AR2 args fun x0 x1 =>
 BOX 37 x0 h2 fun x3 h4 =>
 FA (nat_lit 0) x3 fun x5 =>
 LD x5 h4 fun x6 =>
 SA (nat_lit 5) x6 x1 fun x7 =>
 LDN (nat_lit 5) x7 h4 fun x8 =>
 NEWC (.n (some (.int .i64 (nat_lit 0))) (.n (some (.str (nat_lit 0) (nat_lit 0))) (.n (some (.int .i64 (nat_lit 0))) .e .e) .e) (.n (some (.str (nat_lit 0) (nat_lit 0))) (.n (some (.nilslice)) .e .e) .e)) (nat_lit 5) 92 h4 fun x9 h10 =>
 ST (nat_lit 5) x9 x8 h10 fun h11 =>
 FA (nat_lit 0) x9 fun x12 =>
 LD x12 h11 fun x13 =>
 EQL Pr 3 true x13 (.int .i64 (nat_lit 0)) fun x14 =>
 IFB x14 (FA (nat_lit 3) x9 fun x15 =>
 LD x15 h11 fun x16 =>
 cl (nat_lit 13) [x16] h11 (fun x17 h18 =>
 kr x17 h18) kp)
 (B105x303 x13 x9 h11 cl kr kp x3)

theorem eqF105 : F105 = fun fu oR => compF Pr fu oR 105 2 := by kernel_rfl
end
end Go.Ev
