import Derived.Test.YtfgmimcbjjbplaaGreatDoorTx0
set_option linter.all false
namespace Go.Ev
noncomputable section

noncomputable def B310x59 (x5 : AV) (h6 : Heap) (x4 : AV) (x0 : AV) (j7 : AV → AV → Heap → Ans) : Ans := BOP Pr .rem 142 true x5 (.int .u64 (nat_lit 100000000)) fun x9 =>
 OV (convV Pr h6 142 140 x9) fun x10 =>
 BOP Pr .quo 142 true x5 (.int .u64 (nat_lit 100000000)) fun x11 =>
 BOP Pr .quo 140 true x10 (.int .u32 (nat_lit 10000)) fun x12 =>
 BOP Pr .rem 140 true x10 (.int .u32 (nat_lit 10000)) fun x13 =>
 BOP Pr .quo 140 true x13 (.int .u32 (nat_lit 100)) fun x14 =>
 BOP Pr .mul 140 true x14 (.int .u32 (nat_lit 2)) fun x15 =>
 BOP Pr .rem 140 true x13 (.int .u32 (nat_lit 100)) fun x16 =>
 BOP Pr .mul 140 true x16 (.int .u32 (nat_lit 2)) fun x17 =>
 BOP Pr .quo 140 true x12 (.int .u32 (nat_lit 100)) fun x18 =>
 BOP Pr .mul 140 true x18 (.int .u32 (nat_lit 2)) fun x19 =>
 BOP Pr .rem 140 true x12 (.int .u32 (nat_lit 100)) fun x20 =>
 BOP Pr .mul 140 true x20 (.int .u32 (nat_lit 2)) fun x21 =>
 SUB Pr 3 true x4 (.int .i64 (nat_lit 1)) fun x22 =>
 SUB Pr 3 true x4 (.int .i64 (nat_lit 2)) fun x23 =>
 ADD Pr 140 true x17 (.int .u32 (nat_lit 1)) fun x24 =>
 SAT (.str (nat_lit 200) (nat_lit 9938655150514779720929161263213647789093395803754561035662628441001274968862597953692946393464194303251501229616933063375291039650253924995779037586872666250072396106842829501851083234932712366962979930255066872747696324303968523733872590022915936937156789320557469720923390131174387415513794469201054844961267015441141542819553679203788501627738430154234325528792480477051962324423099068299719245009424585859096469223093538032153047611602695245052081125123941502624659711709950000)) x24 fun x25 =>
 SAT (.str (nat_lit 200) (nat_lit 9938655150514779720929161263213647789093395803754561035662628441001274968862597953692946393464194303251501229616933063375291039650253924995779037586872666250072396106842829501851083234932712366962979930255066872747696324303968523733872590022915936937156789320557469720923390131174387415513794469201054844961267015441141542819553679203788501627738430154234325528792480477051962324423099068299719245009424585859096469223093538032153047611602695245052081125123941502624659711709950000)) x17 fun x26 =>
 SA (nat_lit 1) x0 x22 fun x27 =>
 ST (nat_lit 1) x27 x25 h6 fun h28 =>
 SA (nat_lit 1) x0 x23 fun x29 =>
 ST (nat_lit 1) x29 x26 h28 fun h30 =>
 SUB Pr 3 true x4 (.int .i64 (nat_lit 3)) fun x31 =>
 SUB Pr 3 true x4 (.int .i64 (nat_lit 4)) fun x32 =>
 ADD Pr 140 true x15 (.int .u32 (nat_lit 1)) fun x33 =>
 SAT (.str (nat_lit 200) (nat_lit 9938655150514779720929161263213647789093395803754561035662628441001274968862597953692946393464194303251501229616933063375291039650253924995779037586872666250072396106842829501851083234932712366962979930255066872747696324303968523733872590022915936937156789320557469720923390131174387415513794469201054844961267015441141542819553679203788501627738430154234325528792480477051962324423099068299719245009424585859096469223093538032153047611602695245052081125123941502624659711709950000)) x33 fun x34 =>
 SAT (.str (nat_lit 200) (nat_lit 9938655150514779720929161263213647789093395803754561035662628441001274968862597953692946393464194303251501229616933063375291039650253924995779037586872666250072396106842829501851083234932712366962979930255066872747696324303968523733872590022915936937156789320557469720923390131174387415513794469201054844961267015441141542819553679203788501627738430154234325528792480477051962324423099068299719245009424585859096469223093538032153047611602695245052081125123941502624659711709950000)) x15 fun x35 =>
 SA (nat_lit 1) x0 x31 fun x36 =>
 ST (nat_lit 1) x36 x34 h30 fun h37 =>
 SA (nat_lit 1) x0 x32 fun x38 =>
 ST (nat_lit 1) x38 x35 h37 fun h39 =>
 SUB Pr 3 true x4 (.int .i64 (nat_lit 5)) fun x40 =>
 SUB Pr 3 true x4 (.int .i64 (nat_lit 6)) fun x41 =>
 ADD Pr 140 true x21 (.int .u32 (nat_lit 1)) fun x42 =>
 SAT (.str (nat_lit 200) (nat_lit 9938655150514779720929161263213647789093395803754561035662628441001274968862597953692946393464194303251501229616933063375291039650253924995779037586872666250072396106842829501851083234932712366962979930255066872747696324303968523733872590022915936937156789320557469720923390131174387415513794469201054844961267015441141542819553679203788501627738430154234325528792480477051962324423099068299719245009424585859096469223093538032153047611602695245052081125123941502624659711709950000)) x42 fun x43 =>
 SAT (.str (nat_lit 200) (nat_lit 9938655150514779720929161263213647789093395803754561035662628441001274968862597953692946393464194303251501229616933063375291039650253924995779037586872666250072396106842829501851083234932712366962979930255066872747696324303968523733872590022915936937156789320557469720923390131174387415513794469201054844961267015441141542819553679203788501627738430154234325528792480477051962324423099068299719245009424585859096469223093538032153047611602695245052081125123941502624659711709950000)) x21 fun x44 =>
 SA (nat_lit 1) x0 x40 fun x45 =>
 ST (nat_lit 1) x45 x43 h39 fun h46 =>
 SA (nat_lit 1) x0 x41 fun x47 =>
 ST (nat_lit 1) x47 x44 h46 fun h48 =>
 SUB Pr 3 true x4 (.int .i64 (nat_lit 7)) fun x49 =>
 SUB Pr 3 true x4 (.int .i64 (nat_lit 8)) fun x50 =>
 ADD Pr 140 true x19 (.int .u32 (nat_lit 1)) fun x51 =>
 SAT (.str (nat_lit 200) (nat_lit 9938655150514779720929161263213647789093395803754561035662628441001274968862597953692946393464194303251501229616933063375291039650253924995779037586872666250072396106842829501851083234932712366962979930255066872747696324303968523733872590022915936937156789320557469720923390131174387415513794469201054844961267015441141542819553679203788501627738430154234325528792480477051962324423099068299719245009424585859096469223093538032153047611602695245052081125123941502624659711709950000)) x51 fun x52 =>
 SAT (.str (nat_lit 200) (nat_lit 9938655150514779720929161263213647789093395803754561035662628441001274968862597953692946393464194303251501229616933063375291039650253924995779037586872666250072396106842829501851083234932712366962979930255066872747696324303968523733872590022915936937156789320557469720923390131174387415513794469201054844961267015441141542819553679203788501627738430154234325528792480477051962324423099068299719245009424585859096469223093538032153047611602695245052081125123941502624659711709950000)) x19 fun x53 =>
 SA (nat_lit 1) x0 x49 fun x54 =>
 ST (nat_lit 1) x54 x52 h48 fun h55 =>
 SA (nat_lit 1) x0 x50 fun x56 =>
 ST (nat_lit 1) x56 x53 h55 fun h57 =>
 SUB Pr 3 true x4 (.int .i64 (nat_lit 8)) fun x58 =>
 j7 x58 x11 h57
noncomputable def B310x87 (x61 : AV) (x62 : AV) (x0 : AV) (h63 : Heap) (j72 : AV → AV → Heap → Ans) : Ans := BOP Pr .rem 140 true x61 (.int .u32 (nat_lit 100)) fun x74 =>
 BOP Pr .mul 140 true x74 (.int .u32 (nat_lit 2)) fun x75 =>
 BOP Pr .quo 140 true x61 (.int .u32 (nat_lit 100)) fun x76 =>
 SUB Pr 3 true x62 (.int .i64 (nat_lit 1)) fun x77 =>
 SUB Pr 3 true x62 (.int .i64 (nat_lit 2)) fun x78 =>
 ADD Pr 140 true x75 (.int .u32 (nat_lit 1)) fun x79 =>
 SAT (.str (nat_lit 200) (nat_lit 9938655150514779720929161263213647789093395803754561035662628441001274968862597953692946393464194303251501229616933063375291039650253924995779037586872666250072396106842829501851083234932712366962979930255066872747696324303968523733872590022915936937156789320557469720923390131174387415513794469201054844961267015441141542819553679203788501627738430154234325528792480477051962324423099068299719245009424585859096469223093538032153047611602695245052081125123941502624659711709950000)) x79 fun x80 =>
 SAT (.str (nat_lit 200) (nat_lit 9938655150514779720929161263213647789093395803754561035662628441001274968862597953692946393464194303251501229616933063375291039650253924995779037586872666250072396106842829501851083234932712366962979930255066872747696324303968523733872590022915936937156789320557469720923390131174387415513794469201054844961267015441141542819553679203788501627738430154234325528792480477051962324423099068299719245009424585859096469223093538032153047611602695245052081125123941502624659711709950000)) x75 fun x81 =>
 SA (nat_lit 1) x0 x77 fun x82 =>
 ST (nat_lit 1) x82 x80 h63 fun h83 =>
 SA (nat_lit 1) x0 x78 fun x84 =>
 ST (nat_lit 1) x84 x81 h83 fun h85 =>
 SUB Pr 3 true x62 (.int .i64 (nat_lit 2)) fun x86 =>
 j72 x76 x86 h85
noncomputable def B310x88 (x0 : AV) (kr : KR) (x62 : AV) (x61 : AV) (h63 : Heap) : Ans := JO (fun x64 x65 h66 =>
 GTR Pr 3 true x65 (.int .i64 (nat_lit 0)) fun x67 =>
 IFB x67 (ADD Pr 140 true (.int .u32 (nat_lit 48)) x64 fun x68 =>
 OV (convV Pr h66 140 5 x68) fun x69 =>
 SA (nat_lit 1) x0 (.int .i64 (nat_lit 0)) fun x70 =>
 ST (nat_lit 1) x70 x69 h66 fun h71 =>
 kr (.tuple []) h71)
 (kr (.tuple []) h66)) fun j72 =>
 GEQ Pr 3 true x62 (.int .i64 (nat_lit 2)) fun x73 =>
 IFB x73 (B310x87 x61 x62 x0 h63 j72)
 (j72 x61 x62 h63)
noncomputable def B310x116 (x60 : AV) (x4 : AV) (x0 : AV) (h6 : Heap) (j89 : AV → AV → Heap → Ans) : Ans := BOP Pr .rem 140 true x60 (.int .u32 (nat_lit 10000)) fun x91 =>
 BOP Pr .quo 140 true x60 (.int .u32 (nat_lit 10000)) fun x92 =>
 BOP Pr .quo 140 true x91 (.int .u32 (nat_lit 100)) fun x93 =>
 BOP Pr .mul 140 true x93 (.int .u32 (nat_lit 2)) fun x94 =>
 BOP Pr .rem 140 true x91 (.int .u32 (nat_lit 100)) fun x95 =>
 BOP Pr .mul 140 true x95 (.int .u32 (nat_lit 2)) fun x96 =>
 SUB Pr 3 true x4 (.int .i64 (nat_lit 1)) fun x97 =>
 SUB Pr 3 true x4 (.int .i64 (nat_lit 2)) fun x98 =>
 ADD Pr 140 true x96 (.int .u32 (nat_lit 1)) fun x99 =>
 SAT (.str (nat_lit 200) (nat_lit 9938655150514779720929161263213647789093395803754561035662628441001274968862597953692946393464194303251501229616933063375291039650253924995779037586872666250072396106842829501851083234932712366962979930255066872747696324303968523733872590022915936937156789320557469720923390131174387415513794469201054844961267015441141542819553679203788501627738430154234325528792480477051962324423099068299719245009424585859096469223093538032153047611602695245052081125123941502624659711709950000)) x99 fun x100 =>
 SAT (.str (nat_lit 200) (nat_lit 9938655150514779720929161263213647789093395803754561035662628441001274968862597953692946393464194303251501229616933063375291039650253924995779037586872666250072396106842829501851083234932712366962979930255066872747696324303968523733872590022915936937156789320557469720923390131174387415513794469201054844961267015441141542819553679203788501627738430154234325528792480477051962324423099068299719245009424585859096469223093538032153047611602695245052081125123941502624659711709950000)) x96 fun x101 =>
 SA (nat_lit 1) x0 x97 fun x102 =>
 ST (nat_lit 1) x102 x100 h6 fun h103 =>
 SA (nat_lit 1) x0 x98 fun x104 =>
 ST (nat_lit 1) x104 x101 h103 fun h105 =>
 SUB Pr 3 true x4 (.int .i64 (nat_lit 3)) fun x106 =>
 SUB Pr 3 true x4 (.int .i64 (nat_lit 4)) fun x107 =>
 ADD Pr 140 true x94 (.int .u32 (nat_lit 1)) fun x108 =>
 SAT (.str (nat_lit 200) (nat_lit 9938655150514779720929161263213647789093395803754561035662628441001274968862597953692946393464194303251501229616933063375291039650253924995779037586872666250072396106842829501851083234932712366962979930255066872747696324303968523733872590022915936937156789320557469720923390131174387415513794469201054844961267015441141542819553679203788501627738430154234325528792480477051962324423099068299719245009424585859096469223093538032153047611602695245052081125123941502624659711709950000)) x108 fun x109 =>
 SAT (.str (nat_lit 200) (nat_lit 9938655150514779720929161263213647789093395803754561035662628441001274968862597953692946393464194303251501229616933063375291039650253924995779037586872666250072396106842829501851083234932712366962979930255066872747696324303968523733872590022915936937156789320557469720923390131174387415513794469201054844961267015441141542819553679203788501627738430154234325528792480477051962324423099068299719245009424585859096469223093538032153047611602695245052081125123941502624659711709950000)) x94 fun x110 =>
 SA (nat_lit 1) x0 x106 fun x111 =>
 ST (nat_lit 1) x111 x109 h105 fun h112 =>
 SA (nat_lit 1) x0 x107 fun x113 =>
 ST (nat_lit 1) x113 x110 h112 fun h114 =>
 SUB Pr 3 true x4 (.int .i64 (nat_lit 4)) fun x115 =>
 j89 x92 x115 h114
noncomputable def F310 (fu : Nat) (oR : FuncId → List AV → Option AV) (cl : CL) (args : List AV) (h2 : Heap) (kr : KR) (kp : KP) : Ans := AR2 args fun x0 x1 =>
 LENS x0 fun x3 =>
 LP fu (fun _ _ _ => Ans.no) (fun j7 x4 x5 h6 =>
 GEQ Pr 3 true x4 (.int .i64 (nat_lit 8)) fun x8 =>
 IFB x8 (B310x59 x5 h6 x4 x0 j7)
 (OV (convV Pr h6 142 140 x5) fun x60 =>
 JO (fun x61 x62 h63 =>
 B310x88 x0 kr x62 x61 h63) fun j89 =>
 GEQ Pr 3 true x4 (.int .i64 (nat_lit 4)) fun x90 =>
 IFB x90 (B310x116 x60 x4 x0 h6 j89)
 (j89 x60 x4 h6))) x3 x1 h2

theorem eqF310 : F310 = fun fu oR => compF Pr fu oR 310 2 := by kernel_rfl

noncomputable def B314x37 (cl : CL) (x0 : AV) (h13 : Heap) (x2 : AV) (x3 : AV) (x1 : AV) (x9 : AV) (j11 : AV → Heap → Ans) (kp : KP) : Ans := cl (nat_lit 190) [x0] h13 (fun x16 h17 =>
 OV (fieldA Pr 114 x16 1) fun x20 =>
 cl (nat_lit 256) [x2, x20] h17 (fun x21 h22 =>
 SA (nat_lit 1) x3 x21 fun x25 =>
 LD x25 h22 fun x26 =>
 GEN (callV Pr (some x1) [] h22) cl (fun x27 h28 =>
 BSL (nat_lit 3) (nat_lit 1) [(.int .i64 (nat_lit 0)), (.int .i64 (nat_lit 0))] (nat_lit 2) [((nat_lit 0), x9), ((nat_lit 1), x27)] h28 fun x31 h32 =>
 cl (nat_lit 251) [x0, x26, x31] h32 (fun x33 h34 =>
 j11 x33 h34) kp) kp) kp) kp
noncomputable def F314 (fu : Nat) (oR : FuncId → List AV → Option AV) (cl : CL) (args : List AV) (h4 : Heap) (kr : KR) (kp : KP) : Ans := AR4 args fun x0 x1 x2 x3 =>
 GEN (callV Pr (some x1) [] h4) cl (fun x5 h6 =>
 LP fu (fun _ _ => Ans.no) (fun j11 x9 h10 =>
 cl (nat_lit 193) [x0, x2] h10 (fun x12 h13 =>
 IFB x12 (B314x37 cl x0 h13 x2 x3 x1 x9 j11 kp)
 (kr x9 h13)) kp) x5 h6) kp

theorem eqF314 : F314 = fun fu oR => compF Pr fu oR 314 4 := by kernel_rfl

noncomputable def F315 (fu : Nat) (oR : FuncId → List AV → Option AV) (cl : CL) (args : List AV) (h1 : Heap) (kr : KR) (kp : KP) : Ans := AR1 args fun x0 =>
 BSL (nat_lit 9) (nat_lit 1) [(.str (nat_lit 0) (nat_lit 0))] (nat_lit 1) [((nat_lit 0), (.str (nat_lit 2) (nat_lit 9766)))] h1 fun x2 h3 =>
 BSL (nat_lit 3) (nat_lit 1) [(.int .i64 (nat_lit 0))] (nat_lit 1) [((nat_lit 0), (.int .i64 (nat_lit 11)))] h3 fun x4 h5 =>
 cl (nat_lit 314) [x0, (.func (.func 337) [x0] []), x2, x4] h5 (fun x6 h7 =>
 kr x6 h7) kp

theorem eqF315 : F315 = fun fu oR => compF Pr fu oR 315 1 := by kernel_rfl

noncomputable def F316 (fu : Nat) (oR : FuncId → List AV → Option AV) (cl : CL) (args : List AV) (h1 : Heap) (kr : KR) (kp : KP) : Ans := AR1 args fun x0 =>
 cl (nat_lit 192) [x0, (.str (nat_lit 1) (nat_lit 40))] h1 (fun x2 h3 =>
 cl (nat_lit 194) [x0] h3 (fun x6 h7 =>
 cl (nat_lit 192) [x0, (.str (nat_lit 1) (nat_lit 41))] h7 (fun x10 h11 =>
 kr x6 h11) kp) kp) kp

theorem eqF316 : F316 = fun fu oR => compF Pr fu oR 316 1 := by kernel_rfl

noncomputable def B318x33 (x0 : AV) (h7 : Heap) (cl : CL) (x2 : AV) (kr : KR) (kp : KP) : Ans := NC x0 fun x10 =>
 FA (nat_lit 1) x10 fun x11 =>
 LD x11 h7 fun x12 =>
 ADD Pr 3 true x12 (.int .i64 (nat_lit 1)) fun x13 =>
 NC x0 fun x14 =>
 FA (nat_lit 1) x14 fun x15 =>
 ST (nat_lit 1) x15 x13 h7 fun h16 =>
 BSL (nat_lit 9) (nat_lit 1) [(.str (nat_lit 0) (nat_lit 0))] (nat_lit 1) [((nat_lit 0), (.str (nat_lit 1) (nat_lit 59)))] h16 fun x17 h18 =>
 cl (nat_lit 193) [x0, x17] h18 (fun x19 h20 =>
 IFB x19 (OV (buildA Pr 92 [((nat_lit 0), (.int .i64 (nat_lit 41)))]) fun x23 =>
 ST (nat_lit 5) x2 x23 h20 fun h24 =>
 LDN (nat_lit 5) x2 h24 fun x25 =>
 kr x25 h24)
 (cl (nat_lit 338) [x0] h20 (fun x26 h27 =>
 OV (buildA Pr 92 [((nat_lit 0), (.int .i64 (nat_lit 41))), ((nat_lit 4), x26)]) fun x30 =>
 ST (nat_lit 5) x2 x30 h27 fun h31 =>
 LDN (nat_lit 5) x2 h31 fun x32 =>
 kr x32 h31) kp)) kp
noncomputable def B318x54 (x0 : AV) (h37 : Heap) (cl : CL) (x2 : AV) (kr : KR) (kp : KP) : Ans := NC x0 fun x40 =>
 FA (nat_lit 1) x40 fun x41 =>
 LD x41 h37 fun x42 =>
 ADD Pr 3 true x42 (.int .i64 (nat_lit 1)) fun x43 =>
 NC x0 fun x44 =>
 FA (nat_lit 1) x44 fun x45 =>
 ST (nat_lit 1) x45 x43 h37 fun h46 =>
 cl (nat_lit 338) [x0] h46 (fun x47 h48 =>
 OV (buildA Pr 92 [((nat_lit 0), (.int .i64 (nat_lit 42))), ((nat_lit 4), x47)]) fun x51 =>
 ST (nat_lit 5) x2 x51 h48 fun h52 =>
 LDN (nat_lit 5) x2 h52 fun x53 =>
 kr x53 h52) kp
noncomputable def B318x71 (x0 : AV) (h58 : Heap) (x2 : AV) (kr : KR) : Ans := NC x0 fun x61 =>
 FA (nat_lit 1) x61 fun x62 =>
 LD x62 h58 fun x63 =>
 ADD Pr 3 true x63 (.int .i64 (nat_lit 1)) fun x64 =>
 NC x0 fun x65 =>
 FA (nat_lit 1) x65 fun x66 =>
 ST (nat_lit 1) x66 x64 h58 fun h67 =>
 OV (buildA Pr 92 [((nat_lit 0), (.int .i64 (nat_lit 47)))]) fun x68 =>
 ST (nat_lit 5) x2 x68 h67 fun h69 =>
 LDN (nat_lit 5) x2 h69 fun x70 =>
 kr x70 h69
noncomputable def B318x88 (x0 : AV) (h75 : Heap) (x2 : AV) (kr : KR) : Ans := NC x0 fun x78 =>
 FA (nat_lit 1) x78 fun x79 =>
 LD x79 h75 fun x80 =>
 ADD Pr 3 true x80 (.int .i64 (nat_lit 1)) fun x81 =>
 NC x0 fun x82 =>
 FA (nat_lit 1) x82 fun x83 =>
 ST (nat_lit 1) x83 x81 h75 fun h84 =>
 OV (buildA Pr 92 [((nat_lit 0), (.int .i64 (nat_lit 48)))]) fun x85 =>
 ST (nat_lit 5) x2 x85 h84 fun h86 =>
 LDN (nat_lit 5) x2 h86 fun x87 =>
 kr x87 h86
noncomputable def B318x105 (x0 : AV) (h92 : Heap) (x2 : AV) (kr : KR) : Ans := NC x0 fun x95 =>
 FA (nat_lit 1) x95 fun x96 =>
 LD x96 h92 fun x97 =>
 ADD Pr 3 true x97 (.int .i64 (nat_lit 1)) fun x98 =>
 NC x0 fun x99 =>
 FA (nat_lit 1) x99 fun x100 =>
 ST (nat_lit 1) x100 x98 h92 fun h101 =>
 OV (buildA Pr 92 [((nat_lit 0), (.int .i64 (nat_lit 49)))]) fun x102 =>
 ST (nat_lit 5) x2 x102 h101 fun h103 =>
 LDN (nat_lit 5) x2 h103 fun x104 =>
 kr x104 h103
noncomputable def B318x137 (x113 : AV) (x2 : AV) (kr : KR) (h116 : Heap) (cl : CL) (x0 : AV) (kp : KP) : Ans := JO (fun h117 =>
 LDN (nat_lit 5) x113 h117 fun x118 =>
 ST (nat_lit 5) x2 x118 h117 fun h119 =>
 LDN (nat_lit 5) x2 h119 fun x120 =>
 kr x120 h119) fun j121 =>
 BSL (nat_lit 9) (nat_lit 1) [(.str (nat_lit 0) (nat_lit 0))] (nat_lit 1) [((nat_lit 0), (.str (nat_lit 1) (nat_lit 59)))] h116 fun x122 h123 =>
 cl (nat_lit 193) [x0, x122] h123 (fun x124 h125 =>
 OV (unOpA .not x124) fun x128 =>
 IFB x128 (cl (nat_lit 194) [x0] h125 (fun x129 h130 =>
 BSL (nat_lit 3) (nat_lit 1) [(.int .i64 (nat_lit 0))] (nat_lit 1) [((nat_lit 0), x129)] h130 fun x133 h134 =>
 FA (nat_lit 4) x113 fun x135 =>
 ST (nat_lit 1) x135 x133 h134 fun h136 =>
 j121  h136) kp)
 (j121  h125)) kp
noncomputable def B318x147 (h109 : Heap) (x2 : AV) (kr : KR) (cl : CL) (x0 : AV) (kp : KP) : Ans := OV (buildA Pr 92 [((nat_lit 0), (.int .i64 (nat_lit 50)))]) fun x112 =>
 NEWC (.n (some (.int .i64 (nat_lit 0))) (.n (some (.str (nat_lit 0) (nat_lit 0))) (.n (some (.int .i64 (nat_lit 0))) .e .e) .e) (.n (some (.str (nat_lit 0) (nat_lit 0))) (.n (some (.nilslice)) .e .e) .e)) (nat_lit 5) 92 h109 fun x113 h114 =>
 ST (nat_lit 5) x113 x112 h114 fun h115 =>
 JO (fun h116 =>
 B318x137 x113 x2 kr h116 cl x0 kp) fun j138 =>
 cl (nat_lit 190) [x0] h115 (fun x139 h140 =>
 OV (fieldA Pr 114 x139 1) fun x143 =>
 EQL Pr 9 true x143 (.str (nat_lit 6) (nat_lit 121437875889522)) fun x144 =>
 IFB x144 (FA (nat_lit 0) x113 fun x145 =>
 ST (nat_lit 1) x145 (.int .i64 (nat_lit 51)) h140 fun h146 =>
 j138  h146)
 (j138  h140)) kp
noncomputable def B318x190 (x0 : AV) (h151 : Heap) (cl : CL) (x2 : AV) (kr : KR) (kp : KP) : Ans := NC x0 fun x154 =>
 FA (nat_lit 1) x154 fun x155 =>
 LD x155 h151 fun x156 =>
 ADD Pr 3 true x156 (.int .i64 (nat_lit 1)) fun x157 =>
 NC x0 fun x158 =>
 FA (nat_lit 1) x158 fun x159 =>
 ST (nat_lit 1) x159 x157 h151 fun h160 =>
 BSL (nat_lit 3) (nat_lit 1) [(.int .i64 (nat_lit 0))] (nat_lit 1) [((nat_lit 0), (.int .i64 (nat_lit 4)))] h160 fun x161 h162 =>
 cl (nat_lit 191) [x0, x161] h162 (fun x163 h164 =>
 OV (buildA Pr 92 [((nat_lit 0), (.int .i64 (nat_lit 52))), ((nat_lit 1), x163)]) fun x167 =>
 NEWC (.n (some (.int .i64 (nat_lit 0))) (.n (some (.str (nat_lit 0) (nat_lit 0))) (.n (some (.int .i64 (nat_lit 0))) .e .e) .e) (.n (some (.str (nat_lit 0) (nat_lit 0))) (.n (some (.nilslice)) .e .e) .e)) (nat_lit 5) 92 h164 fun x168 h169 =>
 ST (nat_lit 5) x168 x167 h169 fun h170 =>
 cl (nat_lit 192) [x0, (.str (nat_lit 1) (nat_lit 91))] h170 (fun x171 h172 =>
 cl (nat_lit 194) [x0] h172 (fun x175 h176 =>
 BSL (nat_lit 3) (nat_lit 1) [(.int .i64 (nat_lit 0))] (nat_lit 1) [((nat_lit 0), x175)] h176 fun x179 h180 =>
 FA (nat_lit 4) x168 fun x181 =>
 ST (nat_lit 1) x181 x179 h180 fun h182 =>
 cl (nat_lit 192) [x0, (.str (nat_lit 1) (nat_lit 93))] h182 (fun x183 h184 =>
 LDN (nat_lit 5) x168 h184 fun x187 =>
 ST (nat_lit 5) x2 x187 h184 fun h188 =>
 LDN (nat_lit 5) x2 h188 fun x189 =>
 kr x189 h188) kp) kp) kp) kp
noncomputable def B318x200 (cl : CL) (x0 : AV) (h151 : Heap) (x2 : AV) (kr : KR) (kp : KP) : Ans := cl (nat_lit 194) [x0] h151 (fun x191 h192 =>
 BSL (nat_lit 3) (nat_lit 1) [(.int .i64 (nat_lit 0))] (nat_lit 1) [((nat_lit 0), x191)] h192 fun x195 h196 =>
 OV (buildA Pr 92 [((nat_lit 0), (.int .i64 (nat_lit 40))), ((nat_lit 4), x195)]) fun x197 =>
 ST (nat_lit 5) x2 x197 h196 fun h198 =>
 LDN (nat_lit 5) x2 h198 fun x199 =>
 kr x199 h198) kp
noncomputable def B318x201 (h92 : Heap) (cl : CL) (x0 : AV) (x2 : AV) (kr : KR) (kp : KP) : Ans := BSL (nat_lit 9) (nat_lit 1) [(.str (nat_lit 0) (nat_lit 0)), (.str (nat_lit 0) (nat_lit 0))] (nat_lit 2) [((nat_lit 0), (.str (nat_lit 4) (nat_lit 1953069157))), ((nat_lit 1), (.str (nat_lit 6) (nat_lit 121437875889522)))] h92 fun x106 h107 =>
 cl (nat_lit 189) [x0, x106] h107 (fun x108 h109 =>
 IFB x108 (B318x147 h109 x2 kr cl x0 kp)
 (BSL (nat_lit 9) (nat_lit 1) [(.str (nat_lit 0) (nat_lit 0))] (nat_lit 1) [((nat_lit 0), (.str (nat_lit 6) (nat_lit 111550592214372)))] h109 fun x148 h149 =>
 cl (nat_lit 189) [x0, x148] h149 (fun x150 h151 =>
 IFB x150 (B318x190 x0 h151 cl x2 kr kp)
 (B318x200 cl x0 h151 x2 kr kp)) kp)) kp
noncomputable def B318x202 (h58 : Heap) (cl : CL) (x0 : AV) (x2 : AV) (kr : KR) (kp : KP) : Ans := BSL (nat_lit 9) (nat_lit 1) [(.str (nat_lit 0) (nat_lit 0))] (nat_lit 1) [((nat_lit 0), (.str (nat_lit 8) (nat_lit 7310870969309884259)))] h58 fun x72 h73 =>
 cl (nat_lit 189) [x0, x72] h73 (fun x74 h75 =>
 IFB x74 (B318x88 x0 h75 x2 kr)
 (BSL (nat_lit 9) (nat_lit 1) [(.str (nat_lit 0) (nat_lit 0))] (nat_lit 1) [((nat_lit 0), (.str (nat_lit 4) (nat_lit 1954047342)))] h75 fun x89 h90 =>
 cl (nat_lit 189) [x0, x89] h90 (fun x91 h92 =>
 IFB x91 (B318x105 x0 h92 x2 kr)
 (B318x201 h92 cl x0 x2 kr kp)) kp)) kp
noncomputable def B318x203 (h7 : Heap) (cl : CL) (x0 : AV) (x2 : AV) (kr : KR) (kp : KP) : Ans := BSL (nat_lit 9) (nat_lit 1) [(.str (nat_lit 0) (nat_lit 0))] (nat_lit 1) [((nat_lit 0), (.str (nat_lit 6) (nat_lit 112650254643824)))] h7 fun x34 h35 =>
 cl (nat_lit 189) [x0, x34] h35 (fun x36 h37 =>
 IFB x36 (B318x54 x0 h37 cl x2 kr kp)
 (BSL (nat_lit 9) (nat_lit 1) [(.str (nat_lit 0) (nat_lit 0))] (nat_lit 1) [((nat_lit 0), (.str (nat_lit 5) (nat_lit 461195539042)))] h37 fun x55 h56 =>
 cl (nat_lit 189) [x0, x55] h56 (fun x57 h58 =>
 IFB x57 (B318x71 x0 h58 x2 kr)
 (B318x202 h58 cl x0 x2 kr kp)) kp)) kp
noncomputable def F318 (fu : Nat) (oR : FuncId → List AV → Option AV) (cl : CL) (args : List AV) (h1 : Heap) (kr : KR) (kp : KP) : Ans := AR1 args fun x0 =>
 NEWC (.n (some (.int .i64 (nat_lit 0))) (.n (some (.str (nat_lit 0) (nat_lit 0))) (.n (some (.int .i64 (nat_lit 0))) .e .e) .e) (.n (some (.str (nat_lit 0) (nat_lit 0))) (.n (some (.nilslice)) .e .e) .e)) (nat_lit 5) 92 h1 fun x2 h3 =>
 BSL (nat_lit 9) (nat_lit 1) [(.str (nat_lit 0) (nat_lit 0))] (nat_lit 1) [((nat_lit 0), (.str (nat_lit 5) (nat_lit 500068610672)))] h3 fun x4 h5 =>
 cl (nat_lit 189) [x0, x4] h5 (fun x6 h7 =>
 IFB x6 (B318x33 x0 h7 cl x2 kr kp)
 (B318x203 h7 cl x0 x2 kr kp)) kp

theorem eqF318 : F318 = fun fu oR => compF Pr fu oR 318 1 := by kernel_rfl

noncomputable def B331x46 (x0 : AV) (h27 : Heap) (cl : CL) (x6 : AV) (x26 : AV) (j8 : AV → Heap → Ans) (kp : KP) : Ans := NC x0 fun x28 =>
 FA (nat_lit 1) x28 fun x29 =>
 LD x29 h27 fun x30 =>
 ADD Pr 3 true x30 (.int .i64 (nat_lit 1)) fun x31 =>
 NC x0 fun x32 =>
 FA (nat_lit 1) x32 fun x33 =>
 ST (nat_lit 1) x33 x31 h27 fun h34 =>
 cl (nat_lit 349) [x0] h34 (fun x35 h36 =>
 BSL (nat_lit 3) (nat_lit 1) [(.int .i64 (nat_lit 0)), (.int .i64 (nat_lit 0))] (nat_lit 2) [((nat_lit 0), x6), ((nat_lit 1), x35)] h36 fun x39 h40 =>
 OV (buildA Pr 92 [((nat_lit 0), x26), ((nat_lit 4), x39)]) fun x41 =>
 cl (nat_lit 163) [x0, x41] h40 (fun x42 h43 =>
 j8 x42 h43) kp) kp
noncomputable def B331x54 (x12 : AV) (x0 : AV) (cl : CL) (x6 : AV) (j8 : AV → Heap → Ans) (kp : KP) (kr : KR) (x17 : AV) (x21 : AV) (h22 : Heap) : Ans := JO (fun x23 h24 =>
 SEL x12 x23 (.bool false) fun x25 =>
 IFB x25 (JO (fun x26 h27 =>
 B331x46 x0 h27 cl x6 x26 j8 kp) fun j47 =>
 cl (nat_lit 102) [x0, (.str (nat_lit 2) (nat_lit 32289))] h24 (fun x48 h49 =>
 IFB x48 (j47 (.int .i64 (nat_lit 14)) h49)
 (j47 (.int .i64 (nat_lit 13)) h49)) kp)
 (kr x6 h24)) fun j52 =>
 GW true x12 (SEL x17 (.bool true) x21 fun x53 =>
 j52 x53 h22)
 (j52 undefA h22)
noncomputable def B331x62 (x12 : AV) (x0 : AV) (cl : CL) (x6 : AV) (j8 : AV → Heap → Ans) (kp : KP) (kr : KR) (x15 : AV) (h16 : Heap) : Ans := JO (fun x17 h18 =>
 JO (fun x19 h20 =>
 JO (fun x21 h22 =>
 B331x54 x12 x0 cl x6 j8 kp kr x17 x21 h22) fun j55 =>
 GW false x17 (cl (nat_lit 102) [x19, (.str (nat_lit 2) (nat_lit 32289))] h20 (fun x56 h57 =>
 j55 x56 h57) kp)
 (j55 undefA h20)) fun j60 =>
 GW false x17 (j60 x0 h18)
 (j60 undefA h18)) fun j61 =>
 GW true x12 (j61 x15 h16)
 (j61 undefA h16)
noncomputable def B331x69 (x0 : AV) (h7 : Heap) (cl : CL) (x6 : AV) (j8 : AV → Heap → Ans) (kp : KP) (kr : KR) : Ans := NC x0 fun x9 =>
 FA (nat_lit 5) x9 fun x10 =>
 LD x10 h7 fun x11 =>
 OV (unOpA .not x11) fun x12 =>
 JO (fun x13 h14 =>
 JO (fun x15 h16 =>
 B331x62 x12 x0 cl x6 j8 kp kr x15 h16) fun j63 =>
 GW true x12 (cl (nat_lit 102) [x13, (.str (nat_lit 1) (nat_lit 126))] h14 (fun x64 h65 =>
 j63 x64 h65) kp)
 (j63 undefA h14)) fun j68 =>
 GW true x12 (j68 x0 h7)
 (j68 undefA h7)
noncomputable def F331 (fu : Nat) (oR : FuncId → List AV → Option AV) (cl : CL) (args : List AV) (h1 : Heap) (kr : KR) (kp : KP) : Ans := AR1 args fun x0 =>
 cl (nat_lit 349) [x0] h1 (fun x2 h3 =>
 LP fu (fun _ _ => Ans.no) (fun j8 x6 h7 =>
 B331x69 x0 h7 cl x6 j8 kp kr) x2 h3) kp

theorem eqF331 : F331 = fun fu oR => compF Pr fu oR 331 1 := by kernel_rfl

noncomputable def F332 (fu : Nat) (oR : FuncId → List AV → Option AV) (cl : CL) (args : List AV) (h1 : Heap) (kr : KR) (kp : KP) : Ans := AR1 args fun x0 =>
 BOP Pr .mul 3 true x0 (.int .i64 (nat_lit 78913)) fun x2 =>
 BOP Pr .shr 3 true x2 (.int .u64 (nat_lit 18)) fun x3 =>
 kr x3 h1

theorem eqF332 : F332 = fun fu oR => compF Pr fu oR 332 1 := by kernel_rfl

noncomputable def F333 (fu : Nat) (oR : FuncId → List AV → Option AV) (cl : CL) (args : List AV) (h1 : Heap) (kr : KR) (kp : KP) : Ans := AR1 args fun x0 =>
 IFB x0 (kr (.int .i64 (nat_lit 1)) h1)
 (kr (.int .i64 (nat_lit 0)) h1)

theorem eqF333 : F333 = fun fu oR => compF Pr fu oR 333 1 := by kernel_rfl

noncomputable def B337x35 (x0 : AV) (h12 : Heap) (cl : CL) (x6 : AV) (j8 : AV → Heap → Ans) (kp : KP) : Ans := NC x0 fun x15 =>
 FA (nat_lit 1) x15 fun x16 =>
 LD x16 h12 fun x17 =>
 ADD Pr 3 true x17 (.int .i64 (nat_lit 1)) fun x18 =>
 NC x0 fun x19 =>
 FA (nat_lit 1) x19 fun x20 =>
 ST (nat_lit 1) x20 x18 h12 fun h21 =>
 BSL (nat_lit 3) (nat_lit 1) [(.int .i64 (nat_lit 0))] (nat_lit 1) [((nat_lit 0), (.int .i64 (nat_lit 4)))] h21 fun x22 h23 =>
 cl (nat_lit 191) [x0, x22] h23 (fun x24 h25 =>
 BSL (nat_lit 3) (nat_lit 1) [(.int .i64 (nat_lit 0))] (nat_lit 1) [((nat_lit 0), x6)] h25 fun x28 h29 =>
 OV (buildA Pr 92 [((nat_lit 0), (.int .i64 (nat_lit 6))), ((nat_lit 1), x24), ((nat_lit 4), x28)]) fun x30 =>
 cl (nat_lit 288) [x0, x30] h29 (fun x31 h32 =>
 j8 x31 h32) kp) kp
noncomputable def F337 (fu : Nat) (oR : FuncId → List AV → Option AV) (cl : CL) (args : List AV) (h1 : Heap) (kr : KR) (kp : KP) : Ans := AR1 args fun x0 =>
 cl (nat_lit 352) [x0] h1 (fun x2 h3 =>
 LP fu (fun _ _ => Ans.no) (fun j8 x6 h7 =>
 BSL (nat_lit 9) (nat_lit 1) [(.str (nat_lit 0) (nat_lit 0))] (nat_lit 1) [((nat_lit 0), (.str (nat_lit 2) (nat_lit 28265)))] h7 fun x9 h10 =>
 cl (nat_lit 189) [x0, x9] h10 (fun x11 h12 =>
 IFB x11 (B337x35 x0 h12 cl x6 j8 kp)
 (kr x6 h12)) kp) x2 h3) kp

theorem eqF337 : F337 = fun fu oR => compF Pr fu oR 337 1 := by kernel_rfl

noncomputable def B338x34 (x0 : AV) (h14 : Heap) (cl : CL) (x8 : AV) (j10 : AV → Heap → Ans) (kp : KP) : Ans := NC x0 fun x17 =>
 FA (nat_lit 1) x17 fun x18 =>
 LD x18 h14 fun x19 =>
 ADD Pr 3 true x19 (.int .i64 (nat_lit 1)) fun x20 =>
 NC x0 fun x21 =>
 FA (nat_lit 1) x21 fun x22 =>
 ST (nat_lit 1) x22 x20 h14 fun h23 =>
 cl (nat_lit 194) [x0] h23 (fun x24 h25 =>
 BSL (nat_lit 3) (nat_lit 1) [(.int .i64 (nat_lit 0))] (nat_lit 1) [((nat_lit 0), x24)] h25 fun x28 h29 =>
 GEN (builtinF .append Pr [90, 90] [x8, x28] h29) cl (fun x30 h31 =>
 j10 x30 h31) kp) kp
noncomputable def F338 (fu : Nat) (oR : FuncId → List AV → Option AV) (cl : CL) (args : List AV) (h1 : Heap) (kr : KR) (kp : KP) : Ans := AR1 args fun x0 =>
 cl (nat_lit 194) [x0] h1 (fun x2 h3 =>
 BSL (nat_lit 3) (nat_lit 1) [(.int .i64 (nat_lit 0))] (nat_lit 1) [((nat_lit 0), x2)] h3 fun x6 h7 =>
 LP fu (fun _ _ => Ans.no) (fun j10 x8 h9 =>
 BSL (nat_lit 9) (nat_lit 1) [(.str (nat_lit 0) (nat_lit 0))] (nat_lit 1) [((nat_lit 0), (.str (nat_lit 1) (nat_lit 44)))] h9 fun x11 h12 =>
 cl (nat_lit 193) [x0, x11] h12 (fun x13 h14 =>
 IFB x13 (B338x34 x0 h14 cl x8 j10 kp)
 (kr x8 h14)) kp) x6 h7) kp

theorem eqF338 : F338 = fun fu oR => compF Pr fu oR 338 1 := by kernel_rfl

noncomputable def B349x30 (cl : CL) (x0 : AV) (h15 : Heap) (x8 : AV) (x2 : AV) (kr : KR) (kp : KP) : Ans := cl (nat_lit 360) [x0] h15 (fun x18 h19 =>
 ADD Pr 3 true (.int .i64 (nat_lit 15)) x8 fun x22 =>
 BSL (nat_lit 3) (nat_lit 1) [(.int .i64 (nat_lit 0)), (.int .i64 (nat_lit 0))] (nat_lit 2) [((nat_lit 0), x2), ((nat_lit 1), x18)] h19 fun x23 h24 =>
 OV (buildA Pr 92 [((nat_lit 0), x22), ((nat_lit 4), x23)]) fun x25 =>
 cl (nat_lit 163) [x0, x25] h24 (fun x26 h27 =>
 kr x26 h27) kp) kp
noncomputable def F349 (fu : Nat) (oR : FuncId → List AV → Option AV) (cl : CL) (args : List AV) (h1 : Heap) (kr : KR) (kp : KP) : Ans := AR1 args fun x0 =>
 cl (nat_lit 360) [x0] h1 (fun x2 h3 =>
 BSL (nat_lit 9) (nat_lit 1) [(.str (nat_lit 0) (nat_lit 0)), (.str (nat_lit 0) (nat_lit 0)), (.str (nat_lit 0) (nat_lit 0)), (.str (nat_lit 0) (nat_lit 0))] (nat_lit 4) [((nat_lit 0), (.str (nat_lit 1) (nat_lit 60))), ((nat_lit 1), (.str (nat_lit 2) (nat_lit 15676))), ((nat_lit 2), (.str (nat_lit 2) (nat_lit 15677))), ((nat_lit 3), (.str (nat_lit 2) (nat_lit 15649)))] h3 fun x6 h7 =>
 LP fu (fun _ _ => Ans.no) (fun j10 x8 h9 =>
 LSS Pr 3 true x8 (.int .i64 (nat_lit 4)) fun x11 =>
 IFB x11 (SA (nat_lit 1) x6 x8 fun x12 =>
 LD x12 h9 fun x13 =>
 cl (nat_lit 100) [x0, x13] h9 (fun x14 h15 =>
 IFB x14 (B349x30 cl x0 h15 x8 x2 kr kp)
 (ADD Pr 3 true x8 (.int .i64 (nat_lit 1)) fun x31 =>
 j10 x31 h15)) kp)
 (kr x2 h9)) (.int .i64 (nat_lit 0)) h7) kp

theorem eqF349 : F349 = fun fu oR => compF Pr fu oR 349 1 := by kernel_rfl

noncomputable def F352 (fu : Nat) (oR : FuncId → List AV → Option AV) (cl : CL) (args : List AV) (h1 : Heap) (kr : KR) (kp : KP) : Ans := AR1 args fun x0 =>
 BSL (nat_lit 9) (nat_lit 1) [(.str (nat_lit 0) (nat_lit 0)), (.str (nat_lit 0) (nat_lit 0))] (nat_lit 2) [((nat_lit 0), (.str (nat_lit 1) (nat_lit 126))), ((nat_lit 1), (.str (nat_lit 2) (nat_lit 32289)))] h1 fun x2 h3 =>
 BSL (nat_lit 3) (nat_lit 1) [(.int .i64 (nat_lit 0)), (.int .i64 (nat_lit 0))] (nat_lit 2) [((nat_lit 0), (.int .i64 (nat_lit 13))), ((nat_lit 1), (.int .i64 (nat_lit 14)))] h3 fun x4 h5 =>
 cl (nat_lit 314) [x0, (.func (.func 361) [x0] []), x2, x4] h5 (fun x6 h7 =>
 kr x6 h7) kp

theorem eqF352 : F352 = fun fu oR => compF Pr fu oR 352 1 := by kernel_rfl

noncomputable def B360x29 (cl : CL) (x0 : AV) (h16 : Heap) (x6 : AV) (j8 : AV → Heap → Ans) (kp : KP) : Ans := cl (nat_lit 363) [x0] h16 (fun x18 h19 =>
 BSL (nat_lit 3) (nat_lit 1) [(.int .i64 (nat_lit 0)), (.int .i64 (nat_lit 0))] (nat_lit 2) [((nat_lit 0), x6), ((nat_lit 1), x18)] h19 fun x22 h23 =>
 OV (buildA Pr 92 [((nat_lit 0), (.int .i64 (nat_lit 19))), ((nat_lit 4), x22)]) fun x24 =>
 cl (nat_lit 163) [x0, x24] h23 (fun x25 h26 =>
 j8 x25 h26) kp) kp
noncomputable def B360x36 (x0 : AV) (h7 : Heap) (cl : CL) (x6 : AV) (j8 : AV → Heap → Ans) (kp : KP) (kr : KR) : Ans := NC x0 fun x9 =>
 FA (nat_lit 5) x9 fun x10 =>
 LD x10 h7 fun x11 =>
 OV (unOpA .not x11) fun x12 =>
 JO (fun x13 h14 =>
 JO (fun x15 h16 =>
 SEL x12 x15 (.bool false) fun x17 =>
 IFB x17 (B360x29 cl x0 h16 x6 j8 kp)
 (kr x6 h16)) fun j30 =>
 GW true x12 (cl (nat_lit 364) [x13] h14 (fun x31 h32 =>
 j30 x31 h32) kp)
 (j30 undefA h14)) fun j35 =>
 GW true x12 (j35 x0 h7)
 (j35 undefA h7)
noncomputable def F360 (fu : Nat) (oR : FuncId → List AV → Option AV) (cl : CL) (args : List AV) (h1 : Heap) (kr : KR) (kp : KP) : Ans := AR1 args fun x0 =>
 cl (nat_lit 363) [x0] h1 (fun x2 h3 =>
 LP fu (fun _ _ => Ans.no) (fun j8 x6 h7 =>
 B360x36 x0 h7 cl x6 j8 kp kr) x2 h3) kp

theorem eqF360 : F360 = fun fu oR => compF Pr fu oR 360 1 := by kernel_rfl

noncomputable def B361x33 (cl : CL) (x0 : AV) (h9 : Heap) (x6 : AV) (x2 : AV) (kr : KR) (kp : KP) : Ans := cl (nat_lit 190) [x0] h9 (fun x13 h14 =>
 OV (fieldA Pr 114 x13 1) fun x17 =>
 cl (nat_lit 256) [x6, x17] h14 (fun x18 h19 =>
 ADD Pr 3 true (.int .i64 (nat_lit 15)) x18 fun x22 =>
 cl (nat_lit 365) [x0] h19 (fun x23 h24 =>
 BSL (nat_lit 3) (nat_lit 1) [(.int .i64 (nat_lit 0)), (.int .i64 (nat_lit 0))] (nat_lit 2) [((nat_lit 0), x2), ((nat_lit 1), x23)] h24 fun x27 h28 =>
 cl (nat_lit 251) [x0, x22, x27] h28 (fun x29 h30 =>
 kr x29 h30) kp) kp) kp) kp
noncomputable def F361 (fu : Nat) (oR : FuncId → List AV → Option AV) (cl : CL) (args : List AV) (h1 : Heap) (kr : KR) (kp : KP) : Ans := AR1 args fun x0 =>
 cl (nat_lit 365) [x0] h1 (fun x2 h3 =>
 BSL (nat_lit 9) (nat_lit 1) [(.str (nat_lit 0) (nat_lit 0)), (.str (nat_lit 0) (nat_lit 0)), (.str (nat_lit 0) (nat_lit 0)), (.str (nat_lit 0) (nat_lit 0))] (nat_lit 4) [((nat_lit 0), (.str (nat_lit 1) (nat_lit 60))), ((nat_lit 1), (.str (nat_lit 2) (nat_lit 15676))), ((nat_lit 2), (.str (nat_lit 2) (nat_lit 15677))), ((nat_lit 3), (.str (nat_lit 2) (nat_lit 15649)))] h3 fun x6 h7 =>
 cl (nat_lit 193) [x0, x6] h7 (fun x8 h9 =>
 OV (unOpA .not x8) fun x12 =>
 IFB x12 (kr x2 h9)
 (B361x33 cl x0 h9 x6 x2 kr kp)) kp) kp

theorem eqF361 : F361 = fun fu oR => compF Pr fu oR 361 1 := by kernel_rfl

noncomputable def B363x46 (x0 : AV) (h27 : Heap) (cl : CL) (x6 : AV) (x26 : AV) (j8 : AV → Heap → Ans) (kp : KP) : Ans := NC x0 fun x28 =>
 FA (nat_lit 1) x28 fun x29 =>
 LD x29 h27 fun x30 =>
 ADD Pr 3 true x30 (.int .i64 (nat_lit 1)) fun x31 =>
 NC x0 fun x32 =>
 FA (nat_lit 1) x32 fun x33 =>
 ST (nat_lit 1) x33 x31 h27 fun h34 =>
 cl (nat_lit 366) [x0] h34 (fun x35 h36 =>
 BSL (nat_lit 3) (nat_lit 1) [(.int .i64 (nat_lit 0)), (.int .i64 (nat_lit 0))] (nat_lit 2) [((nat_lit 0), x6), ((nat_lit 1), x35)] h36 fun x39 h40 =>
 OV (buildA Pr 92 [((nat_lit 0), x26), ((nat_lit 4), x39)]) fun x41 =>
 cl (nat_lit 163) [x0, x41] h40 (fun x42 h43 =>
 j8 x42 h43) kp) kp
noncomputable def B363x54 (x12 : AV) (x0 : AV) (cl : CL) (x6 : AV) (j8 : AV → Heap → Ans) (kp : KP) (kr : KR) (x17 : AV) (x21 : AV) (h22 : Heap) : Ans := JO (fun x23 h24 =>
 SEL x12 x23 (.bool false) fun x25 =>
 IFB x25 (JO (fun x26 h27 =>
 B363x46 x0 h27 cl x6 x26 j8 kp) fun j47 =>
 cl (nat_lit 102) [x0, (.str (nat_lit 1) (nat_lit 45))] h24 (fun x48 h49 =>
 IFB x48 (j47 (.int .i64 (nat_lit 21)) h49)
 (j47 (.int .i64 (nat_lit 20)) h49)) kp)
 (kr x6 h24)) fun j52 =>
 GW true x12 (SEL x17 (.bool true) x21 fun x53 =>
 j52 x53 h22)
 (j52 undefA h22)
noncomputable def B363x62 (x12 : AV) (x0 : AV) (cl : CL) (x6 : AV) (j8 : AV → Heap → Ans) (kp : KP) (kr : KR) (x15 : AV) (h16 : Heap) : Ans := JO (fun x17 h18 =>
 JO (fun x19 h20 =>
 JO (fun x21 h22 =>
 B363x54 x12 x0 cl x6 j8 kp kr x17 x21 h22) fun j55 =>
 GW false x17 (cl (nat_lit 102) [x19, (.str (nat_lit 1) (nat_lit 45))] h20 (fun x56 h57 =>
 j55 x56 h57) kp)
 (j55 undefA h20)) fun j60 =>
 GW false x17 (j60 x0 h18)
 (j60 undefA h18)) fun j61 =>
 GW true x12 (j61 x15 h16)
 (j61 undefA h16)
noncomputable def B363x69 (x0 : AV) (h7 : Heap) (cl : CL) (x6 : AV) (j8 : AV → Heap → Ans) (kp : KP) (kr : KR) : Ans := NC x0 fun x9 =>
 FA (nat_lit 5) x9 fun x10 =>
 LD x10 h7 fun x11 =>
 OV (unOpA .not x11) fun x12 =>
 JO (fun x13 h14 =>
 JO (fun x15 h16 =>
 B363x62 x12 x0 cl x6 j8 kp kr x15 h16) fun j63 =>
 GW true x12 (cl (nat_lit 102) [x13, (.str (nat_lit 1) (nat_lit 43))] h14 (fun x64 h65 =>
 j63 x64 h65) kp)
 (j63 undefA h14)) fun j68 =>
 GW true x12 (j68 x0 h7)
 (j68 undefA h7)
noncomputable def F363 (fu : Nat) (oR : FuncId → List AV → Option AV) (cl : CL) (args : List AV) (h1 : Heap) (kr : KR) (kp : KP) : Ans := AR1 args fun x0 =>
 cl (nat_lit 366) [x0] h1 (fun x2 h3 =>
 LP fu (fun _ _ => Ans.no) (fun j8 x6 h7 =>
 B363x69 x0 h7 cl x6 j8 kp kr) x2 h3) kp

theorem eqF363 : F363 = fun fu oR => compF Pr fu oR 363 1 := by kernel_rfl

noncomputable def B364x30 (x6 : AV) (h12 : Heap) (kr : KR) : Ans := FA (nat_lit 1) x6 fun x14 =>
 LD x14 h12 fun x15 =>
 EQL Pr 9 true x15 (.str (nat_lit 1) (nat_lit 40)) fun x16 =>
 JO (fun x17 h18 =>
 JO (fun x19 h20 =>
 JO (fun x21 h22 =>
 SEL x16 (.bool true) x21 fun x23 =>
 kr x23 h22) fun j24 =>
 GW false x16 (EQL Pr 9 true x19 (.str (nat_lit 1) (nat_lit 36)) fun x25 =>
 j24 x25 h20)
 (j24 undefA h20)) fun j26 =>
 GW false x16 (LD x17 h18 fun x27 =>
 j26 x27 h18)
 (j26 undefA h18)) fun j28 =>
 GW false x16 (FA (nat_lit 1) x6 fun x29 =>
 j28 x29 h12)
 (j28 undefA h12)
noncomputable def B364x76 (x55 : AV) (x60 : AV) (kr : KR) (x6 : AV) (h61 : Heap) : Ans := SEL x55 (.bool true) x60 fun x62 =>
 JO (fun x63 h64 =>
 JO (fun x65 h66 =>
 JO (fun x67 h68 =>
 SEL x62 (.bool true) x67 fun x69 =>
 kr x69 h68) fun j70 =>
 GW false x62 (EQL Pr 9 true x65 (.str (nat_lit 3) (nat_lit 7630441)) fun x71 =>
 j70 x71 h66)
 (j70 undefA h66)) fun j72 =>
 GW false x62 (LD x63 h64 fun x73 =>
 j72 x73 h64)
 (j72 undefA h64)) fun j74 =>
 GW false x62 (FA (nat_lit 1) x6 fun x75 =>
 j74 x75 h61)
 (j74 undefA h61)
noncomputable def B364x83 (x48 : AV) (x53 : AV) (kr : KR) (x6 : AV) (h54 : Heap) : Ans := SEL x48 (.bool true) x53 fun x55 =>
 JO (fun x56 h57 =>
 JO (fun x58 h59 =>
 JO (fun x60 h61 =>
 B364x76 x55 x60 kr x6 h61) fun j77 =>
 GW false x55 (EQL Pr 9 true x58 (.str (nat_lit 7) (nat_lit 32199680942501748)) fun x78 =>
 j77 x78 h59)
 (j77 undefA h59)) fun j79 =>
 GW false x55 (LD x56 h57 fun x80 =>
 j79 x80 h57)
 (j79 undefA h57)) fun j81 =>
 GW false x55 (FA (nat_lit 1) x6 fun x82 =>
 j81 x82 h54)
 (j81 undefA h54)
noncomputable def B364x90 (x41 : AV) (x46 : AV) (kr : KR) (x6 : AV) (h47 : Heap) : Ans := SEL x41 (.bool true) x46 fun x48 =>
 JO (fun x49 h50 =>
 JO (fun x51 h52 =>
 JO (fun x53 h54 =>
 B364x83 x48 x53 kr x6 h54) fun j84 =>
 GW false x48 (EQL Pr 9 true x51 (.str (nat_lit 5) (nat_lit 499984920691)) fun x85 =>
 j84 x85 h52)
 (j84 undefA h52)) fun j86 =>
 GW false x48 (LD x49 h50 fun x87 =>
 j86 x87 h50)
 (j86 undefA h50)) fun j88 =>
 GW false x48 (FA (nat_lit 1) x6 fun x89 =>
 j88 x89 h47)
 (j88 undefA h47)
noncomputable def B364x97 (x34 : AV) (x39 : AV) (kr : KR) (x6 : AV) (h40 : Heap) : Ans := SEL x34 (.bool true) x39 fun x41 =>
 JO (fun x42 h43 =>
 JO (fun x44 h45 =>
 JO (fun x46 h47 =>
 B364x90 x41 x46 kr x6 h47) fun j91 =>
 GW false x41 (EQL Pr 9 true x44 (.str (nat_lit 5) (nat_lit 517097156201)) fun x92 =>
 j91 x92 h45)
 (j91 undefA h45)) fun j93 =>
 GW false x41 (LD x42 h43 fun x94 =>
 j93 x94 h43)
 (j93 undefA h43)) fun j95 =>
 GW false x41 (FA (nat_lit 1) x6 fun x96 =>
 j95 x96 h40)
 (j95 undefA h40)
noncomputable def B364x104 (x6 : AV) (h12 : Heap) (kr : KR) : Ans := FA (nat_lit 1) x6 fun x32 =>
 LD x32 h12 fun x33 =>
 EQL Pr 9 true x33 (.str (nat_lit 6) (nat_lit 114849160783212)) fun x34 =>
 JO (fun x35 h36 =>
 JO (fun x37 h38 =>
 JO (fun x39 h40 =>
 B364x97 x34 x39 kr x6 h40) fun j98 =>
 GW false x34 (EQL Pr 9 true x37 (.str (nat_lit 6) (nat_lit 125844477605235)) fun x99 =>
 j98 x99 h38)
 (j98 undefA h38)) fun j100 =>
 GW false x34 (LD x35 h36 fun x101 =>
 j100 x101 h36)
 (j100 undefA h36)) fun j102 =>
 GW false x34 (FA (nat_lit 1) x6 fun x103 =>
 j102 x103 h12)
 (j102 undefA h12)
noncomputable def F364 (fu : Nat) (oR : FuncId → List AV → Option AV) (cl : CL) (args : List AV) (h1 : Heap) (kr : KR) (kp : KP) : Ans := AR1 args fun x0 =>
 cl (nat_lit 158) [x0] h1 (fun x2 h3 =>
 NEWC (.n (some (.int .i64 (nat_lit 0))) (.n (some (.str (nat_lit 0) (nat_lit 0))) (.n (some (.int .i64 (nat_lit 0))) .e .e) .e) (.n (some (.int .i64 (nat_lit 0))) .e .e)) (nat_lit 4) 114 h3 fun x6 h7 =>
 ST (nat_lit 4) x6 x2 h7 fun h8 =>
 FA (nat_lit 0) x6 fun x9 =>
 LD x9 h8 fun x10 =>
 JO (fun x11 h12 =>
 IFB x11 (kr (.bool true) h12)
 (EQL Pr 3 true x10 (.int .i64 (nat_lit 7)) fun x13 =>
 IFB x13 (B364x30 x6 h12 kr)
 (EQL Pr 3 true x10 (.int .i64 (nat_lit 6)) fun x31 =>
 IFB x31 (B364x104 x6 h12 kr)
 (kr (.bool false) h12)))) fun j105 =>
 EQL Pr 3 true x10 (.int .i64 (nat_lit 1)) fun x106 =>
 IFB x106 (j105 x106 h8)
 (EQL Pr 3 true x10 (.int .i64 (nat_lit 2)) fun x107 =>
 IFB x107 (j105 x107 h8)
 (EQL Pr 3 true x10 (.int .i64 (nat_lit 4)) fun x108 =>
 IFB x108 (j105 x108 h8)
 (EQL Pr 3 true x10 (.int .i64 (nat_lit 5)) fun x109 =>
 j105 x109 h8)))) kp

theorem eqF364 : F364 = fun fu oR => compF Pr fu oR 364 1 := by kernel_rfl

noncomputable def B365x45 (j27 : Heap → Ans) (kr : KR) (x6 : AV) (h29 : Heap) (cl : CL) (x0 : AV) (kp : KP) : Ans := JO (fun x30 h31 =>
 IFB x30 (j27  h31)
 (kr x6 h31)) fun j32 =>
 BSL (nat_lit 9) (nat_lit 1) [(.str (nat_lit 0) (nat_lit 0)), (.str (nat_lit 0) (nat_lit 0)), (.str (nat_lit 0) (nat_lit 0)), (.str (nat_lit 0) (nat_lit 0)), (.str (nat_lit 0) (nat_lit 0)), (.str (nat_lit 0) (nat_lit 0))] (nat_lit 6) [((nat_lit 0), (.str (nat_lit 6) (nat_lit 114849160783212))), ((nat_lit 1), (.str (nat_lit 6) (nat_lit 125844477605235))), ((nat_lit 2), (.str (nat_lit 5) (nat_lit 517097156201))), ((nat_lit 3), (.str (nat_lit 5) (nat_lit 499984920691))), ((nat_lit 4), (.str (nat_lit 7) (nat_lit 32199680942501748))), ((nat_lit 5), (.str (nat_lit 3) (nat_lit 7630441)))] h29 fun x33 h34 =>
 cl (nat_lit 189) [x0, x33] h34 (fun x35 h36 =>
 IFB x35 (j32 x35 h36)
 (BSL (nat_lit 9) (nat_lit 1) [(.str (nat_lit 0) (nat_lit 0)), (.str (nat_lit 0) (nat_lit 0))] (nat_lit 2) [((nat_lit 0), (.str (nat_lit 1) (nat_lit 40))), ((nat_lit 1), (.str (nat_lit 1) (nat_lit 36)))] h36 fun x39 h40 =>
 cl (nat_lit 193) [x0, x39] h40 (fun x41 h42 =>
 j32 x41 h42) kp)) kp
noncomputable def B365x59 (x13 : AV) (h15 : Heap) (j46 : AV → Heap → Ans) : Ans := FA (nat_lit 0) x13 fun x50 =>
 LD x50 h15 fun x51 =>
 EQL Pr 3 true x51 (.int .i64 (nat_lit 2)) fun x52 =>
 IFB x52 (j46 x52 h15)
 (FA (nat_lit 0) x13 fun x53 =>
 LD x53 h15 fun x54 =>
 EQL Pr 3 true x54 (.int .i64 (nat_lit 4)) fun x55 =>
 IFB x55 (j46 x55 h15)
 (FA (nat_lit 0) x13 fun x56 =>
 LD x56 h15 fun x57 =>
 EQL Pr 3 true x57 (.int .i64 (nat_lit 5)) fun x58 =>
 j46 x58 h15))
noncomputable def B365x60 (cl : CL) (x0 : AV) (h7 : Heap) (x6 : AV) (j8 : AV → Heap → Ans) (kp : KP) (kr : KR) : Ans := cl (nat_lit 245) [x0, (.int .i64 (nat_lit 0))] h7 (fun x9 h10 =>
 NEWC (.n (some (.int .i64 (nat_lit 0))) (.n (some (.str (nat_lit 0) (nat_lit 0))) (.n (some (.int .i64 (nat_lit 0))) .e .e) .e) (.n (some (.int .i64 (nat_lit 0))) .e .e)) (nat_lit 4) 114 h10 fun x13 h14 =>
 ST (nat_lit 4) x13 x9 h14 fun h15 =>
 JO (fun h16 =>
 cl (nat_lit 367) [x0] h16 (fun x17 h18 =>
 BSL (nat_lit 3) (nat_lit 1) [(.int .i64 (nat_lit 0)), (.int .i64 (nat_lit 0))] (nat_lit 2) [((nat_lit 0), x6), ((nat_lit 1), x17)] h18 fun x21 h22 =>
 cl (nat_lit 251) [x0, (.int .i64 (nat_lit 19)), x21] h22 (fun x23 h24 =>
 j8 x23 h24) kp) kp) fun j27 =>
 JO (fun x28 h29 =>
 IFB x28 (j27  h29)
 (B365x45 j27 kr x6 h29 cl x0 kp)) fun j46 =>
 FA (nat_lit 0) x13 fun x47 =>
 LD x47 h15 fun x48 =>
 EQL Pr 3 true x48 (.int .i64 (nat_lit 1)) fun x49 =>
 IFB x49 (j46 x49 h15)
 (B365x59 x13 h15 j46)) kp
noncomputable def F365 (fu : Nat) (oR : FuncId → List AV → Option AV) (cl : CL) (args : List AV) (h1 : Heap) (kr : KR) (kp : KP) : Ans := AR1 args fun x0 =>
 cl (nat_lit 367) [x0] h1 (fun x2 h3 =>
 LP fu (fun _ _ => Ans.no) (fun j8 x6 h7 =>
 B365x60 cl x0 h7 x6 j8 kp kr) x2 h3) kp

theorem eqF365 : F365 = fun fu oR => compF Pr fu oR 365 1 := by kernel_rfl

noncomputable def B366x56 (x0 : AV) (h37 : Heap) (cl : CL) (x6 : AV) (x36 : AV) (j8 : AV → Heap → Ans) (kp : KP) : Ans := NC x0 fun x38 =>
 FA (nat_lit 1) x38 fun x39 =>
 LD x39 h37 fun x40 =>
 ADD Pr 3 true x40 (.int .i64 (nat_lit 1)) fun x41 =>
 NC x0 fun x42 =>
 FA (nat_lit 1) x42 fun x43 =>
 ST (nat_lit 1) x43 x41 h37 fun h44 =>
 cl (nat_lit 368) [x0] h44 (fun x45 h46 =>
 BSL (nat_lit 3) (nat_lit 1) [(.int .i64 (nat_lit 0)), (.int .i64 (nat_lit 0))] (nat_lit 2) [((nat_lit 0), x6), ((nat_lit 1), x45)] h46 fun x49 h50 =>
 OV (buildA Pr 92 [((nat_lit 0), x36), ((nat_lit 4), x49)]) fun x51 =>
 cl (nat_lit 163) [x0, x51] h50 (fun x52 h53 =>
 j8 x52 h53) kp) kp
noncomputable def B366x67 (x0 : AV) (cl : CL) (x6 : AV) (j8 : AV → Heap → Ans) (kp : KP) (h32 : Heap) : Ans := JO (fun x34 h35 =>
 JO (fun x36 h37 =>
 B366x56 x0 h37 cl x6 x36 j8 kp) fun j57 =>
 cl (nat_lit 102) [x0, (.str (nat_lit 1) (nat_lit 37))] h35 (fun x58 h59 =>
 IFB x58 (j57 (.int .i64 (nat_lit 24)) h59)
 (j57 x34 h59)) kp) fun j62 =>
 cl (nat_lit 102) [x0, (.str (nat_lit 1) (nat_lit 47))] h32 (fun x63 h64 =>
 IFB x63 (j62 (.int .i64 (nat_lit 23)) h64)
 (j62 (.int .i64 (nat_lit 22)) h64)) kp
noncomputable def B366x75 (x12 : AV) (x0 : AV) (cl : CL) (x6 : AV) (j8 : AV → Heap → Ans) (kp : KP) (kr : KR) (x25 : AV) (x27 : AV) (h28 : Heap) : Ans := JO (fun x29 h30 =>
 JO (fun x31 h32 =>
 SEL x12 x31 (.bool false) fun x33 =>
 IFB x33 (B366x67 x0 cl x6 j8 kp h32)
 (kr x6 h32)) fun j68 =>
 GW true x12 (SEL x25 (.bool true) x29 fun x69 =>
 j68 x69 h30)
 (j68 undefA h30)) fun j70 =>
 GW false x25 (cl (nat_lit 102) [x27, (.str (nat_lit 1) (nat_lit 37))] h28 (fun x71 h72 =>
 j70 x71 h72) kp)
 (j70 undefA h28)
noncomputable def B366x80 (x12 : AV) (x0 : AV) (cl : CL) (x6 : AV) (j8 : AV → Heap → Ans) (kp : KP) (kr : KR) (x17 : AV) (x21 : AV) (h22 : Heap) : Ans := JO (fun x23 h24 =>
 JO (fun x25 h26 =>
 JO (fun x27 h28 =>
 B366x75 x12 x0 cl x6 j8 kp kr x25 x27 h28) fun j76 =>
 GW false x25 (j76 x0 h26)
 (j76 undefA h26)) fun j77 =>
 GW true x12 (j77 x23 h24)
 (j77 undefA h24)) fun j78 =>
 GW true x12 (SEL x17 (.bool true) x21 fun x79 =>
 j78 x79 h22)
 (j78 undefA h22)
noncomputable def B366x88 (x12 : AV) (x0 : AV) (cl : CL) (x6 : AV) (j8 : AV → Heap → Ans) (kp : KP) (kr : KR) (x15 : AV) (h16 : Heap) : Ans := JO (fun x17 h18 =>
 JO (fun x19 h20 =>
 JO (fun x21 h22 =>
 B366x80 x12 x0 cl x6 j8 kp kr x17 x21 h22) fun j81 =>
 GW false x17 (cl (nat_lit 102) [x19, (.str (nat_lit 1) (nat_lit 47))] h20 (fun x82 h83 =>
 j81 x82 h83) kp)
 (j81 undefA h20)) fun j86 =>
 GW false x17 (j86 x0 h18)
 (j86 undefA h18)) fun j87 =>
 GW true x12 (j87 x15 h16)
 (j87 undefA h16)
noncomputable def B366x95 (x0 : AV) (h7 : Heap) (cl : CL) (x6 : AV) (j8 : AV → Heap → Ans) (kp : KP) (kr : KR) : Ans := NC x0 fun x9 =>
 FA (nat_lit 5) x9 fun x10 =>
 LD x10 h7 fun x11 =>
 OV (unOpA .not x11) fun x12 =>
 JO (fun x13 h14 =>
 JO (fun x15 h16 =>
 B366x88 x12 x0 cl x6 j8 kp kr x15 h16) fun j89 =>
 GW true x12 (cl (nat_lit 102) [x13, (.str (nat_lit 1) (nat_lit 42))] h14 (fun x90 h91 =>
 j89 x90 h91) kp)
 (j89 undefA h14)) fun j94 =>
 GW true x12 (j94 x0 h7)
 (j94 undefA h7)
noncomputable def F366 (fu : Nat) (oR : FuncId → List AV → Option AV) (cl : CL) (args : List AV) (h1 : Heap) (kr : KR) (kp : KP) : Ans := AR1 args fun x0 =>
 cl (nat_lit 368) [x0] h1 (fun x2 h3 =>
 LP fu (fun _ _ => Ans.no) (fun j8 x6 h7 =>
 B366x95 x0 h7 cl x6 j8 kp kr) x2 h3) kp

theorem eqF366 : F366 = fun fu oR => compF Pr fu oR 366 1 := by kernel_rfl

noncomputable def F367 (fu : Nat) (oR : FuncId → List AV → Option AV) (cl : CL) (args : List AV) (h1 : Heap) (kr : KR) (kp : KP) : Ans := AR1 args fun x0 =>
 BSL (nat_lit 9) (nat_lit 1) [(.str (nat_lit 0) (nat_lit 0)), (.str (nat_lit 0) (nat_lit 0))] (nat_lit 2) [((nat_lit 0), (.str (nat_lit 1) (nat_lit 43))), ((nat_lit 1), (.str (nat_lit 1) (nat_lit 45)))] h1 fun x2 h3 =>
 BSL (nat_lit 3) (nat_lit 1) [(.int .i64 (nat_lit 0)), (.int .i64 (nat_lit 0))] (nat_lit 2) [((nat_lit 0), (.int .i64 (nat_lit 20))), ((nat_lit 1), (.int .i64 (nat_lit 21)))] h3 fun x4 h5 =>
 cl (nat_lit 314) [x0, (.func (.func 369) [x0] []), x2, x4] h5 (fun x6 h7 =>
 kr x6 h7) kp

theorem eqF367 : F367 = fun fu oR => compF Pr fu oR 367 1 := by kernel_rfl

noncomputable def B368x43 (cl : CL) (x0 : AV) (h21 : Heap) (x2 : AV) (kr : KR) (kp : KP) : Ans := cl (nat_lit 368) [x0] h21 (fun x25 h26 =>
 NC x0 fun x29 =>
 FA (nat_lit 2) x29 fun x30 =>
 LD x30 h26 fun x31 =>
 SUB Pr 3 true x31 (.int .i64 (nat_lit 1)) fun x32 =>
 NC x0 fun x33 =>
 FA (nat_lit 2) x33 fun x34 =>
 ST (nat_lit 1) x34 x32 h26 fun h35 =>
 BSL (nat_lit 3) (nat_lit 1) [(.int .i64 (nat_lit 0))] (nat_lit 1) [((nat_lit 0), x25)] h35 fun x36 h37 =>
 OV (buildA Pr 92 [((nat_lit 0), x2), ((nat_lit 4), x36)]) fun x38 =>
 cl (nat_lit 163) [x0, x38] h37 (fun x39 h40 =>
 kr x39 h40) kp) kp
noncomputable def B368x46 (x8 : AV) (cl : CL) (x0 : AV) (kr : KR) (kp : KP) (x2 : AV) (x11 : AV) (h12 : Heap) : Ans := JO (fun x13 h14 =>
 SEL x8 x13 (.bool false) fun x15 =>
 IFB x15 (cl (nat_lit 370) [x0] h14 (fun x16 h17 =>
 kr x16 h17) kp)
 (cl (nat_lit 161) [x0] h14 (fun x20 h21 =>
 OV (unOpA .not x20) fun x24 =>
 IFB x24 (kr (.int .i64 (nat_lit 0)) h21)
 (B368x43 cl x0 h21 x2 kr kp)) kp)) fun j44 =>
 GW true x8 (OV (unOpA .not x11) fun x45 =>
 j44 x45 h12)
 (j44 undefA h12)
noncomputable def B368x53 (cl : CL) (x0 : AV) (h3 : Heap) (kr : KR) (kp : KP) (x2 : AV) : Ans := cl (nat_lit 100) [x0, (.str (nat_lit 1) (nat_lit 45))] h3 (fun x4 h5 =>
 OV (unOpA .not x4) fun x8 =>
 JO (fun x9 h10 =>
 JO (fun x11 h12 =>
 B368x46 x8 cl x0 kr kp x2 x11 h12) fun j47 =>
 GW true x8 (cl (nat_lit 100) [x9, (.str (nat_lit 1) (nat_lit 33))] h10 (fun x48 h49 =>
 j47 x48 h49) kp)
 (j47 undefA h10)) fun j52 =>
 GW true x8 (j52 x0 h5)
 (j52 undefA h5)) kp
noncomputable def F368 (fu : Nat) (oR : FuncId → List AV → Option AV) (cl : CL) (args : List AV) (h1 : Heap) (kr : KR) (kp : KP) : Ans := AR1 args fun x0 =>
 JO (fun x2 h3 =>
 B368x53 cl x0 h3 kr kp x2) fun j54 =>
 cl (nat_lit 102) [x0, (.str (nat_lit 1) (nat_lit 33))] h1 (fun x55 h56 =>
 IFB x55 (j54 (.int .i64 (nat_lit 12)) h56)
 (j54 (.int .i64 (nat_lit 25)) h56)) kp

theorem eqF368 : F368 = fun fu oR => compF Pr fu oR 368 1 := by kernel_rfl

noncomputable def F369 (fu : Nat) (oR : FuncId → List AV → Option AV) (cl : CL) (args : List AV) (h1 : Heap) (kr : KR) (kp : KP) : Ans := AR1 args fun x0 =>
 BSL (nat_lit 9) (nat_lit 1) [(.str (nat_lit 0) (nat_lit 0)), (.str (nat_lit 0) (nat_lit 0)), (.str (nat_lit 0) (nat_lit 0))] (nat_lit 3) [((nat_lit 0), (.str (nat_lit 1) (nat_lit 42))), ((nat_lit 1), (.str (nat_lit 1) (nat_lit 47))), ((nat_lit 2), (.str (nat_lit 1) (nat_lit 37)))] h1 fun x2 h3 =>
 BSL (nat_lit 3) (nat_lit 1) [(.int .i64 (nat_lit 0)), (.int .i64 (nat_lit 0)), (.int .i64 (nat_lit 0))] (nat_lit 3) [((nat_lit 0), (.int .i64 (nat_lit 22))), ((nat_lit 1), (.int .i64 (nat_lit 23))), ((nat_lit 2), (.int .i64 (nat_lit 24)))] h3 fun x4 h5 =>
 cl (nat_lit 314) [x0, (.func (.func 371) [x0] []), x2, x4] h5 (fun x6 h7 =>
 kr x6 h7) kp

theorem eqF369 : F369 = fun fu oR => compF Pr fu oR 369 1 := by kernel_rfl

noncomputable def B370x34 (x0 : AV) (h11 : Heap) (x9 : AV) (cl : CL) (kr : KR) (kp : KP) : Ans := NC x0 fun x20 =>
 FA (nat_lit 1) x20 fun x21 =>
 LD x21 h11 fun x22 =>
 ADD Pr 3 true x22 (.int .i64 (nat_lit 1)) fun x23 =>
 NC x0 fun x24 =>
 FA (nat_lit 1) x24 fun x25 =>
 ST (nat_lit 1) x25 x23 h11 fun h26 =>
 FA (nat_lit 2) x9 fun x27 =>
 LD x27 h26 fun x28 =>
 OV (buildA Pr 92 [((nat_lit 0), (.int .i64 (nat_lit 0))), ((nat_lit 3), x28)]) fun x29 =>
 cl (nat_lit 163) [x0, x29] h26 (fun x30 h31 =>
 kr x30 h31) kp
noncomputable def B370x50 (x0 : AV) (h11 : Heap) (x9 : AV) (cl : CL) (kr : KR) (kp : KP) : Ans := NC x0 fun x36 =>
 FA (nat_lit 1) x36 fun x37 =>
 LD x37 h11 fun x38 =>
 ADD Pr 3 true x38 (.int .i64 (nat_lit 1)) fun x39 =>
 NC x0 fun x40 =>
 FA (nat_lit 1) x40 fun x41 =>
 ST (nat_lit 1) x41 x39 h11 fun h42 =>
 FA (nat_lit 1) x9 fun x43 =>
 LD x43 h42 fun x44 =>
 OV (buildA Pr 92 [((nat_lit 0), (.int .i64 (nat_lit 1))), ((nat_lit 1), x44)]) fun x45 =>
 cl (nat_lit 163) [x0, x45] h42 (fun x46 h47 =>
 kr x46 h47) kp
noncomputable def B370x66 (x0 : AV) (h11 : Heap) (x9 : AV) (cl : CL) (kr : KR) (kp : KP) : Ans := NC x0 fun x52 =>
 FA (nat_lit 1) x52 fun x53 =>
 LD x53 h11 fun x54 =>
 ADD Pr 3 true x54 (.int .i64 (nat_lit 1)) fun x55 =>
 NC x0 fun x56 =>
 FA (nat_lit 1) x56 fun x57 =>
 ST (nat_lit 1) x57 x55 h11 fun h58 =>
 FA (nat_lit 1) x9 fun x59 =>
 LD x59 h58 fun x60 =>
 OV (buildA Pr 92 [((nat_lit 0), (.int .i64 (nat_lit 2))), ((nat_lit 1), x60)]) fun x61 =>
 cl (nat_lit 163) [x0, x61] h58 (fun x62 h63 =>
 kr x62 h63) kp
noncomputable def B370x96 (cl : CL) (x0 : AV) (h76 : Heap) (x9 : AV) (kr : KR) (kp : KP) : Ans := cl (nat_lit 103) [x0] h76 (fun x79 h80 =>
 cl (nat_lit 159) [x0, (.str (nat_lit 1) (nat_lit 93))] h80 (fun x83 h84 =>
 FA (nat_lit 1) x9 fun x87 =>
 LD x87 h84 fun x88 =>
 BSL (nat_lit 3) (nat_lit 1) [(.int .i64 (nat_lit 0))] (nat_lit 1) [((nat_lit 0), x79)] h84 fun x89 h90 =>
 OV (buildA Pr 92 [((nat_lit 0), (.int .i64 (nat_lit 5))), ((nat_lit 1), x88), ((nat_lit 4), x89)]) fun x91 =>
 cl (nat_lit 163) [x0, x91] h90 (fun x92 h93 =>
 kr x92 h93) kp) kp) kp
noncomputable def B370x104 (x0 : AV) (h11 : Heap) (cl : CL) (x9 : AV) (kr : KR) (kp : KP) : Ans := NC x0 fun x68 =>
 FA (nat_lit 1) x68 fun x69 =>
 LD x69 h11 fun x70 =>
 ADD Pr 3 true x70 (.int .i64 (nat_lit 1)) fun x71 =>
 NC x0 fun x72 =>
 FA (nat_lit 1) x72 fun x73 =>
 ST (nat_lit 1) x73 x71 h11 fun h74 =>
 cl (nat_lit 100) [x0, (.str (nat_lit 1) (nat_lit 91))] h74 (fun x75 h76 =>
 IFB x75 (B370x96 cl x0 h76 x9 kr kp)
 (FA (nat_lit 1) x9 fun x97 =>
 LD x97 h76 fun x98 =>
 OV (buildA Pr 92 [((nat_lit 0), (.int .i64 (nat_lit 3))), ((nat_lit 1), x98)]) fun x99 =>
 cl (nat_lit 163) [x0, x99] h76 (fun x100 h101 =>
 kr x100 h101) kp)) kp
noncomputable def B370x124 (x0 : AV) (h11 : Heap) (cl : CL) (x9 : AV) (kr : KR) (kp : KP) : Ans := NC x0 fun x106 =>
 FA (nat_lit 1) x106 fun x107 =>
 LD x107 h11 fun x108 =>
 ADD Pr 3 true x108 (.int .i64 (nat_lit 1)) fun x109 =>
 NC x0 fun x110 =>
 FA (nat_lit 1) x110 fun x111 =>
 ST (nat_lit 1) x111 x109 h11 fun h112 =>
 cl (nat_lit 372) [x0, (.int .i64 (nat_lit 0)), (.int .i64 (nat_lit 4000))] h112 (fun x113 h114 =>
 FA (nat_lit 1) x9 fun x117 =>
 LD x117 h114 fun x118 =>
 OV (buildA Pr 92 [((nat_lit 0), (.int .i64 (nat_lit 26))), ((nat_lit 1), x118), ((nat_lit 4), x113)]) fun x119 =>
 cl (nat_lit 163) [x0, x119] h114 (fun x120 h121 =>
 kr x120 h121) kp) kp
noncomputable def B370x176 (cl : CL) (x0 : AV) (h154 : Heap) (kr : KR) (kp : KP) : Ans := cl (nat_lit 370) [x0] h154 (fun x158 h159 =>
 NC x0 fun x162 =>
 FA (nat_lit 2) x162 fun x163 =>
 LD x163 h159 fun x164 =>
 SUB Pr 3 true x164 (.int .i64 (nat_lit 1)) fun x165 =>
 NC x0 fun x166 =>
 FA (nat_lit 2) x166 fun x167 =>
 ST (nat_lit 1) x167 x165 h159 fun h168 =>
 BSL (nat_lit 3) (nat_lit 1) [(.int .i64 (nat_lit 0))] (nat_lit 1) [((nat_lit 0), x158)] h168 fun x169 h170 =>
 OV (buildA Pr 92 [((nat_lit 0), (.int .i64 (nat_lit 4))), ((nat_lit 4), x169)]) fun x171 =>
 cl (nat_lit 163) [x0, x171] h170 (fun x172 h173 =>
 kr x172 h173) kp) kp
noncomputable def B370x177 (cl : CL) (x0 : AV) (h11 : Heap) (kr : KR) (kp : KP) (j18 : Heap → Ans) : Ans := cl (nat_lit 100) [x0, (.str (nat_lit 1) (nat_lit 40))] h11 (fun x137 h138 =>
 IFB x137 (cl (nat_lit 103) [x0] h138 (fun x141 h142 =>
 cl (nat_lit 159) [x0, (.str (nat_lit 1) (nat_lit 41))] h142 (fun x145 h146 =>
 kr x141 h146) kp) kp)
 (cl (nat_lit 100) [x0, (.str (nat_lit 1) (nat_lit 36))] h138 (fun x149 h150 =>
 IFB x149 (cl (nat_lit 161) [x0] h150 (fun x153 h154 =>
 OV (unOpA .not x153) fun x157 =>
 IFB x157 (kr (.int .i64 (nat_lit 0)) h154)
 (B370x176 cl x0 h154 kr kp)) kp)
 (j18  h150)) kp)) kp
noncomputable def B370x178 (x13 : AV) (cl : CL) (x0 : AV) (h11 : Heap) (x9 : AV) (kr : KR) (kp : KP) (j18 : Heap → Ans) : Ans := EQL Pr 3 true x13 (.int .i64 (nat_lit 6)) fun x125 =>
 IFB x125 (cl (nat_lit 364) [x0] h11 (fun x126 h127 =>
 IFB x126 (FA (nat_lit 1) x9 fun x130 =>
 LD x130 h127 fun x131 =>
 cl (nat_lit 373) [x0, x131] h127 (fun x132 h133 =>
 kr x132 h133) kp)
 (j18  h127)) kp)
 (EQL Pr 3 true x13 (.int .i64 (nat_lit 7)) fun x136 =>
 IFB x136 (B370x177 cl x0 h11 kr kp j18)
 (j18  h11))
noncomputable def B370x179 (x13 : AV) (x0 : AV) (h11 : Heap) (x9 : AV) (cl : CL) (kr : KR) (kp : KP) (j18 : Heap → Ans) : Ans := EQL Pr 3 true x13 (.int .i64 (nat_lit 3)) fun x51 =>
 IFB x51 (B370x66 x0 h11 x9 cl kr kp)
 (EQL Pr 3 true x13 (.int .i64 (nat_lit 4)) fun x67 =>
 IFB x67 (B370x104 x0 h11 cl x9 kr kp)
 (EQL Pr 3 true x13 (.int .i64 (nat_lit 5)) fun x105 =>
 IFB x105 (B370x124 x0 h11 cl x9 kr kp)
 (B370x178 x13 cl x0 h11 x9 kr kp j18)))
noncomputable def B370x180 (cl : CL) (x0 : AV) (h1 : Heap) (kr : KR) (kp : KP) : Ans := cl (nat_lit 158) [x0] h1 (fun x5 h6 =>
 NEWC (.n (some (.int .i64 (nat_lit 0))) (.n (some (.str (nat_lit 0) (nat_lit 0))) (.n (some (.int .i64 (nat_lit 0))) .e .e) .e) (.n (some (.int .i64 (nat_lit 0))) .e .e)) (nat_lit 4) 114 h6 fun x9 h10 =>
 ST (nat_lit 4) x9 x5 h10 fun h11 =>
 FA (nat_lit 0) x9 fun x12 =>
 LD x12 h11 fun x13 =>
 JO (fun h14 =>
 NC x0 fun x15 =>
 FA (nat_lit 5) x15 fun x16 =>
 ST (nat_lit 1) x16 (.bool true) h14 fun h17 =>
 kr (.int .i64 (nat_lit 0)) h17) fun j18 =>
 EQL Pr 3 true x13 (.int .i64 (nat_lit 1)) fun x19 =>
 IFB x19 (B370x34 x0 h11 x9 cl kr kp)
 (EQL Pr 3 true x13 (.int .i64 (nat_lit 2)) fun x35 =>
 IFB x35 (B370x50 x0 h11 x9 cl kr kp)
 (B370x179 x13 x0 h11 x9 cl kr kp j18))) kp
noncomputable def F370 (fu : Nat) (oR : FuncId → List AV → Option AV) (cl : CL) (args : List AV) (h1 : Heap) (kr : KR) (kp : KP) : Ans := AR1 args fun x0 =>
 NC x0 fun x2 =>
 FA (nat_lit 5) x2 fun x3 =>
 LD x3 h1 fun x4 =>
 IFB x4 (kr (.int .i64 (nat_lit 0)) h1)
 (B370x180 cl x0 h1 kr kp)

theorem eqF370 : F370 = fun fu oR => compF Pr fu oR 370 1 := by kernel_rfl

noncomputable def B371x32 (cl : CL) (x0 : AV) (kr : KR) (kp : KP) (h5 : Heap) : Ans := JO (fun x13 h14 =>
 cl (nat_lit 248) [x0, (.func (.func 371) [x0] [])] h14 (fun x15 h16 =>
 BSL (nat_lit 3) (nat_lit 1) [(.int .i64 (nat_lit 0))] (nat_lit 1) [((nat_lit 0), x15)] h16 fun x19 h20 =>
 cl (nat_lit 251) [x0, x13, x19] h20 (fun x21 h22 =>
 kr x21 h22) kp) kp) fun j25 =>
 cl (nat_lit 190) [x0] h5 (fun x26 h27 =>
 OV (fieldA Pr 114 x26 1) fun x30 =>
 EQL Pr 9 true x30 (.str (nat_lit 1) (nat_lit 33)) fun x31 =>
 IFB x31 (j25 (.int .i64 (nat_lit 12)) h27)
 (j25 (.int .i64 (nat_lit 25)) h27)) kp
noncomputable def F371 (fu : Nat) (oR : FuncId → List AV → Option AV) (cl : CL) (args : List AV) (h1 : Heap) (kr : KR) (kp : KP) : Ans := AR1 args fun x0 =>
 BSL (nat_lit 9) (nat_lit 1) [(.str (nat_lit 0) (nat_lit 0)), (.str (nat_lit 0) (nat_lit 0))] (nat_lit 2) [((nat_lit 0), (.str (nat_lit 1) (nat_lit 45))), ((nat_lit 1), (.str (nat_lit 1) (nat_lit 33)))] h1 fun x2 h3 =>
 cl (nat_lit 193) [x0, x2] h3 (fun x4 h5 =>
 OV (unOpA .not x4) fun x8 =>
 IFB x8 (cl (nat_lit 374) [x0] h5 (fun x9 h10 =>
 kr x9 h10) kp)
 (B371x32 cl x0 kr kp h5)) kp

theorem eqF371 : F371 = fun fu oR => compF Pr fu oR 371 1 := by kernel_rfl

noncomputable def B374x26 (x0 : AV) (h8 : Heap) (x6 : AV) (cl : CL) (kr : KR) (kp : KP) : Ans := NC x0 fun x12 =>
 FA (nat_lit 1) x12 fun x13 =>
 LD x13 h8 fun x14 =>
 ADD Pr 3 true x14 (.int .i64 (nat_lit 1)) fun x15 =>
 NC x0 fun x16 =>
 FA (nat_lit 1) x16 fun x17 =>
 ST (nat_lit 1) x17 x15 h8 fun h18 =>
 FA (nat_lit 2) x6 fun x19 =>
 LD x19 h18 fun x20 =>
 OV (buildA Pr 92 [((nat_lit 0), (.int .i64 (nat_lit 0))), ((nat_lit 3), x20)]) fun x21 =>
 cl (nat_lit 288) [x0, x21] h18 (fun x22 h23 =>
 kr x22 h23) kp
noncomputable def B374x42 (x0 : AV) (h8 : Heap) (x6 : AV) (cl : CL) (kr : KR) (kp : KP) : Ans := NC x0 fun x28 =>
 FA (nat_lit 1) x28 fun x29 =>
 LD x29 h8 fun x30 =>
 ADD Pr 3 true x30 (.int .i64 (nat_lit 1)) fun x31 =>
 NC x0 fun x32 =>
 FA (nat_lit 1) x32 fun x33 =>
 ST (nat_lit 1) x33 x31 h8 fun h34 =>
 FA (nat_lit 1) x6 fun x35 =>
 LD x35 h34 fun x36 =>
 OV (buildA Pr 92 [((nat_lit 0), (.int .i64 (nat_lit 1))), ((nat_lit 1), x36)]) fun x37 =>
 cl (nat_lit 288) [x0, x37] h34 (fun x38 h39 =>
 kr x38 h39) kp
noncomputable def B374x58 (x0 : AV) (h8 : Heap) (x6 : AV) (cl : CL) (kr : KR) (kp : KP) : Ans := NC x0 fun x44 =>
 FA (nat_lit 1) x44 fun x45 =>
 LD x45 h8 fun x46 =>
 ADD Pr 3 true x46 (.int .i64 (nat_lit 1)) fun x47 =>
 NC x0 fun x48 =>
 FA (nat_lit 1) x48 fun x49 =>
 ST (nat_lit 1) x49 x47 h8 fun h50 =>
 FA (nat_lit 1) x6 fun x51 =>
 LD x51 h50 fun x52 =>
 OV (buildA Pr 92 [((nat_lit 0), (.int .i64 (nat_lit 2))), ((nat_lit 1), x52)]) fun x53 =>
 cl (nat_lit 288) [x0, x53] h50 (fun x54 h55 =>
 kr x54 h55) kp
noncomputable def B374x105 (x0 : AV) (h70 : Heap) (cl : CL) (x6 : AV) (kr : KR) (kp : KP) : Ans := NC x0 fun x81 =>
 FA (nat_lit 1) x81 fun x82 =>
 LD x82 h70 fun x83 =>
 ADD Pr 3 true x83 (.int .i64 (nat_lit 1)) fun x84 =>
 NC x0 fun x85 =>
 FA (nat_lit 1) x85 fun x86 =>
 ST (nat_lit 1) x86 x84 h70 fun h87 =>
 cl (nat_lit 194) [x0] h87 (fun x88 h89 =>
 cl (nat_lit 192) [x0, (.str (nat_lit 1) (nat_lit 93))] h89 (fun x92 h93 =>
 FA (nat_lit 1) x6 fun x96 =>
 LD x96 h93 fun x97 =>
 BSL (nat_lit 3) (nat_lit 1) [(.int .i64 (nat_lit 0))] (nat_lit 1) [((nat_lit 0), x88)] h93 fun x98 h99 =>
 OV (buildA Pr 92 [((nat_lit 0), (.int .i64 (nat_lit 5))), ((nat_lit 1), x97), ((nat_lit 4), x98)]) fun x100 =>
 cl (nat_lit 288) [x0, x100] h99 (fun x101 h102 =>
 kr x101 h102) kp) kp) kp
noncomputable def B374x106 (x0 : AV) (h8 : Heap) (cl : CL) (x6 : AV) (kr : KR) (kp : KP) : Ans := NC x0 fun x60 =>
 FA (nat_lit 1) x60 fun x61 =>
 LD x61 h8 fun x62 =>
 ADD Pr 3 true x62 (.int .i64 (nat_lit 1)) fun x63 =>
 NC x0 fun x64 =>
 FA (nat_lit 1) x64 fun x65 =>
 ST (nat_lit 1) x65 x63 h8 fun h66 =>
 BSL (nat_lit 9) (nat_lit 1) [(.str (nat_lit 0) (nat_lit 0))] (nat_lit 1) [((nat_lit 0), (.str (nat_lit 1) (nat_lit 91)))] h66 fun x67 h68 =>
 cl (nat_lit 193) [x0, x67] h68 (fun x69 h70 =>
 OV (unOpA .not x69) fun x73 =>
 IFB x73 (FA (nat_lit 1) x6 fun x74 =>
 LD x74 h70 fun x75 =>
 OV (buildA Pr 92 [((nat_lit 0), (.int .i64 (nat_lit 3))), ((nat_lit 1), x75)]) fun x76 =>
 cl (nat_lit 288) [x0, x76] h70 (fun x77 h78 =>
 kr x77 h78) kp)
 (B374x105 x0 h70 cl x6 kr kp)) kp
noncomputable def B374x149 (x0 : AV) (h8 : Heap) (cl : CL) (x6 : AV) (kr : KR) (kp : KP) : Ans := NC x0 fun x108 =>
 FA (nat_lit 1) x108 fun x109 =>
 LD x109 h8 fun x110 =>
 ADD Pr 3 true x110 (.int .i64 (nat_lit 1)) fun x111 =>
 NC x0 fun x112 =>
 FA (nat_lit 1) x112 fun x113 =>
 ST (nat_lit 1) x113 x111 h8 fun h114 =>
 cl (nat_lit 192) [x0, (.str (nat_lit 1) (nat_lit 40))] h114 (fun x115 h116 =>
 FA (nat_lit 1) x6 fun x119 =>
 LD x119 h116 fun x120 =>
 OV (buildA Pr 92 [((nat_lit 0), (.int .i64 (nat_lit 26))), ((nat_lit 1), x120)]) fun x121 =>
 NEWC (.n (some (.int .i64 (nat_lit 0))) (.n (some (.str (nat_lit 0) (nat_lit 0))) (.n (some (.int .i64 (nat_lit 0))) .e .e) .e) (.n (some (.str (nat_lit 0) (nat_lit 0))) (.n (some (.nilslice)) .e .e) .e)) (nat_lit 5) 92 h116 fun x122 h123 =>
 ST (nat_lit 5) x122 x121 h123 fun h124 =>
 JO (fun h125 =>
 cl (nat_lit 192) [x0, (.str (nat_lit 1) (nat_lit 41))] h125 (fun x126 h127 =>
 LDN (nat_lit 5) x122 h127 fun x130 =>
 cl (nat_lit 288) [x0, x130] h127 (fun x131 h132 =>
 kr x131 h132) kp) kp) fun j135 =>
 BSL (nat_lit 9) (nat_lit 1) [(.str (nat_lit 0) (nat_lit 0))] (nat_lit 1) [((nat_lit 0), (.str (nat_lit 1) (nat_lit 41)))] h124 fun x136 h137 =>
 cl (nat_lit 193) [x0, x136] h137 (fun x138 h139 =>
 OV (unOpA .not x138) fun x142 =>
 IFB x142 (cl (nat_lit 338) [x0] h139 (fun x143 h144 =>
 FA (nat_lit 4) x122 fun x147 =>
 ST (nat_lit 1) x147 x143 h144 fun h148 =>
 j135  h148) kp)
 (j135  h139)) kp) kp
noncomputable def B374x188 (x0 : AV) (h168 : Heap) (cl : CL) (kr : KR) (kp : KP) : Ans := NC x0 fun x171 =>
 FA (nat_lit 1) x171 fun x172 =>
 LD x172 h168 fun x173 =>
 ADD Pr 3 true x173 (.int .i64 (nat_lit 1)) fun x174 =>
 NC x0 fun x175 =>
 FA (nat_lit 1) x175 fun x176 =>
 ST (nat_lit 1) x176 x174 h168 fun h177 =>
 cl (nat_lit 248) [x0, (.func (.func 374) [x0] [])] h177 (fun x178 h179 =>
 BSL (nat_lit 3) (nat_lit 1) [(.int .i64 (nat_lit 0))] (nat_lit 1) [((nat_lit 0), x178)] h179 fun x182 h183 =>
 cl (nat_lit 251) [x0, (.int .i64 (nat_lit 4)), x182] h183 (fun x184 h185 =>
 kr x184 h185) kp) kp
noncomputable def B374x193 (h158 : Heap) (cl : CL) (x0 : AV) (kr : KR) (kp : KP) : Ans := BSL (nat_lit 9) (nat_lit 1) [(.str (nat_lit 0) (nat_lit 0))] (nat_lit 1) [((nat_lit 0), (.str (nat_lit 1) (nat_lit 36)))] h158 fun x165 h166 =>
 cl (nat_lit 193) [x0, x165] h166 (fun x167 h168 =>
 IFB x167 (B374x188 x0 h168 cl kr kp)
 (cl (nat_lit 247) [x0] h168 (fun x189 h190 =>
 kr (.int .i64 (nat_lit 0)) h190) kp)) kp
noncomputable def B374x194 (x10 : AV) (cl : CL) (x0 : AV) (h8 : Heap) (kr : KR) (kp : KP) : Ans := EQL Pr 3 true x10 (.int .i64 (nat_lit 6)) fun x150 =>
 IFB x150 (cl (nat_lit 375) [x0] h8 (fun x151 h152 =>
 kr x151 h152) kp)
 (BSL (nat_lit 9) (nat_lit 1) [(.str (nat_lit 0) (nat_lit 0))] (nat_lit 1) [((nat_lit 0), (.str (nat_lit 1) (nat_lit 40)))] h8 fun x155 h156 =>
 cl (nat_lit 193) [x0, x155] h156 (fun x157 h158 =>
 IFB x157 (cl (nat_lit 316) [x0] h158 (fun x161 h162 =>
 kr x161 h162) kp)
 (B374x193 h158 cl x0 kr kp)) kp)
noncomputable def B374x195 (x10 : AV) (x0 : AV) (h8 : Heap) (x6 : AV) (cl : CL) (kr : KR) (kp : KP) : Ans := EQL Pr 3 true x10 (.int .i64 (nat_lit 3)) fun x43 =>
 IFB x43 (B374x58 x0 h8 x6 cl kr kp)
 (EQL Pr 3 true x10 (.int .i64 (nat_lit 4)) fun x59 =>
 IFB x59 (B374x106 x0 h8 cl x6 kr kp)
 (EQL Pr 3 true x10 (.int .i64 (nat_lit 5)) fun x107 =>
 IFB x107 (B374x149 x0 h8 cl x6 kr kp)
 (B374x194 x10 cl x0 h8 kr kp)))
noncomputable def F374 (fu : Nat) (oR : FuncId → List AV → Option AV) (cl : CL) (args : List AV) (h1 : Heap) (kr : KR) (kp : KP) : Ans := AR1 args fun x0 =>
 cl (nat_lit 245) [x0, (.int .i64 (nat_lit 0))] h1 (fun x2 h3 =>
 NEWC (.n (some (.int .i64 (nat_lit 0))) (.n (some (.str (nat_lit 0) (nat_lit 0))) (.n (some (.int .i64 (nat_lit 0))) .e .e) .e) (.n (some (.int .i64 (nat_lit 0))) .e .e)) (nat_lit 4) 114 h3 fun x6 h7 =>
 ST (nat_lit 4) x6 x2 h7 fun h8 =>
 FA (nat_lit 0) x6 fun x9 =>
 LD x9 h8 fun x10 =>
 EQL Pr 3 true x10 (.int .i64 (nat_lit 1)) fun x11 =>
 IFB x11 (B374x26 x0 h8 x6 cl kr kp)
 (EQL Pr 3 true x10 (.int .i64 (nat_lit 2)) fun x27 =>
 IFB x27 (B374x42 x0 h8 x6 cl kr kp)
 (B374x195 x10 x0 h8 x6 cl kr kp))) kp

theorem eqF374 : F374 = fun fu oR => compF Pr fu oR 374 1 := by kernel_rfl
end
end Go.Ev
