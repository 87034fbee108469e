import Derived.Test.YtlbjhnafdcmpeaaGreatDoorRFnRefuses0
import Derived.Test.YtlbjhnafdcmpeaaGreatDoorRFnRefuses1
import Derived.Test.YtlbjhnafdcmpeaaGreatDoorRFnRefuses2
import Derived.Test.YtlbjhnafdcmpeaaGreatDoorRFnRefuses3
import Derived.Test.YtlbjhnafdcmpeaaGreatDoorRFnRefuses4
import Derived.Test.YtlbjhnafdcmpeaaGreatDoorRFnRefuses5
import Derived.Test.YtlbjhnafdcmpeaaGreatDoorRFnRefuses6
import Derived.Test.YtlbjhnafdcmpeaaGreatDoorRFnRefuses7
set_option linter.all false
set_option maxRecDepth 1000000
namespace Go.Ev
open Go
noncomputable section
def u0 (a b c d : TypeId) (o : Orc) : Orc := orcE3 e0 (tabs a b c d) (orcE3 e3 (tabs a b c d) (orcE3 e5 (tabs a b c d) (o)))
theorem vu0 {a b c d : TypeId} {W : World} {s : Sl} (L : LL a b c d W s) {o : Orc} (O : OO W s o) : OO W s (u0 a b c d o) := (k0 L (k3 L (k5 L O)))
def u1 (a b c d : TypeId) (o : Orc) : Orc := orcE3 e1 (tabs a b c d) (orcE3 e7 (tabs a b c d) (orcE3 e9 (tabs a b c d) (o)))
theorem vu1 {a b c d : TypeId} {W : World} {s : Sl} (L : LL a b c d W s) {o : Orc} (O : OO W s o) : OO W s (u1 a b c d o) := (k1 L (k7 L (k9 L O)))
def u2 (a b c d : TypeId) (o : Orc) : Orc := orcE3 e10 (tabs a b c d) (orcE3 e12 (tabs a b c d) (orcE3 e14 (tabs a b c d) (o)))
theorem vu2 {a b c d : TypeId} {W : World} {s : Sl} (L : LL a b c d W s) {o : Orc} (O : OO W s o) : OO W s (u2 a b c d o) := (k10 L (k12 L (k14 L O)))
def u3 (a b c d : TypeId) (o : Orc) : Orc := orcE3 e15 (tabs a b c d) (orcE3 e17 (tabs a b c d) (orcE3 e19 (tabs a b c d) (o)))
theorem vu3 {a b c d : TypeId} {W : World} {s : Sl} (L : LL a b c d W s) {o : Orc} (O : OO W s o) : OO W s (u3 a b c d o) := (k15 L (k17 L (k19 L O)))
def u4 (a b c d : TypeId) (o : Orc) : Orc := orcE3 e20 (tabs a b c d) (orcE3 e22 (tabs a b c d) (orcE3 e24 (tabs a b c d) (o)))
theorem vu4 {a b c d : TypeId} {W : World} {s : Sl} (L : LL a b c d W s) {o : Orc} (O : OO W s o) : OO W s (u4 a b c d o) := (k20 L (k22 L (k24 L O)))
def u5 (a b c d : TypeId) (o : Orc) : Orc := orcE3 e25 (tabs a b c d) (orcE3 e27 (tabs a b c d) (orcE3 e29 (tabs a b c d) (o)))
theorem vu5 {a b c d : TypeId} {W : World} {s : Sl} (L : LL a b c d W s) {o : Orc} (O : OO W s o) : OO W s (u5 a b c d o) := (k25 L (k27 L (k29 L O)))
def u6 (a b c d : TypeId) (o : Orc) : Orc := orcE3 e30 (tabs a b c d) (orcE3 e32 (tabs a b c d) (orcE3 e34 (tabs a b c d) (o)))
theorem vu6 {a b c d : TypeId} {W : World} {s : Sl} (L : LL a b c d W s) {o : Orc} (O : OO W s o) : OO W s (u6 a b c d o) := (k30 L (k32 L (k34 L O)))
def u7 (a b c d : TypeId) (o : Orc) : Orc := orcE3 e35 (tabs a b c d) (orcE3 e37 (tabs a b c d) (orcE3 e39 (tabs a b c d) (o)))
theorem vu7 {a b c d : TypeId} {W : World} {s : Sl} (L : LL a b c d W s) {o : Orc} (O : OO W s o) : OO W s (u7 a b c d o) := (k35 L (k37 L (k39 L O)))
def u8 (a b c d : TypeId) (o : Orc) : Orc := orcE3 e40 (tabs a b c d) (orcE3 e42 (tabs a b c d) (orcE3 e44 (tabs a b c d) (o)))
theorem vu8 {a b c d : TypeId} {W : World} {s : Sl} (L : LL a b c d W s) {o : Orc} (O : OO W s o) : OO W s (u8 a b c d o) := (k40 L (k42 L (k44 L O)))
def u9 (a b c d : TypeId) (o : Orc) : Orc := orcE3 e45 (tabs a b c d) (orcE3 e47 (tabs a b c d) (orcE3 e49 (tabs a b c d) (o)))
theorem vu9 {a b c d : TypeId} {W : World} {s : Sl} (L : LL a b c d W s) {o : Orc} (O : OO W s o) : OO W s (u9 a b c d o) := (k45 L (k47 L (k49 L O)))
def u10 (a b c d : TypeId) (o : Orc) : Orc := orcE3 e50 (tabs a b c d) (orcE3 e52 (tabs a b c d) (orcE3 e54 (tabs a b c d) (o)))
theorem vu10 {a b c d : TypeId} {W : World} {s : Sl} (L : LL a b c d W s) {o : Orc} (O : OO W s o) : OO W s (u10 a b c d o) := (k50 L (k52 L (k54 L O)))
def u11 (a b c d : TypeId) (o : Orc) : Orc := orcE3 e55 (tabs a b c d) (orcE3 e57 (tabs a b c d) (orcE3 e59 (tabs a b c d) (o)))
theorem vu11 {a b c d : TypeId} {W : World} {s : Sl} (L : LL a b c d W s) {o : Orc} (O : OO W s o) : OO W s (u11 a b c d o) := (k55 L (k57 L (k59 L O)))
end
end Go.Ev
