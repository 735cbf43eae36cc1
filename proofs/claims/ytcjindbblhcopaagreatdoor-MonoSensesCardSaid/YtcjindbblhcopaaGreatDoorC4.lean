/- Contracts of functions that the law reaches, each by its own hypotheses; joined by a program of mine. -/
import Derived.Test.YtcjindbblhcopaaGreatDoorC3
import Derived.Test.YtcjindbblhcopaaGreatDoorM5
import Derived.Test.YtcjindbblhcopaaGreatDoorC2
import Derived.Test.YtcjindbblhcopaaGreatDoorC1
import Derived.Test.YtcjindbblhcopaaGreatDoorM4
import Derived.Test.YtcjindbblhcopaaGreatDoorCards
import Derived.Test.YtcjindbblhcopaaGreatDoorTie
import Derived.Deep.DeepHandedRow
set_option linter.unusedSimpArgs false
set_option linter.unusedVariables false
set_option maxRecDepth 100000
open Go AM
namespace Go.Proofs.Tryz
def zcc4_0 : List UInt8 := [97,50,51,52,53,54,55,56,57,48,49,50,51,52,53,54,55,56,57,48]
def zcc4_1 : List UInt8 := [111,116,104,101,114]
def zcc4_2 : List AV := [.bool false,.str [],.str [1],.bool false,.str [1],.str [10],.bool false,.str [5],.str [1],.bool false,.str [1],.str [5]]
def zcc4_3 : List AV := [.bool false,.str [],.str [1],.bool false,.str [1],.str [10],.bool false,.str [5],.str [1],.bool true,.str [1],.str [5]]
def zcc4_4 : List AV := [.str zcc4_1,.str [97],.str [98],.str [116,97,120],.str [119,97,103,101],.str [120,95,49],.str zcc4_0]
def v_:List Nd:= [⟨6,false,[],[],[97]⟩,⟨5,false,[],[],[97]⟩,⟨9,false,[],[],[]⟩]
def sH:List Sq:= [⟨[120],0,0,[⟨false,[],[1],false,[1],[10]⟩,⟨false,[5],[1],false,[1],[5]⟩]⟩]
def Em:List Nd:= [⟨6,false,[],[],[97]⟩,⟨6,false,[],[],[97]⟩,⟨10,false,[],[],[]⟩]
def Eo:List Nd:= [⟨1,false,[5],[1],[]⟩,⟨3,true,[1],[2],[]⟩,⟨6,false,[],[],[97]⟩,⟨11,false,[],[],[]⟩,⟨10,false,[],[],[]⟩]
def lZ:List Nd:= [⟨6,false,[],[],[97]⟩,⟨5,false,[],[],[98]⟩,⟨11,false,[],[],[]⟩]
def Ep:List Nd:= [⟨1,false,[1],[1],[]⟩,⟨6,false,[],[],[97]⟩,⟨12,false,[],[],[]⟩]
def Es:List Nd:= [⟨6,false,[],[],[97]⟩,⟨3,true,[2],[1],[]⟩,⟨12,false,[],[],[]⟩]
def wo:List Nd:= [⟨6,false,[],[],[97]⟩,⟨1,false,[3],[1],[]⟩,⟨16,false,[],[],[]⟩,⟨6,false,[],[],[98]⟩,⟨1,false,[],[1],[]⟩,⟨15,false,[],[],[]⟩]
def l_:List Nd:= [⟨6,false,[],[],[97]⟩,⟨24,false,[],[],[120]⟩]
def aah:List Sq:= [⟨[120],0,0,[⟨false,[],[1],false,[1],[10]⟩,⟨false,[5],[1],true,[1],[5]⟩]⟩]
theorem gK:Hm 129 kW sH:=Ld ⟨⟨by decide,by decide⟩,⟨by decide,by decide⟩⟩ ⟨⟨by decide,by decide⟩,⟨by decide,by decide⟩⟩ (bT (aa1 5 (by omega)) (by kernel_rfl))
theorem Oe:Hm 129 kW aah:=Ld ⟨⟨by decide,by decide⟩,⟨by decide,by decide⟩⟩ ⟨⟨by decide,by decide⟩,⟨by decide,by decide⟩⟩ (bT (aa1 5 (by omega)) (by kernel_rfl))
def dE (l:List Nat):iV:=l.map fun t=>(t,.dead)
def rA (s:List UInt8) (k:Int):List bi:= [⟨[.str s,.nilS,.int .i64 k,.bool false],0,false,0,0,true⟩]
def rB (s:List UInt8) (n:Nat) (k:Int) (os:List AV):List bi:= [⟨[.str s,.ref 1 0 0 n,.int .i64 k,.bool false],0,false,0,0,false⟩,⟨os,0,false,0,5,true⟩]
def zo0:List AV:= [.int .i64 6,.bool false,.str [],.str [],.str [97],.int .i64 1,.bool false,.str [3],.str [1],.str [],.int .i64 16,.bool false,.str [],.str [],.str [],.int .i64 6,.bool false,.str [],.str [],.str [98],.int .i64 1,.bool false,.str [],.str [1],.str []]
def PV:List AV:= [.int .i64 6,.bool false,.str [],.str [],.str [97],.int .i64 1,.bool false,.str [3],.str [1],.str [],.int .i64 16,.bool false,.str [],.str [],.str [],.int .i64 6,.bool false,.str [],.str [],.str [98]]
def zo2:List AV:= [.int .i64 1,.bool false,.str [5],.str [1],.str [],.int .i64 3,.bool true,.str [1],.str [2],.str [],.int .i64 6,.bool false,.str [],.str [],.str [97],.int .i64 11,.bool false,.str [],.str [],.str []]
def zo3:List AV:= [.int .i64 1,.bool false,.str [5],.str [1],.str [],.int .i64 3,.bool true,.str [1],.str [2],.str [],.int .i64 6,.bool false,.str [],.str [],.str [97]]
def PW:List AV:= [.int .i64 6,.bool false,.str [],.str [],.str [97],.int .i64 1,.bool false,.str [3],.str [1],.str [],.int .i64 16,.bool false,.str [],.str [],.str []]
def zo5:List AV:= [.int .i64 6,.bool false,.str [],.str [],.str [97],.int .i64 5,.bool false,.str [],.str [],.str [97]]
def zo6:List AV:= [.int .i64 6,.bool false,.str [],.str [],.str [97],.int .i64 6,.bool false,.str [],.str [],.str [97]]
def zo7:List AV:= [.int .i64 6,.bool false,.str [],.str [],.str [97],.int .i64 5,.bool false,.str [],.str [],.str [98]]
def zo8:List AV:= [.int .i64 1,.bool false,.str [1],.str [1],.str [],.int .i64 6,.bool false,.str [],.str [],.str [97]]
def zo9:List AV:= [.int .i64 6,.bool false,.str [],.str [],.str [97],.int .i64 1,.bool false,.str [3],.str [1],.str []]
def yH:List AV:= [.int .i64 1,.bool false,.str [5],.str [1],.str [],.int .i64 3,.bool true,.str [1],.str [2],.str []]
def adp:List AV:= [.int .i64 6,.bool false,.str [],.str [],.str [97],.int .i64 3,.bool true,.str [2],.str [1],.str []]
def dQ:List AV:= [.int .i64 6,.bool false,.str [],.str [],.str [97]]
def lW:List AV:= [.int .i64 1,.bool false,.str [5],.str [1],.str []]
def vK:List AV:= [.int .i64 1,.bool false,.str [1],.str [1],.str []]
def BB:List UInt8:= [97,98,99,100,101,102,103,104,105,106,107,108,109,110,111,112,113,114,115,116,117,118,119,120,121,122,48,49,50,51,52,53,54,55,56,57,95]
def Zt:List UInt8:= [105,102,40,108,101,115,115,40,111,119,110,46,97,44,32,36,51,41,44,32,111,119,110,46,98,44,32,36,48,41]
def oW:List UInt8:= [97,98,99,100,101,102,103,104,105,106,107,108,109,110,111,112,113,114,115,116,117,118,119,120,121,122]
def zs3:List UInt8:= [40,108,101,115,115,40,111,119,110,46,97,44,32,36,51,41,44,32,111,119,110,46,98,44,32,36,48,41]
def zs4:List UInt8:= [108,101,115,115,40,111,119,110,46,97,44,32,36,51,41,44,32,111,119,110,46,98,44,32,36,48,41]
def zs5:List UInt8:= [115,117,98,40,36,53,44,32,109,117,108,40,45,49,47,50,44,32,111,119,110,46,97,41,41]
def zs6:List UInt8:= [40,111,119,110,46,97,44,32,36,51,41,44,32,111,119,110,46,98,44,32,36,48,41]
def zs7:List UInt8:= [40,36,53,44,32,109,117,108,40,45,49,47,50,44,32,111,119,110,46,97,41,41]
def zs8:List UInt8:= [111,119,110,46,97,44,32,36,51,41,44,32,111,119,110,46,98,44,32,36,48,41]
def zs9:List UInt8:= [36,53,44,32,109,117,108,40,45,49,47,50,44,32,111,119,110,46,97,41,41]
def We:List UInt8:= [53,44,32,109,117,108,40,45,49,47,50,44,32,111,119,110,46,97,41,41]
def RU:List UInt8:= [44,32,109,117,108,40,45,49,47,50,44,32,111,119,110,46,97,41,41]
def LU:List UInt8:= [109,117,108,40,111,119,110,46,97,44,32,102,97,99,116,46,98,41]
def Jg:List UInt8:= [97,100,100,40,111,119,110,46,97,44,32,102,97,99,116,46,97,41]
def am6:List UInt8:= [46,97,44,32,36,51,41,44,32,111,119,110,46,98,44,32,36,48,41]
def LV:List UInt8:= [115,117,98,40,111,119,110,46,97,44,32,111,119,110,46,97,41]
def adq:List UInt8:= [97,44,32,36,51,41,44,32,111,119,110,46,98,44,32,36,48,41]
def RV:List UInt8:= [109,117,108,40,45,49,47,50,44,32,111,119,110,46,97,41,41]
def adr:List UInt8:= [44,32,36,51,41,44,32,111,119,110,46,98,44,32,36,48,41]
def Zu:List UInt8:= [40,111,119,110,46,97,44,32,102,97,99,116,46,97,41]
def Zv:List UInt8:= [40,111,119,110,46,97,44,32,102,97,99,116,46,98,41]
def Zw:List UInt8:= [36,51,41,44,32,111,119,110,46,98,44,32,36,48,41]
def Zx:List UInt8:= [40,111,119,110,46,97,44,32,111,119,110,46,97,41]
def LW:List UInt8:= [100,105,118,40,36,49,44,32,111,119,110,46,97,41]
def LX:List UInt8:= [100,105,118,40,111,119,110,46,97,44,32,45,50,41]
def RX:List UInt8:= [111,119,110,46,97,44,32,102,97,99,116,46,97,41]
def RY:List UInt8:= [111,119,110,46,97,44,32,102,97,99,116,46,98,41]
def Zy:List UInt8:= [40,45,49,47,50,44,32,111,119,110,46,97,41,41]
def Wh:List UInt8:= [51,41,44,32,111,119,110,46,98,44,32,36,48,41]
def LY:List UInt8:= [114,97,116,101,46,120,40,111,119,110,46,97,41]
def RZ:List UInt8:= [111,119,110,46,97,44,32,111,119,110,46,97,41]
def Oy:List UInt8:= [45,49,47,50,44,32,111,119,110,46,97,41,41]
def R_:List UInt8:= [41,44,32,111,119,110,46,98,44,32,36,48,41]
def ads:List UInt8:= [44,32,111,119,110,46,98,44,32,36,48,41]
def Aw:List UInt8:= [45,48,49,50,51,52,53,54,55,56,57,47]
def Zz:List UInt8:= [40,36,49,44,32,111,119,110,46,97,41]
def ZA:List UInt8:= [40,111,119,110,46,97,44,32,45,50,41]
def am7:List UInt8:= [46,97,44,32,102,97,99,116,46,97,41]
def am8:List UInt8:= [46,97,44,32,102,97,99,116,46,98,41]
def am9:List UInt8:= [46,97,44,32,111,119,110,46,97,41]
def ZB:List UInt8:= [36,49,44,32,111,119,110,46,97,41]
def Si:List UInt8:= [111,119,110,46,97,44,32,45,50,41]
def Sj:List UInt8:= [111,119,110,46,98,44,32,36,48,41]
def adt:List UInt8:= [97,44,32,102,97,99,116,46,97,41]
def adu:List UInt8:= [97,44,32,102,97,99,116,46,98,41]
def am_:List UInt8:= [46,120,40,111,119,110,46,97,41]
def adv:List UInt8:= [97,44,32,111,119,110,46,97,41]
def Sl:List UInt8:= [44,32,111,119,110,46,97,41,41]
def Wi:List UInt8:= [49,44,32,111,119,110,46,97,41]
def adw:List UInt8:= [44,32,102,97,99,116,46,97,41]
def adx:List UInt8:= [44,32,102,97,99,116,46,98,41]
def ady:List UInt8:= [120,40,111,119,110,46,97,41]
def Jh:List UInt8:= [44,32,111,119,110,46,97,41]
def Sm:List UInt8:= [111,119,110,46,97,41,41]
def ana:List UInt8:= [40,111,119,110,46,97,41]
def Sr:List UInt8:= [102,97,99,116,46,97,41]
def Su:List UInt8:= [102,97,99,116,46,98,41]
def anb:List UInt8:= [46,97,44,32,45,50,41]
def anc:List UInt8:= [46,98,44,32,36,48,41]
def sO:List UInt8:= [111,119,110,46,97,41]
def adz:List UInt8:= [97,44,32,45,50,41]
def adA:List UInt8:= [98,44,32,36,48,41]
def ane:List UInt8:= [108,101,115,115]
def adB:List UInt8:= [44,32,45,50,41]
def adC:List UInt8:= [44,32,36,48,41]
def anf:List UInt8:= [102,97,99,116]
def adD:List UInt8:= [45,49,47,50]
def ang:List UInt8:= [46,97,41,41]
theorem k0:au prog ap 90 [.ptr 0 0 0,.str [36]] (rA Jg 1) (.ret (.bool false)) (rA Jg 1):=cK (.nil)
theorem k1:au prog ap 92 [.ptr 0 0 0,.str oW] (rA Jg 1) (.ret (.str [97,100,100])) (rA Zu 1):=bT (gq Jg oW (1) false (by decide) (by decide)) (by kernel_rfl)
theorem k2:au prog ap 90 [.ptr 0 0 0,.str [46]] (rA Zu 1) (.ret (.bool false)) (rA Zu 1):=cK (.nil)
theorem k3:CO 93 [.int .i64 5] (.ret (.str [102,97,99,116,46])):=cK (.nil)
theorem k4:CO 93 [.int .i64 6] (.ret (.str [111,119,110,46])):=cK (.nil)
theorem k5:CO 93 [.int .i64 7] (.ret (.str [112,114,105,111,114,46])):=cK (.nil)
theorem k6:CO 93 [.int .i64 8] (.ret (.str [115,112,111,117,115,101,46])):=cK (.nil)
theorem k7:CO 93 [.int .i64 9] (.ret (.str [97,100,100])):=cK (.nil)
theorem k8:CO 93 [.int .i64 10] (.ret (.str [115,117,98])):=cK (.nil)
theorem k9:CO 93 [.int .i64 11] (.ret (.str [109,117,108])):=cK (.nil)
theorem A7:CO 93 [.int .i64 12] (.ret (.str [100,105,118])):=cK (.nil)
theorem EQ:CO 93 [.int .i64 13] (.ret (.str [109,105,110])):=cK (.nil)
theorem ER:CO 93 [.int .i64 14] (.ret (.str [109,97,120])):=cK (.nil)
theorem Dh:CO 93 [.int .i64 15] (.ret (.str [105,102])):=cK (.nil)
theorem Di:CO 93 [.int .i64 16] (.ret (.str ane)):=cK (.nil)
theorem ES:CO 93 [.int .i64 17] (.ret (.str [101,113,117,97,108])):=cK (.nil)
theorem ET:CO 93 [.int .i64 18] (.ret (.str [97,110,100])):=cK (.nil)
theorem EU:CO 93 [.int .i64 19] (.ret (.str [111,114])):=cK (.nil)
theorem EW:CO 93 [.int .i64 20] (.ret (.str [110,111,116])):=cK (.nil)
theorem EX:CO 93 [.int .i64 21] (.ret (.str [100,111,119,110])):=cK (.nil)
theorem EY:CO 93 [.int .i64 22] (.ret (.str [117,112])):=cK (.nil)
theorem EZ:CO 93 [.int .i64 23] (.ret (.str [110,101,97,114])):=cK (.nil)
theorem Dj:CO 93 [.int .i64 24] (.ret (.str [114,97,116,101,46])):=cK (.nil)
theorem k23:CO 32 [.int .i64 9] (.ret (.bool false)):=cK (.nil)
theorem qL:CO 34 [.int .i64 9] (.ret (.bool false)):=cK (.nil)
theorem k25:CO 30 [.int .i64 9] (.ret (.int .i64 2)):=cK (.nil)
theorem k26:au prog ap 90 [.ptr 0 0 0,.str [40]] (rA Zu 1) (.ret (.bool true)) (rA RX 1):=cK (.nil)
theorem k27:au prog ap 90 [.ptr 0 0 0,.str [36]] (rA RX 2) (.ret (.bool false)) (rA RX 2):=cK (.nil)
theorem k28:au prog ap 92 [.ptr 0 0 0,.str oW] (rA RX 2) (.ret (.str [111,119,110])) (rA am7 2):=bT (gq RX oW (2) false (by decide) (by decide)) (by kernel_rfl)
theorem k29:au prog ap 90 [.ptr 0 0 0,.str [46]] (rA am7 2) (.ret (.bool true)) (rA adt 2):=cK (.nil)
theorem Gp:CO 32 [.int .i64 6] (.ret (.bool true)):=cK (.nil)
theorem k31:au prog ap 92 [.ptr 0 0 0,.str BB] (rA adt 2) (.ret (.str [97])) (rA adw 2):=bT (gq adt BB (2) false (by decide) (by decide)) (by kernel_rfl)
theorem E5:CO 34 [.int .i64 6] (.ret (.bool false)):=cK (.nil)
theorem qM:CO 30 [.int .i64 6] (.ret (.int .i64 0)):=cK (.nil)
theorem k34:au prog ap 56 [.ptr 0 0 0] (rA RX 1) (.ret (.tup [])) (rB adw 1 2 dQ):=cK (.c qM (.c qM (.c E5 (.c k31 (.c Gp (.c Dj (.c EZ (.c EY (.c EX (.c EW (.c EU (.c ET (.c ES (.c Di (.c Dh (.c ER (.c EQ (.c A7 (.c k9 (.c k8 (.c k7 (.c k6 (.c k5 (.c k4 (.c k3 (.c k29 (.c k28 (.c k27 .nil))))))))))))))))))))))))))))
theorem k35:au prog ap 90 [.ptr 0 0 0,.str [44,32]] (rB adw 1 2 dQ) (.ret (.bool true)) (rB Sr 1 2 dQ):=cK (.nil)
theorem k36:au prog ap 90 [.ptr 0 0 0,.str [36]] (rB Sr 1 3 dQ) (.ret (.bool false)) (rB Sr 1 3 dQ):=cK (.nil)
theorem k37:au prog ap 92 [.ptr 0 0 0,.str oW] (rB Sr 1 3 dQ) (.ret (.str anf)) (rB [46,97,41] 1 3 dQ):=bT (jM Sr oW (3) false 1 dQ (by decide) (by decide)) (by kernel_rfl)
theorem k38:au prog ap 90 [.ptr 0 0 0,.str [46]] (rB [46,97,41] 1 3 dQ) (.ret (.bool true)) (rB [97,41] 1 3 dQ):=cK (.nil)
theorem k39:CO 32 [.int .i64 5] (.ret (.bool true)):=cK (.nil)
theorem k40:au prog ap 92 [.ptr 0 0 0,.str BB] (rB [97,41] 1 3 dQ) (.ret (.str [97])) (rB [41] 1 3 dQ):=bT (jM [97,41] BB (3) false 1 dQ (by decide) (by decide)) (by kernel_rfl)
theorem k41:CO 34 [.int .i64 5] (.ret (.bool false)):=cK (.nil)
theorem Z8:CO 30 [.int .i64 5] (.ret (.int .i64 0)):=cK (.nil)
theorem k43:au prog ap 56 [.ptr 0 0 0] (rB Sr 1 2 dQ) (.ret (.tup [])) [⟨[.str [41],.ref 1 1 0 2,.int .i64 3,.bool false],0,false,0,0,false⟩,⟨zo5,1,false,0,5,true⟩]:=cK (.c Z8 (.c Z8 (.c k41 (.c k40 (.c k39 (.c Dj (.c EZ (.c EY (.c EX (.c EW (.c EU (.c ET (.c ES (.c Di (.c Dh (.c ER (.c EQ (.c A7 (.c k9 (.c k8 (.c k7 (.c k6 (.c k5 (.c k4 (.c k3 (.c k38 (.c k37 (.c k36 .nil))))))))))))))))))))))))))))
theorem k44:au prog ap 90 [.ptr 0 0 0,.str [41]] (rB [41] 2 3 zo5) (.ret (.bool true)) (rB [] 2 3 zo5):=cK (.nil)
theorem k45:au prog ap 56 [.ptr 0 0 0] (rA Jg 0) (.ret (.tup [])) [⟨[.str [],.ref 1 0 0 3,.int .i64 3,.bool false],0,false,0,0,false⟩,⟨(aI v_),0,false,0,5,true⟩]:=cK (.c k44 (.c k25 (.c k25 (.c k43 (.c k35 (.c k25 (.c k34 (.c k26 (.c k25 (.c qL (.c k23 (.c Dj (.c EZ (.c EY (.c EX (.c EW (.c EU (.c ET (.c ES (.c Di (.c Dh (.c ER (.c EQ (.c A7 (.c k9 (.c k8 (.c k7 (.c k6 (.c k5 (.c k4 (.c k3 (.c k2 (.c k1 (.c k0 .nil))))))))))))))))))))))))))))))))))
theorem Sz:CO 94 [.int .i64 6] (.ret (.bool false)):=cK (.nil)
theorem XQ:CO 74 [.agg dQ] (.ret (.bool true)):=cK (.c E5 (.c Sz .nil))
theorem Wq:CO 75 [.str [97]] (.ret (.bool true)):=cK (.nil)
theorem k49:CO 94 [.int .i64 5] (.ret (.bool false)):=cK (.nil)
theorem k50:CO 74 [.agg [.int .i64 5,.bool false,.str [],.str [],.str [97]]] (.ret (.bool true)):=cK (.c k41 (.c k49 .nil))
theorem k51:CO 94 [.int .i64 9] (.ret (.bool false)):=cK (.nil)
theorem k52:CO 74 [.agg [.int .i64 9,.bool false,.str [],.str [],.str []]] (.ret (.bool true)):=cK (.c qL (.c k51 .nil))
theorem Nw:CO 75 [.str []] (.ret (.bool false)):=cK (.nil)
theorem k54:CO 48 [.sl (aI v_) 3 true] (.ret (.int .i64 0)):=cK (.c k25 (.c Nw (.c k52 (.c k23 (.c Z8 (.c Wq (.c k50 (.c k39 (.c qM (.c Wq (.c XQ (.c Gp .nil))))))))))))
theorem k55:CO 57 [.sl (aI v_) 3 true] (.ret (.tup [.str Jg,.int .i64 0])):=cK (.c qL (.c k51 (.c k7 (.c k25 (.c k41 (.c k49 (.c k3 (.c Z8 (.c E5 (.c Sz (.c k4 (.c qM (.c k54 .nil)))))))))))))
theorem k56:CO 27 [.str Jg] (.ret (.tup [.sl (aI v_) 3 true,.int .i64 0])):=cK (.c k55 (.c k45 .nil))
theorem k57:CO 36 [.int .i64 1] (.ret (.agg [.bool false,.str [1],.str [1]])):=bT (yl 1 (by decide)) (by kernel_rfl)
theorem k58:CO 36 [.int .i64 10] (.ret (.agg [.bool false,.str [10],.str [1]])):=bT (yl 10 (by decide)) (by kernel_rfl)
theorem k59:CO 70 [.agg [.bool false,.str [1],.str [1]]] (.ret (.agg [.bool false,.str [1],.str [1]])):=bT (bU false [1] [1] (by decide) (by decide)) (by kernel_rfl)
theorem k60:CO 70 [.agg [.bool false,.str [10],.str [1]]] (.ret (.agg [.bool false,.str [10],.str [1]])):=bT (bU false [10] [1] (by decide) (by decide)) (by kernel_rfl)
theorem Z9:CO 76 [.str [1]] (.ret (.str [1])):=cK (.nil)
theorem k62:CO 107 [.str [1]] (.ret (.tup [.int .i64 1,.bool true])):=cK (.c Z9 .nil)
theorem k63:CO 77 [.str [1],.int .i64 3] (.ret (.tup [.int .i64 1,.bool true])):=cK (.c k62 (.c Z9 .nil))
theorem k64:CO 77 [.str [1],.int .i64 4] (.ret (.tup [.int .i64 1,.bool true])):=cK (.c k62 (.c Z9 .nil))
theorem Ut:CO 49 [.int .i64 1] (.ret (.str [1])):=bT (dm 1 (by decide)) (by kernel_rfl)
theorem k66:CO 50 [.str [1],.str [1]] (.ret (.str [1])):=cK (.c Ut (.c k64 (.c k63 .nil)))
theorem k67:CO 76 [.str [10]] (.ret (.str [10])):=cK (.nil)
theorem k68:CO 107 [.str [10]] (.ret (.tup [.int .i64 10,.bool true])):=cK (.c k67 .nil)
theorem k69:CO 77 [.str [10],.int .i64 4] (.ret (.tup [.int .i64 10,.bool true])):=cK (.c k68 (.c k67 .nil))
theorem Ws:CO 49 [.int .i64 10] (.ret (.str [10])):=bT (dm 10 (by decide)) (by kernel_rfl)
theorem k71:CO 50 [.str [1],.str [10]] (.ret (.str [10])):=cK (.c Ws (.c k69 (.c k63 .nil)))
theorem k72:CO 51 [.bool false,.str [1],.str [10]] (.ret (.agg [.bool false,.str [1],.str [10]])):=bT (dO false 1 10 (aV (by decide)) (aV (by decide)) (by decide)) (by kernel_rfl)
theorem k73:CO 58 [.agg [.bool false,.str [1],.str [1]],.agg [.bool false,.str [10],.str [1]]] (.ret (.tup [.agg [.bool false,.str [1],.str [10]],.bool true])):=cK (.c k72 (.c k71 (.c k66 (.c k60 (.c k59 .nil)))))
theorem k74:CO 36 [.int .i64 5] (.ret (.agg [.bool false,.str [5],.str [1]])):=bT (yl 5 (by decide)) (by kernel_rfl)
theorem k75:CO 70 [.agg [.bool false,.str [5],.str [1]]] (.ret (.agg [.bool false,.str [5],.str [1]])):=bT (bU false [5] [1] (by decide) (by decide)) (by kernel_rfl)
theorem k76:CO 76 [.str [5]] (.ret (.str [5])):=cK (.nil)
theorem k77:CO 107 [.str [5]] (.ret (.tup [.int .i64 5,.bool true])):=cK (.c k76 .nil)
theorem k78:CO 77 [.str [5],.int .i64 4] (.ret (.tup [.int .i64 5,.bool true])):=cK (.c k77 (.c k76 .nil))
theorem k79:CO 49 [.int .i64 5] (.ret (.str [5])):=bT (dm 5 (by decide)) (by kernel_rfl)
theorem k80:CO 50 [.str [1],.str [5]] (.ret (.str [5])):=cK (.c k79 (.c k78 (.c k63 .nil)))
theorem k81:CO 51 [.bool false,.str [1],.str [5]] (.ret (.agg [.bool false,.str [1],.str [5]])):=bT (dO false 1 5 (aV (by decide)) (aV (by decide)) (by decide)) (by kernel_rfl)
theorem k82:CO 58 [.agg [.bool false,.str [1],.str [1]],.agg [.bool false,.str [5],.str [1]]] (.ret (.tup [.agg [.bool false,.str [1],.str [5]],.bool true])):=cK (.c k81 (.c k80 (.c k66 (.c k75 (.c k59 .nil)))))
theorem k83:CO 36 [.int .i64 0] (.ret (.agg [.bool false,.str [],.str [1]])):=bT (yl 0 (by decide)) (by kernel_rfl)
theorem Uu:CO 28 [.int .i64 1] (.ret (.sl [.str [120],.int .i64 0,.int .i64 0,.sl zcc4_2 2 true] 1 true)):=cK (.c k74 (.c k83 (.c k82 (.c k74 (.c k57 (.c k73 (.c k58 (.c k57 .nil))))))))
theorem k85:CO 14 [.sl (aI v_) 3 true,.sl [.str [120],.int .i64 0,.int .i64 0,.sl zcc4_2 2 true] 1 true,.int .i64 6,.str [97]] (.ret (.int .i64 1)):=au.args (args:= [.sl (aI v_) 3 true,.sl [.str [120],.int .i64 0,.int .i64 0,.sl zcc4_2 2 false] 1 true,.int .i64 6,.str [97]]) (.cons (aZ.refl _) (.cons (aZ.slP (.same (.same (.same (.sl .nil))))) (.cons (aZ.refl _) (.cons (aZ.refl _) .nil)))) (bT (bZ v_ true sH true kW 6 [97] (jE (by kernel_rfl)) (by decide) (by decide) (gK)) (by kernel_rfl))
theorem k86:CO 26 [.str Jg,.str [97],.int .i64 1] (.ret (.bool true)):=cK (.c k85 (.c Uu (.c k56 .nil)))
theorem k87:CO 14 [.sl (aI v_) 3 true,.sl [.str [120],.int .i64 0,.int .i64 0,.sl zcc4_2 2 true] 1 true,.int .i64 6,.str [98]] (.ret (.int .i64 0)):=au.args (args:= [.sl (aI v_) 3 true,.sl [.str [120],.int .i64 0,.int .i64 0,.sl zcc4_2 2 false] 1 true,.int .i64 6,.str [98]]) (.cons (aZ.refl _) (.cons (aZ.slP (.same (.same (.same (.sl .nil))))) (.cons (aZ.refl _) (.cons (aZ.refl _) .nil)))) (bT (bZ v_ true sH true kW 6 [98] (jE (by kernel_rfl)) (by decide) (by decide) (gK)) (by kernel_rfl))
theorem k88:CO 26 [.str Jg,.str [98],.int .i64 0] (.ret (.bool true)):=cK (.c k87 (.c Uu (.c k56 .nil)))
theorem k89:au prog ap 90 [.ptr 0 0 0,.str [36]] (rA LV 1) (.ret (.bool false)) (rA LV 1):=cK (.nil)
theorem k90:au prog ap 92 [.ptr 0 0 0,.str oW] (rA LV 1) (.ret (.str [115,117,98])) (rA Zx 1):=bT (gq LV oW (1) false (by decide) (by decide)) (by kernel_rfl)
theorem k91:au prog ap 90 [.ptr 0 0 0,.str [46]] (rA Zx 1) (.ret (.bool false)) (rA Zx 1):=cK (.nil)
theorem k92:CO 32 [.int .i64 10] (.ret (.bool false)):=cK (.nil)
theorem k93:CO 34 [.int .i64 10] (.ret (.bool false)):=cK (.nil)
theorem SA:CO 30 [.int .i64 10] (.ret (.int .i64 2)):=cK (.nil)
theorem k95:au prog ap 90 [.ptr 0 0 0,.str [40]] (rA Zx 1) (.ret (.bool true)) (rA RZ 1):=cK (.nil)
theorem k96:au prog ap 90 [.ptr 0 0 0,.str [36]] (rA RZ 2) (.ret (.bool false)) (rA RZ 2):=cK (.nil)
theorem k97:au prog ap 92 [.ptr 0 0 0,.str oW] (rA RZ 2) (.ret (.str [111,119,110])) (rA am9 2):=bT (gq RZ oW (2) false (by decide) (by decide)) (by kernel_rfl)
theorem k98:au prog ap 90 [.ptr 0 0 0,.str [46]] (rA am9 2) (.ret (.bool true)) (rA adv 2):=cK (.nil)
theorem k99:au prog ap 92 [.ptr 0 0 0,.str BB] (rA adv 2) (.ret (.str [97])) (rA Jh 2):=bT (gq adv BB (2) false (by decide) (by decide)) (by kernel_rfl)
theorem apo:au prog ap 56 [.ptr 0 0 0] (rA RZ 1) (.ret (.tup [])) (rB Jh 1 2 dQ):=cK (.c qM (.c qM (.c E5 (.c k99 (.c Gp (.c Dj (.c EZ (.c EY (.c EX (.c EW (.c EU (.c ET (.c ES (.c Di (.c Dh (.c ER (.c EQ (.c A7 (.c k9 (.c k8 (.c k7 (.c k6 (.c k5 (.c k4 (.c k3 (.c k98 (.c k97 (.c k96 .nil))))))))))))))))))))))))))))
theorem apq:au prog ap 90 [.ptr 0 0 0,.str [44,32]] (rB Jh 1 2 dQ) (.ret (.bool true)) (rB sO 1 2 dQ):=cK (.nil)
theorem apr:au prog ap 90 [.ptr 0 0 0,.str [36]] (rB sO 1 3 dQ) (.ret (.bool false)) (rB sO 1 3 dQ):=cK (.nil)
theorem aps:au prog ap 92 [.ptr 0 0 0,.str oW] (rB sO 1 3 dQ) (.ret (.str [111,119,110])) (rB [46,97,41] 1 3 dQ):=bT (jM sO oW (3) false 1 dQ (by decide) (by decide)) (by kernel_rfl)
theorem apt:au prog ap 56 [.ptr 0 0 0] (rB sO 1 2 dQ) (.ret (.tup [])) [⟨[.str [41],.ref 1 1 0 2,.int .i64 3,.bool false],0,false,0,0,false⟩,⟨zo6,1,false,0,5,true⟩]:=cK (.c qM (.c qM (.c E5 (.c k40 (.c Gp (.c Dj (.c EZ (.c EY (.c EX (.c EW (.c EU (.c ET (.c ES (.c Di (.c Dh (.c ER (.c EQ (.c A7 (.c k9 (.c k8 (.c k7 (.c k6 (.c k5 (.c k4 (.c k3 (.c k38 (.c aps (.c apr .nil))))))))))))))))))))))))))))
theorem apu:au prog ap 90 [.ptr 0 0 0,.str [41]] (rB [41] 2 3 zo6) (.ret (.bool true)) (rB [] 2 3 zo6):=cK (.nil)
theorem apv:au prog ap 56 [.ptr 0 0 0] (rA LV 0) (.ret (.tup [])) [⟨[.str [],.ref 1 0 0 3,.int .i64 3,.bool false],0,false,0,0,false⟩,⟨(aI Em),0,false,0,5,true⟩]:=cK (.c apu (.c SA (.c SA (.c apt (.c apq (.c SA (.c apo (.c k95 (.c SA (.c k93 (.c k92 (.c Dj (.c EZ (.c EY (.c EX (.c EW (.c EU (.c ET (.c ES (.c Di (.c Dh (.c ER (.c EQ (.c A7 (.c k9 (.c k8 (.c k7 (.c k6 (.c k5 (.c k4 (.c k3 (.c k91 (.c k90 (.c k89 .nil))))))))))))))))))))))))))))))))))
theorem abu:CO 94 [.int .i64 10] (.ret (.bool false)):=cK (.nil)
theorem ajE:CO 74 [.agg [.int .i64 10,.bool false,.str [],.str [],.str []]] (.ret (.bool true)):=cK (.c k93 (.c abu .nil))
theorem apw:CO 48 [.sl (aI Em) 3 true] (.ret (.int .i64 0)):=cK (.c SA (.c Nw (.c ajE (.c k92 (.c qM (.c Wq (.c XQ (.c Gp (.c qM (.c Wq (.c XQ (.c Gp .nil))))))))))))
theorem apx:CO 57 [.sl (aI Em) 3 true] (.ret (.tup [.str LV,.int .i64 0])):=cK (.c k93 (.c abu (.c k8 (.c SA (.c E5 (.c Sz (.c k4 (.c qM (.c E5 (.c Sz (.c k4 (.c qM (.c apw .nil)))))))))))))
theorem apy:CO 27 [.str LV] (.ret (.tup [.sl (aI Em) 3 true,.int .i64 0])):=cK (.c apx (.c apv .nil))
theorem apz:CO 14 [.sl (aI Em) 3 true,.sl [.str [120],.int .i64 0,.int .i64 0,.sl zcc4_2 2 true] 1 true,.int .i64 6,.str [97]] (.ret (.int .i64 3)):=au.args (args:= [.sl (aI Em) 3 true,.sl [.str [120],.int .i64 0,.int .i64 0,.sl zcc4_2 2 false] 1 true,.int .i64 6,.str [97]]) (.cons (aZ.refl _) (.cons (aZ.slP (.same (.same (.same (.sl .nil))))) (.cons (aZ.refl _) (.cons (aZ.refl _) .nil)))) (bT (bZ Em true sH true kW 6 [97] (jE (by kernel_rfl)) (by decide) (by decide) (gK)) (by kernel_rfl))
theorem apA:CO 26 [.str LV,.str [97],.int .i64 3] (.ret (.bool true)):=cK (.c apz (.c Uu (.c apy .nil)))
theorem apB:au prog ap 90 [.ptr 0 0 0,.str [36]] (rA zs5 1) (.ret (.bool false)) (rA zs5 1):=cK (.nil)
theorem apC:au prog ap 92 [.ptr 0 0 0,.str oW] (rA zs5 1) (.ret (.str [115,117,98])) (rA zs7 1):=bT (gq zs5 oW (1) false (by decide) (by decide)) (by kernel_rfl)
theorem apD:au prog ap 90 [.ptr 0 0 0,.str [46]] (rA zs7 1) (.ret (.bool false)) (rA zs7 1):=cK (.nil)
theorem apF:au prog ap 90 [.ptr 0 0 0,.str [40]] (rA zs7 1) (.ret (.bool true)) (rA zs9 1):=cK (.nil)
theorem apG:au prog ap 90 [.ptr 0 0 0,.str [36]] (rA zs9 2) (.ret (.bool true)) (rA We 2):=cK (.nil)
theorem apI:au prog ap 92 [.ptr 0 0 0,.str Aw] (rA We 2) (.ret (.str [53])) (rA RU 2):=bT (gq We Aw (2) false (by decide) (by decide)) (by kernel_rfl)
theorem XH:CO 76 [.str []] (.ret (.str [])):=cK (.nil)
theorem ajF:CO 107 [.str []] (.ret (.tup [.int .i64 0,.bool true])):=cK (.c XH .nil)
theorem apJ:CO 77 [.str [],.int .i64 3] (.ret (.tup [.int .i64 0,.bool true])):=cK (.c ajF (.c XH .nil))
theorem XI:CO 49 [.int .i64 0] (.ret (.str [])):=bT (dm 0 (by decide)) (by kernel_rfl)
theorem Um:CO 50 [.str [],.str [10]] (.ret (.str [])):=cK (.c XI (.c k69 (.c apJ .nil)))
theorem Qz:CO 77 [.str [],.int .i64 7] (.ret (.tup [.int .i64 0,.bool true])):=cK (.c ajF (.c XH .nil))
theorem apK:CO 77 [.str [5],.int .i64 7] (.ret (.tup [.int .i64 5,.bool true])):=cK (.c k77 (.c k76 .nil))
theorem apL:CO 61 [.str [],.str [5]] (.ret (.str [5])):=cK (.c k79 (.c apK (.c Qz .nil)))
theorem apM:CO 157 [.str [53]] (.ret (.tup [.str [5],.bool true])):=cK (.c apL (.c k79 (.c Um (.c Ws .nil))))
theorem apO:CO 77 [.str [1],.int .i64 7] (.ret (.tup [.int .i64 1,.bool true])):=cK (.c k62 (.c Z9 .nil))
theorem ajG:CO 61 [.str [],.str [1]] (.ret (.str [1])):=cK (.c Ut (.c apO (.c Qz .nil)))
theorem Nq:CO 157 [.str [49]] (.ret (.tup [.str [1],.bool true])):=cK (.c ajG (.c Ut (.c Um (.c Ws .nil))))
theorem apP:CO 128 [.str [5]] (.ret (.bool true)):=bT (wY [5]) (by kernel_rfl)
theorem Nr:CO 128 [.str [1]] (.ret (.bool true)):=bT (wY [1]) (by kernel_rfl)
theorem apQ:CO 51 [.bool false,.str [5],.str [1]] (.ret (.agg [.bool false,.str [5],.str [1]])):=bT (dO false 5 1 (aV (by decide)) (aV (by decide)) (by decide)) (by kernel_rfl)
theorem apR:CO 96 [.bool false,.str [5],.str [1]] (.ret (.tup [.agg [.bool false,.str [5],.str [1]],.bool true])):=cK (.c apQ (.c Nr (.c apP .nil)))
theorem apS:CO 81 [.str [5],.str [10]] (.ret (.tup [.str [],.str [5],.bool true])):=bT (rJ [5] [10] (by decide) (by decide) (by decide)) (by kernel_rfl)
theorem apT:CO 127 [.str [5]] (.ret (.str [53])):=cK (.c k77 (.c apS (.c Ws (.c k76 .nil))))
theorem Un:CO 118 [.str [1],.str [1]] (.ret (.int .i64 0)):=cK (.c Z9 (.c Z9 .nil))
theorem ajH:CO 95 [.agg [.bool false,.str [5],.str [1]]] (.ret (.str [53])):=cK (.c Un (.c Ut (.c apT (.c k75 .nil))))
theorem apU:CO 126 [.str [53]] (.ret (.tup [.agg [.bool false,.str [5],.str [1]],.bool true])):=cK (.c ajH (.c apR (.c Nq (.c apM .nil))))
theorem apV:au prog ap 91 [.ptr 0 0 0] (rA We 2) (.ret (.agg [.bool false,.str [5],.str [1]])) (rA RU 2):=cK (.c apU (.c apI .nil))
theorem ajI:aH prog ap (rA zs9 1) 206 (uu 5 (af f56)) ⟨([(0,.ptr 0 0 0),(2,.bool true)]++dE [3,4,5,6,7,8,9,10,11,12,13,14,15]++ [(41,.bool false),(47,.bool true)]++dE [65,70,100,102,117,122,128,133,139,145,158,166,170,175,184,188,192]),[(0,⟨[.str We,.nilS,.int .i64 2,.bool false],0,false,0,0,true⟩)],.dead,[]⟩ (.normal) ⟨([(0,.ptr 0 0 0),(2,.bool true)]++dE [3,4,5,6,7,8,9,10,11,12,13,14,15]++ [(41,.bool false),(47,.bool true)]++dE [65,70,100,102,117,122,128,133,139,145,158,166,170,175,184,188,192]),[(0,⟨[.str RU,.ref 1 0 0 1,.int .i64 2,.bool false],0,false,0,0,false⟩),(1,⟨lW,0,false,0,5,true⟩)],.dead,[]⟩:=fun nt a=>Bf Io (keep:=uf ap 56) (i:=4) (b:=0) (d:=52) (nt0:=206) (ans:= [(.ret (.agg [.bool false,.str [5],.str [1]]),(rA RU 2))]) (.cons (rfl:(.nilS:AV)=(.nilS:AV)) (.cons (rfl:(.nilS:AV)=(.nilS:AV)) (.cons apV .nil))) a (by kernel_rfl)
theorem apW:au prog ap 56 [.ptr 0 0 0] (rA zs9 1) (.ret (.tup [])) (rB RU 1 2 lW):=pK [1005] 4 8 (.n 9 .nil) (.l ajI (.c apG .nil))
theorem apX:au prog ap 90 [.ptr 0 0 0,.str [44,32]] (rB RU 1 2 lW) (.ret (.bool true)) (rB RV 1 2 lW):=cK (.nil)
theorem apY:au prog ap 90 [.ptr 0 0 0,.str [36]] (rB RV 1 3 lW) (.ret (.bool false)) (rB RV 1 3 lW):=cK (.nil)
theorem apZ:au prog ap 92 [.ptr 0 0 0,.str oW] (rB RV 1 3 lW) (.ret (.str [109,117,108])) (rB Zy 1 3 lW):=bT (jM RV oW (3) false 1 lW (by decide) (by decide)) (by kernel_rfl)
theorem ap0:au prog ap 90 [.ptr 0 0 0,.str [46]] (rB Zy 1 3 lW) (.ret (.bool false)) (rB Zy 1 3 lW):=cK (.nil)
theorem XJ:CO 32 [.int .i64 11] (.ret (.bool false)):=cK (.nil)
theorem Uo:CO 34 [.int .i64 11] (.ret (.bool false)):=cK (.nil)
theorem Ap:CO 30 [.int .i64 11] (.ret (.int .i64 2)):=cK (.nil)
theorem ap1:au prog ap 90 [.ptr 0 0 0,.str [40]] (rB Zy 1 3 lW) (.ret (.bool true)) (rB Oy 1 3 lW):=cK (.nil)
theorem ap2:au prog ap 90 [.ptr 0 0 0,.str [36]] (rB Oy 1 4 lW) (.ret (.bool false)) (rB Oy 1 4 lW):=cK (.nil)
theorem ap3:au prog ap 92 [.ptr 0 0 0,.str Aw] (rB Oy 1 4 lW) (.ret (.str adD)) (rB Sl 1 4 lW):=bT (jM Oy Aw (4) false 1 lW (by decide) (by decide)) (by kernel_rfl)
theorem ajJ:CO 49 [.int .i64 2] (.ret (.str [2])):=bT (dm 2 (by decide)) (by kernel_rfl)
theorem XK:CO 76 [.str [2]] (.ret (.str [2])):=cK (.nil)
theorem ajK:CO 107 [.str [2]] (.ret (.tup [.int .i64 2,.bool true])):=cK (.c XK .nil)
theorem ap4:CO 77 [.str [2],.int .i64 7] (.ret (.tup [.int .i64 2,.bool true])):=cK (.c ajK (.c XK .nil))
theorem ap5:CO 61 [.str [],.str [2]] (.ret (.str [2])):=cK (.c ajJ (.c ap4 (.c Qz .nil)))
theorem ajL:CO 157 [.str [50]] (.ret (.tup [.str [2],.bool true])):=cK (.c ap5 (.c ajJ (.c Um (.c Ws .nil))))
theorem ajM:CO 128 [.str [2]] (.ret (.bool true)):=bT (wY [2]) (by kernel_rfl)
theorem ap6:CO 51 [.bool true,.str [1],.str [2]] (.ret (.agg [.bool true,.str [1],.str [2]])):=bT (dO true 1 2 (aV (by decide)) (aV (by decide)) (by decide)) (by kernel_rfl)
theorem ap7:CO 96 [.bool true,.str [1],.str [2]] (.ret (.tup [.agg [.bool true,.str [1],.str [2]],.bool true])):=cK (.c ap6 (.c ajM (.c Nr .nil)))
theorem ap8:CO 70 [.agg [.bool true,.str [1],.str [2]]] (.ret (.agg [.bool true,.str [1],.str [2]])):=bT (bU true [1] [2] (by decide) (by decide)) (by kernel_rfl)
theorem ap9:CO 81 [.str [1],.str [10]] (.ret (.tup [.str [],.str [1],.bool true])):=bT (rJ [1] [10] (by decide) (by decide) (by decide)) (by kernel_rfl)
theorem ajN:CO 127 [.str [1]] (.ret (.str [49])):=cK (.c k62 (.c ap9 (.c Ws (.c Z9 .nil))))
theorem ap_:CO 118 [.str [2],.str [1]] (.ret (.int .i64 1)):=cK (.c Z9 (.c XK .nil))
theorem aqa:CO 81 [.str [2],.str [10]] (.ret (.tup [.str [],.str [2],.bool true])):=bT (rJ [2] [10] (by decide) (by decide) (by decide)) (by kernel_rfl)
theorem ajO:CO 127 [.str [2]] (.ret (.str [50])):=cK (.c ajK (.c aqa (.c Ws (.c XK .nil))))
theorem ajP:CO 95 [.agg [.bool true,.str [1],.str [2]]] (.ret (.str adD)):=cK (.c ajO (.c ap_ (.c Ut (.c ajN (.c ap8 .nil)))))
theorem aqb:CO 126 [.str adD] (.ret (.tup [.agg [.bool true,.str [1],.str [2]],.bool true])):=cK (.c ajP (.c ap7 (.c ajL (.c Nq .nil))))
theorem aqc:au prog ap 91 [.ptr 0 0 0] (rB Oy 1 4 lW) (.ret (.agg [.bool true,.str [1],.str [2]])) (rB Sl 1 4 lW):=cK (.c aqb (.c ap3 .nil))
theorem aqd:au prog ap 90 [.ptr 0 0 0,.str [100]] (rB Sl 1 4 lW) (.ret (.bool false)) (rB Sl 1 4 lW):=cK (.nil)
theorem aqe:au prog ap 56 [.ptr 0 0 0] (rB Oy 1 3 lW) (.ret (.tup [])) [⟨[.str Sl,.ref 1 1 0 2,.int .i64 4,.bool false],0,false,0,0,false⟩,⟨yH,1,false,0,5,true⟩]:=cK (.c aqd (.c aqc (.c ap2 .nil)))
theorem aqf:au prog ap 90 [.ptr 0 0 0,.str [44,32]] (rB Sl 2 4 yH) (.ret (.bool true)) (rB Sm 2 4 yH):=cK (.nil)
theorem aqg:au prog ap 90 [.ptr 0 0 0,.str [36]] (rB Sm 2 5 yH) (.ret (.bool false)) (rB Sm 2 5 yH):=cK (.nil)
theorem aqh:au prog ap 92 [.ptr 0 0 0,.str oW] (rB Sm 2 5 yH) (.ret (.str [111,119,110])) (rB ang 2 5 yH):=bT (jM Sm oW (5) false 2 yH (by decide) (by decide)) (by kernel_rfl)
theorem aqi:au prog ap 90 [.ptr 0 0 0,.str [46]] (rB ang 2 5 yH) (.ret (.bool true)) (rB [97,41,41] 2 5 yH):=cK (.nil)
theorem aqj:au prog ap 92 [.ptr 0 0 0,.str BB] (rB [97,41,41] 2 5 yH) (.ret (.str [97])) (rB [41,41] 2 5 yH):=bT (jM [97,41,41] BB (5) false 2 yH (by decide) (by decide)) (by kernel_rfl)
theorem aqk:au prog ap 56 [.ptr 0 0 0] (rB Sm 2 4 yH) (.ret (.tup [])) [⟨[.str [41,41],.ref 1 1 0 3,.int .i64 5,.bool false],0,false,0,0,false⟩,⟨zo3,1,false,0,5,true⟩]:=cK (.c qM (.c qM (.c E5 (.c aqj (.c Gp (.c Dj (.c EZ (.c EY (.c EX (.c EW (.c EU (.c ET (.c ES (.c Di (.c Dh (.c ER (.c EQ (.c A7 (.c k9 (.c k8 (.c k7 (.c k6 (.c k5 (.c k4 (.c k3 (.c aqi (.c aqh (.c aqg .nil))))))))))))))))))))))))))))
theorem aql:au prog ap 90 [.ptr 0 0 0,.str [41]] (rB [41,41] 3 5 zo3) (.ret (.bool true)) (rB [41] 3 5 zo3):=cK (.nil)
theorem aqm:au prog ap 56 [.ptr 0 0 0] (rB RV 1 2 lW) (.ret (.tup [])) [⟨[.str [41],.ref 1 3 0 4,.int .i64 5,.bool false],0,false,0,0,false⟩,⟨zo2,3,false,0,5,true⟩]:=cK (.c aql (.c Ap (.c Ap (.c aqk (.c aqf (.c Ap (.c aqe (.c ap1 (.c Ap (.c Uo (.c XJ (.c Dj (.c EZ (.c EY (.c EX (.c EW (.c EU (.c ET (.c ES (.c Di (.c Dh (.c ER (.c EQ (.c A7 (.c k9 (.c k8 (.c k7 (.c k6 (.c k5 (.c k4 (.c k3 (.c ap0 (.c apZ (.c apY .nil))))))))))))))))))))))))))))))))))
theorem aqn:au prog ap 90 [.ptr 0 0 0,.str [41]] (rB [41] 4 5 zo2) (.ret (.bool true)) (rB [] 4 5 zo2):=cK (.nil)
theorem aqo:au prog ap 56 [.ptr 0 0 0] (rA zs5 0) (.ret (.tup [])) [⟨[.str [],.ref 1 0 0 5,.int .i64 5,.bool false],0,false,0,0,false⟩,⟨(aI Eo),0,false,0,5,true⟩]:=cK (.c aqn (.c SA (.c SA (.c aqm (.c apX (.c SA (.c apW (.c apF (.c SA (.c k93 (.c k92 (.c Dj (.c EZ (.c EY (.c EX (.c EW (.c EU (.c ET (.c ES (.c Di (.c Dh (.c ER (.c EQ (.c A7 (.c k9 (.c k8 (.c k7 (.c k6 (.c k5 (.c k4 (.c k3 (.c apD (.c apC (.c apB .nil))))))))))))))))))))))))))))))))))
theorem XL:CO 32 [.int .i64 1] (.ret (.bool false)):=cK (.nil)
theorem J9:CO 94 [.int .i64 1] (.ret (.bool true)):=cK (.nil)
theorem aqp:CO 105 [.agg [.bool false,.str [5],.str [1]]] (.ret (.bool true)):=bT (iT false [5] [1] (by decide) (by decide)) (by kernel_rfl)
theorem aqr:CO 74 [.agg lW] (.ret (.bool true)):=cK (.c aqp (.c J9 .nil))
theorem J_:CO 30 [.int .i64 1] (.ret (.int .i64 0)):=cK (.nil)
theorem ajQ:CO 32 [.int .i64 3] (.ret (.bool false)):=cK (.nil)
theorem XM:CO 94 [.int .i64 3] (.ret (.bool true)):=cK (.nil)
theorem aqs:CO 105 [.agg [.bool true,.str [1],.str [2]]] (.ret (.bool true)):=bT (iT true [1] [2] (by decide) (by decide)) (by kernel_rfl)
theorem aqt:CO 74 [.agg [.int .i64 3,.bool true,.str [1],.str [2],.str []]] (.ret (.bool true)):=cK (.c aqs (.c XM .nil))
theorem XN:CO 30 [.int .i64 3] (.ret (.int .i64 0)):=cK (.nil)
theorem abv:CO 94 [.int .i64 11] (.ret (.bool false)):=cK (.nil)
theorem ajR:CO 74 [.agg [.int .i64 11,.bool false,.str [],.str [],.str []]] (.ret (.bool true)):=cK (.c Uo (.c abv .nil))
theorem aqu:CO 48 [.sl (aI Eo) 5 true] (.ret (.int .i64 0)):=cK (.c SA (.c Nw (.c ajE (.c k92 (.c Ap (.c Nw (.c ajR (.c XJ (.c qM (.c Wq (.c XQ (.c Gp (.c XN (.c Nw (.c aqt (.c ajQ (.c J_ (.c Nw (.c aqr (.c XL .nil))))))))))))))))))))
theorem XO:CO 93 [.int .i64 1] (.ret (.str [36])):=cK (.nil)
theorem ajS:CO 93 [.int .i64 3] (.ret (.str [])):=cK (.nil)
theorem aqv:CO 57 [.sl (aI Eo) 5 true] (.ret (.tup [.str zs5,.int .i64 0])):=cK (.c k93 (.c abu (.c k8 (.c SA (.c Uo (.c abv (.c k9 (.c Ap (.c E5 (.c Sz (.c k4 (.c qM (.c ajP (.c XM (.c ajS (.c XN (.c ajH (.c J9 (.c XO (.c J_ (.c aqu .nil)))))))))))))))))))))
theorem aqw:CO 27 [.str zs5] (.ret (.tup [.sl (aI Eo) 5 true,.int .i64 0])):=cK (.c aqv (.c aqo .nil))
theorem aqx:CO 14 [.sl (aI Eo) 5 true,.sl [.str [120],.int .i64 0,.int .i64 0,.sl zcc4_2 2 true] 1 true,.int .i64 6,.str [97]] (.ret (.int .i64 1)):=au.args (args:= [.sl (aI Eo) 5 true,.sl [.str [120],.int .i64 0,.int .i64 0,.sl zcc4_2 2 false] 1 true,.int .i64 6,.str [97]]) (.cons (aZ.refl _) (.cons (aZ.slP (.same (.same (.same (.sl .nil))))) (.cons (aZ.refl _) (.cons (aZ.refl _) .nil)))) (bT (bZ Eo true sH true kW 6 [97] (jE (by kernel_rfl)) (by decide) (by decide) (gK)) (by kernel_rfl))
theorem aqy:CO 26 [.str zs5,.str [97],.int .i64 1] (.ret (.bool true)):=cK (.c aqx (.c Uu (.c aqw .nil)))
theorem aqz:au prog ap 90 [.ptr 0 0 0,.str [36]] (rA LU 1) (.ret (.bool false)) (rA LU 1):=cK (.nil)
theorem aqA:au prog ap 92 [.ptr 0 0 0,.str oW] (rA LU 1) (.ret (.str [109,117,108])) (rA Zv 1):=bT (gq LU oW (1) false (by decide) (by decide)) (by kernel_rfl)
theorem aqB:au prog ap 90 [.ptr 0 0 0,.str [46]] (rA Zv 1) (.ret (.bool false)) (rA Zv 1):=cK (.nil)
theorem aqC:au prog ap 90 [.ptr 0 0 0,.str [40]] (rA Zv 1) (.ret (.bool true)) (rA RY 1):=cK (.nil)
theorem aqD:au prog ap 90 [.ptr 0 0 0,.str [36]] (rA RY 2) (.ret (.bool false)) (rA RY 2):=cK (.nil)
theorem aqE:au prog ap 92 [.ptr 0 0 0,.str oW] (rA RY 2) (.ret (.str [111,119,110])) (rA am8 2):=bT (gq RY oW (2) false (by decide) (by decide)) (by kernel_rfl)
theorem aqF:au prog ap 90 [.ptr 0 0 0,.str [46]] (rA am8 2) (.ret (.bool true)) (rA adu 2):=cK (.nil)
theorem aqG:au prog ap 92 [.ptr 0 0 0,.str BB] (rA adu 2) (.ret (.str [97])) (rA adx 2):=bT (gq adu BB (2) false (by decide) (by decide)) (by kernel_rfl)
theorem aqH:au prog ap 56 [.ptr 0 0 0] (rA RY 1) (.ret (.tup [])) (rB adx 1 2 dQ):=cK (.c qM (.c qM (.c E5 (.c aqG (.c Gp (.c Dj (.c EZ (.c EY (.c EX (.c EW (.c EU (.c ET (.c ES (.c Di (.c Dh (.c ER (.c EQ (.c A7 (.c k9 (.c k8 (.c k7 (.c k6 (.c k5 (.c k4 (.c k3 (.c aqF (.c aqE (.c aqD .nil))))))))))))))))))))))))))))
theorem aqI:au prog ap 90 [.ptr 0 0 0,.str [44,32]] (rB adx 1 2 dQ) (.ret (.bool true)) (rB Su 1 2 dQ):=cK (.nil)
theorem aqJ:au prog ap 90 [.ptr 0 0 0,.str [36]] (rB Su 1 3 dQ) (.ret (.bool false)) (rB Su 1 3 dQ):=cK (.nil)
theorem aqK:au prog ap 92 [.ptr 0 0 0,.str oW] (rB Su 1 3 dQ) (.ret (.str anf)) (rB [46,98,41] 1 3 dQ):=bT (jM Su oW (3) false 1 dQ (by decide) (by decide)) (by kernel_rfl)
theorem aqL:au prog ap 90 [.ptr 0 0 0,.str [46]] (rB [46,98,41] 1 3 dQ) (.ret (.bool true)) (rB [98,41] 1 3 dQ):=cK (.nil)
theorem aqM:au prog ap 92 [.ptr 0 0 0,.str BB] (rB [98,41] 1 3 dQ) (.ret (.str [98])) (rB [41] 1 3 dQ):=bT (jM [98,41] BB (3) false 1 dQ (by decide) (by decide)) (by kernel_rfl)
theorem aqN:au prog ap 56 [.ptr 0 0 0] (rB Su 1 2 dQ) (.ret (.tup [])) [⟨[.str [41],.ref 1 1 0 2,.int .i64 3,.bool false],0,false,0,0,false⟩,⟨zo7,1,false,0,5,true⟩]:=cK (.c Z8 (.c Z8 (.c k41 (.c aqM (.c k39 (.c Dj (.c EZ (.c EY (.c EX (.c EW (.c EU (.c ET (.c ES (.c Di (.c Dh (.c ER (.c EQ (.c A7 (.c k9 (.c k8 (.c k7 (.c k6 (.c k5 (.c k4 (.c k3 (.c aqL (.c aqK (.c aqJ .nil))))))))))))))))))))))))))))
theorem aqO:au prog ap 90 [.ptr 0 0 0,.str [41]] (rB [41] 2 3 zo7) (.ret (.bool true)) (rB [] 2 3 zo7):=cK (.nil)
theorem aqP:au prog ap 56 [.ptr 0 0 0] (rA LU 0) (.ret (.tup [])) [⟨[.str [],.ref 1 0 0 3,.int .i64 3,.bool false],0,false,0,0,false⟩,⟨(aI lZ),0,false,0,5,true⟩]:=cK (.c aqO (.c Ap (.c Ap (.c aqN (.c aqI (.c Ap (.c aqH (.c aqC (.c Ap (.c Uo (.c XJ (.c Dj (.c EZ (.c EY (.c EX (.c EW (.c EU (.c ET (.c ES (.c Di (.c Dh (.c ER (.c EQ (.c A7 (.c k9 (.c k8 (.c k7 (.c k6 (.c k5 (.c k4 (.c k3 (.c aqB (.c aqA (.c aqz .nil))))))))))))))))))))))))))))))))))
theorem aqQ:CO 74 [.agg [.int .i64 5,.bool false,.str [],.str [],.str [98]]] (.ret (.bool true)):=cK (.c k41 (.c k49 .nil))
theorem ajT:CO 75 [.str [98]] (.ret (.bool true)):=cK (.nil)
theorem aqR:CO 48 [.sl (aI lZ) 3 true] (.ret (.int .i64 0)):=cK (.c Ap (.c Nw (.c ajR (.c XJ (.c Z8 (.c ajT (.c aqQ (.c k39 (.c qM (.c Wq (.c XQ (.c Gp .nil))))))))))))
theorem aqS:CO 57 [.sl (aI lZ) 3 true] (.ret (.tup [.str LU,.int .i64 0])):=cK (.c Uo (.c abv (.c k9 (.c Ap (.c k41 (.c k49 (.c k3 (.c Z8 (.c E5 (.c Sz (.c k4 (.c qM (.c aqR .nil)))))))))))))
theorem ajU:CO 27 [.str LU] (.ret (.tup [.sl (aI lZ) 3 true,.int .i64 0])):=cK (.c aqS (.c aqP .nil))
theorem aqT:CO 14 [.sl (aI lZ) 3 true,.sl [.str [120],.int .i64 0,.int .i64 0,.sl zcc4_2 2 true] 1 true,.int .i64 6,.str [97]] (.ret (.int .i64 3)):=au.args (args:= [.sl (aI lZ) 3 true,.sl [.str [120],.int .i64 0,.int .i64 0,.sl zcc4_2 2 false] 1 true,.int .i64 6,.str [97]]) (.cons (aZ.refl _) (.cons (aZ.slP (.same (.same (.same (.sl .nil))))) (.cons (aZ.refl _) (.cons (aZ.refl _) .nil)))) (bT (bZ lZ true sH true kW 6 [97] (jE (by kernel_rfl)) (by decide) (by decide) (gK)) (by kernel_rfl))
theorem aqU:CO 26 [.str LU,.str [97],.int .i64 3] (.ret (.bool true)):=cK (.c aqT (.c Uu (.c ajU .nil)))
theorem aqV:au prog ap 90 [.ptr 0 0 0,.str [36]] (rA LW 1) (.ret (.bool false)) (rA LW 1):=cK (.nil)
theorem aqW:au prog ap 92 [.ptr 0 0 0,.str oW] (rA LW 1) (.ret (.str [100,105,118])) (rA Zz 1):=bT (gq LW oW (1) false (by decide) (by decide)) (by kernel_rfl)
theorem aqX:au prog ap 90 [.ptr 0 0 0,.str [46]] (rA Zz 1) (.ret (.bool false)) (rA Zz 1):=cK (.nil)
theorem XP:CO 32 [.int .i64 12] (.ret (.bool false)):=cK (.nil)
theorem Ur:CO 34 [.int .i64 12] (.ret (.bool false)):=cK (.nil)
theorem Aq:CO 30 [.int .i64 12] (.ret (.int .i64 2)):=cK (.nil)
theorem aqY:au prog ap 90 [.ptr 0 0 0,.str [40]] (rA Zz 1) (.ret (.bool true)) (rA ZB 1):=cK (.nil)
theorem aqZ:au prog ap 90 [.ptr 0 0 0,.str [36]] (rA ZB 2) (.ret (.bool true)) (rA Wi 2):=cK (.nil)
theorem aq0:au prog ap 92 [.ptr 0 0 0,.str Aw] (rA Wi 2) (.ret (.str [49])) (rA Jh 2):=bT (gq Wi Aw (2) false (by decide) (by decide)) (by kernel_rfl)
theorem aq1:CO 51 [.bool false,.str [1],.str [1]] (.ret (.agg [.bool false,.str [1],.str [1]])):=bT (dO false 1 1 (aV (by decide)) (aV (by decide)) (by decide)) (by kernel_rfl)
theorem aq2:CO 96 [.bool false,.str [1],.str [1]] (.ret (.tup [.agg [.bool false,.str [1],.str [1]],.bool true])):=cK (.c aq1 (.c Nr (.c Nr .nil)))
theorem ajV:CO 95 [.agg [.bool false,.str [1],.str [1]]] (.ret (.str [49])):=cK (.c Un (.c Ut (.c ajN (.c k59 .nil))))
theorem aq3:CO 126 [.str [49]] (.ret (.tup [.agg [.bool false,.str [1],.str [1]],.bool true])):=cK (.c ajV (.c aq2 (.c Nq (.c Nq .nil))))
theorem aq4:au prog ap 91 [.ptr 0 0 0] (rA Wi 2) (.ret (.agg [.bool false,.str [1],.str [1]])) (rA Jh 2):=cK (.c aq3 (.c aq0 .nil))
theorem ajW:aH prog ap (rA ZB 1) 206 (uu 5 (af f56)) ⟨([(0,.ptr 0 0 0),(2,.bool true)]++dE [3,4,5,6,7,8,9,10,11,12,13,14,15]++ [(41,.bool false),(47,.bool true)]++dE [65,70,100,102,117,122,128,133,139,145,158,166,170,175,184,188,192]),[(0,⟨[.str Wi,.nilS,.int .i64 2,.bool false],0,false,0,0,true⟩)],.dead,[]⟩ (.normal) ⟨([(0,.ptr 0 0 0),(2,.bool true)]++dE [3,4,5,6,7,8,9,10,11,12,13,14,15]++ [(41,.bool false),(47,.bool true)]++dE [65,70,100,102,117,122,128,133,139,145,158,166,170,175,184,188,192]),[(0,⟨[.str Jh,.ref 1 0 0 1,.int .i64 2,.bool false],0,false,0,0,false⟩),(1,⟨vK,0,false,0,5,true⟩)],.dead,[]⟩:=fun nt a=>Bf Io (keep:=uf ap 56) (i:=4) (b:=0) (d:=52) (nt0:=206) (ans:= [(.ret (.agg [.bool false,.str [1],.str [1]]),(rA Jh 2))]) (.cons (rfl:(.nilS:AV)=(.nilS:AV)) (.cons (rfl:(.nilS:AV)=(.nilS:AV)) (.cons aq4 .nil))) a (by kernel_rfl)
theorem aq5:au prog ap 56 [.ptr 0 0 0] (rA ZB 1) (.ret (.tup [])) (rB Jh 1 2 vK):=pK [1005] 4 8 (.n 9 .nil) (.l ajW (.c aqZ .nil))
theorem aq6:au prog ap 90 [.ptr 0 0 0,.str [44,32]] (rB Jh 1 2 vK) (.ret (.bool true)) (rB sO 1 2 vK):=cK (.nil)
theorem aq7:au prog ap 90 [.ptr 0 0 0,.str [36]] (rB sO 1 3 vK) (.ret (.bool false)) (rB sO 1 3 vK):=cK (.nil)
theorem aq8:au prog ap 92 [.ptr 0 0 0,.str oW] (rB sO 1 3 vK) (.ret (.str [111,119,110])) (rB [46,97,41] 1 3 vK):=bT (jM sO oW (3) false 1 vK (by decide) (by decide)) (by kernel_rfl)
theorem aq9:au prog ap 90 [.ptr 0 0 0,.str [46]] (rB [46,97,41] 1 3 vK) (.ret (.bool true)) (rB [97,41] 1 3 vK):=cK (.nil)
theorem aq_:au prog ap 92 [.ptr 0 0 0,.str BB] (rB [97,41] 1 3 vK) (.ret (.str [97])) (rB [41] 1 3 vK):=bT (jM [97,41] BB (3) false 1 vK (by decide) (by decide)) (by kernel_rfl)
theorem ara:au prog ap 56 [.ptr 0 0 0] (rB sO 1 2 vK) (.ret (.tup [])) [⟨[.str [41],.ref 1 1 0 2,.int .i64 3,.bool false],0,false,0,0,false⟩,⟨zo8,1,false,0,5,true⟩]:=cK (.c qM (.c qM (.c E5 (.c aq_ (.c Gp (.c Dj (.c EZ (.c EY (.c EX (.c EW (.c EU (.c ET (.c ES (.c Di (.c Dh (.c ER (.c EQ (.c A7 (.c k9 (.c k8 (.c k7 (.c k6 (.c k5 (.c k4 (.c k3 (.c aq9 (.c aq8 (.c aq7 .nil))))))))))))))))))))))))))))
theorem arb:au prog ap 90 [.ptr 0 0 0,.str [41]] (rB [41] 2 3 zo8) (.ret (.bool true)) (rB [] 2 3 zo8):=cK (.nil)
theorem arc:au prog ap 56 [.ptr 0 0 0] (rA LW 0) (.ret (.tup [])) [⟨[.str [],.ref 1 0 0 3,.int .i64 3,.bool false],0,false,0,0,false⟩,⟨(aI Ep),0,false,0,5,true⟩]:=cK (.c arb (.c Aq (.c Aq (.c ara (.c aq6 (.c Aq (.c aq5 (.c aqY (.c Aq (.c Ur (.c XP (.c Dj (.c EZ (.c EY (.c EX (.c EW (.c EU (.c ET (.c ES (.c Di (.c Dh (.c ER (.c EQ (.c A7 (.c k9 (.c k8 (.c k7 (.c k6 (.c k5 (.c k4 (.c k3 (.c aqX (.c aqW (.c aqV .nil))))))))))))))))))))))))))))))))))
theorem ard:CO 105 [.agg [.bool false,.str [1],.str [1]]] (.ret (.bool true)):=bT (iT false [1] [1] (by decide) (by decide)) (by kernel_rfl)
theorem arf:CO 74 [.agg vK] (.ret (.bool true)):=cK (.c ard (.c J9 .nil))
theorem abw:CO 94 [.int .i64 12] (.ret (.bool false)):=cK (.nil)
theorem ajX:CO 74 [.agg [.int .i64 12,.bool false,.str [],.str [],.str []]] (.ret (.bool true)):=cK (.c Ur (.c abw .nil))
theorem arh:CO 48 [.sl (aI Ep) 3 true] (.ret (.int .i64 0)):=cK (.c Aq (.c Nw (.c ajX (.c XP (.c qM (.c Wq (.c XQ (.c Gp (.c J_ (.c Nw (.c arf (.c XL .nil))))))))))))
theorem ari:CO 57 [.sl (aI Ep) 3 true] (.ret (.tup [.str LW,.int .i64 0])):=cK (.c Ur (.c abw (.c A7 (.c Aq (.c E5 (.c Sz (.c k4 (.c qM (.c ajV (.c J9 (.c XO (.c J_ (.c arh .nil)))))))))))))
theorem arj:CO 27 [.str LW] (.ret (.tup [.sl (aI Ep) 3 true,.int .i64 0])):=cK (.c ari (.c arc .nil))
theorem ark:CO 14 [.sl (aI Ep) 3 true,.sl [.str [120],.int .i64 0,.int .i64 0,.sl zcc4_2 2 true] 1 true,.int .i64 6,.str [97]] (.ret (.int .i64 3)):=au.args (args:= [.sl (aI Ep) 3 true,.sl [.str [120],.int .i64 0,.int .i64 0,.sl zcc4_2 2 false] 1 true,.int .i64 6,.str [97]]) (.cons (aZ.refl _) (.cons (aZ.slP (.same (.same (.same (.sl .nil))))) (.cons (aZ.refl _) (.cons (aZ.refl _) .nil)))) (bT (bZ Ep true sH true kW 6 [97] (jE (by kernel_rfl)) (by decide) (by decide) (gK)) (by kernel_rfl))
theorem arl:CO 26 [.str LW,.str [97],.int .i64 3] (.ret (.bool true)):=cK (.c ark (.c Uu (.c arj .nil)))
theorem arn:au prog ap 90 [.ptr 0 0 0,.str [36]] (rA LX 1) (.ret (.bool false)) (rA LX 1):=cK (.nil)
theorem aro:au prog ap 92 [.ptr 0 0 0,.str oW] (rA LX 1) (.ret (.str [100,105,118])) (rA ZA 1):=bT (gq LX oW (1) false (by decide) (by decide)) (by kernel_rfl)
theorem arp:au prog ap 90 [.ptr 0 0 0,.str [46]] (rA ZA 1) (.ret (.bool false)) (rA ZA 1):=cK (.nil)
theorem arq:au prog ap 90 [.ptr 0 0 0,.str [40]] (rA ZA 1) (.ret (.bool true)) (rA Si 1):=cK (.nil)
theorem ars:au prog ap 90 [.ptr 0 0 0,.str [36]] (rA Si 2) (.ret (.bool false)) (rA Si 2):=cK (.nil)
theorem art:au prog ap 92 [.ptr 0 0 0,.str oW] (rA Si 2) (.ret (.str [111,119,110])) (rA anb 2):=bT (gq Si oW (2) false (by decide) (by decide)) (by kernel_rfl)
theorem aru:au prog ap 90 [.ptr 0 0 0,.str [46]] (rA anb 2) (.ret (.bool true)) (rA adz 2):=cK (.nil)
theorem arv:au prog ap 92 [.ptr 0 0 0,.str BB] (rA adz 2) (.ret (.str [97])) (rA adB 2):=bT (gq adz BB (2) false (by decide) (by decide)) (by kernel_rfl)
theorem arw:au prog ap 56 [.ptr 0 0 0] (rA Si 1) (.ret (.tup [])) (rB adB 1 2 dQ):=cK (.c qM (.c qM (.c E5 (.c arv (.c Gp (.c Dj (.c EZ (.c EY (.c EX (.c EW (.c EU (.c ET (.c ES (.c Di (.c Dh (.c ER (.c EQ (.c A7 (.c k9 (.c k8 (.c k7 (.c k6 (.c k5 (.c k4 (.c k3 (.c aru (.c art (.c ars .nil))))))))))))))))))))))))))))
theorem arx:au prog ap 90 [.ptr 0 0 0,.str [44,32]] (rB adB 1 2 dQ) (.ret (.bool true)) (rB [45,50,41] 1 2 dQ):=cK (.nil)
theorem ary:au prog ap 90 [.ptr 0 0 0,.str [36]] (rB [45,50,41] 1 3 dQ) (.ret (.bool false)) (rB [45,50,41] 1 3 dQ):=cK (.nil)
theorem arz:au prog ap 92 [.ptr 0 0 0,.str Aw] (rB [45,50,41] 1 3 dQ) (.ret (.str [45,50])) (rB [41] 1 3 dQ):=bT (jM [45,50,41] Aw (3) false 1 dQ (by decide) (by decide)) (by kernel_rfl)
theorem arA:CO 51 [.bool true,.str [2],.str [1]] (.ret (.agg [.bool true,.str [2],.str [1]])):=bT (dO true 2 1 (aV (by decide)) (aV (by decide)) (by decide)) (by kernel_rfl)
theorem arB:CO 96 [.bool true,.str [2],.str [1]] (.ret (.tup [.agg [.bool true,.str [2],.str [1]],.bool true])):=cK (.c arA (.c Nr (.c ajM .nil)))
theorem arC:CO 70 [.agg [.bool true,.str [2],.str [1]]] (.ret (.agg [.bool true,.str [2],.str [1]])):=bT (bU true [2] [1] (by decide) (by decide)) (by kernel_rfl)
theorem ajY:CO 95 [.agg [.bool true,.str [2],.str [1]]] (.ret (.str [45,50])):=cK (.c Un (.c Ut (.c ajO (.c arC .nil))))
theorem arD:CO 126 [.str [45,50]] (.ret (.tup [.agg [.bool true,.str [2],.str [1]],.bool true])):=cK (.c ajY (.c arB (.c Nq (.c ajL .nil))))
theorem arE:au prog ap 91 [.ptr 0 0 0] (rB [45,50,41] 1 3 dQ) (.ret (.agg [.bool true,.str [2],.str [1]])) (rB [41] 1 3 dQ):=cK (.c arD (.c arz .nil))
theorem arF:au prog ap 90 [.ptr 0 0 0,.str [100]] (rB [41] 1 3 dQ) (.ret (.bool false)) (rB [41] 1 3 dQ):=cK (.nil)
theorem arG:au prog ap 56 [.ptr 0 0 0] (rB [45,50,41] 1 2 dQ) (.ret (.tup [])) [⟨[.str [41],.ref 1 1 0 2,.int .i64 3,.bool false],0,false,0,0,false⟩,⟨adp,1,false,0,5,true⟩]:=cK (.c arF (.c arE (.c ary .nil)))
theorem arH:au prog ap 90 [.ptr 0 0 0,.str [41]] (rB [41] 2 3 adp) (.ret (.bool true)) (rB [] 2 3 adp):=cK (.nil)
theorem arJ:au prog ap 56 [.ptr 0 0 0] (rA LX 0) (.ret (.tup [])) [⟨[.str [],.ref 1 0 0 3,.int .i64 3,.bool false],0,false,0,0,false⟩,⟨(aI Es),0,false,0,5,true⟩]:=cK (.c arH (.c Aq (.c Aq (.c arG (.c arx (.c Aq (.c arw (.c arq (.c Aq (.c Ur (.c XP (.c Dj (.c EZ (.c EY (.c EX (.c EW (.c EU (.c ET (.c ES (.c Di (.c Dh (.c ER (.c EQ (.c A7 (.c k9 (.c k8 (.c k7 (.c k6 (.c k5 (.c k4 (.c k3 (.c arp (.c aro (.c arn .nil))))))))))))))))))))))))))))))))))
theorem arK:CO 105 [.agg [.bool true,.str [2],.str [1]]] (.ret (.bool true)):=bT (iT true [2] [1] (by decide) (by decide)) (by kernel_rfl)
theorem arL:CO 74 [.agg [.int .i64 3,.bool true,.str [2],.str [1],.str []]] (.ret (.bool true)):=cK (.c arK (.c XM .nil))
theorem arM:CO 48 [.sl (aI Es) 3 true] (.ret (.int .i64 0)):=cK (.c Aq (.c Nw (.c ajX (.c XP (.c XN (.c Nw (.c arL (.c ajQ (.c qM (.c Wq (.c XQ (.c Gp .nil))))))))))))
theorem arN:CO 57 [.sl (aI Es) 3 true] (.ret (.tup [.str LX,.int .i64 0])):=cK (.c Ur (.c abw (.c A7 (.c Aq (.c ajY (.c XM (.c ajS (.c XN (.c E5 (.c Sz (.c k4 (.c qM (.c arM .nil)))))))))))))
theorem arO:CO 27 [.str LX] (.ret (.tup [.sl (aI Es) 3 true,.int .i64 0])):=cK (.c arN (.c arJ .nil))
theorem arP:CO 14 [.sl (aI Es) 3 true,.sl [.str [120],.int .i64 0,.int .i64 0,.sl zcc4_2 2 true] 1 true,.int .i64 6,.str [97]] (.ret (.int .i64 2)):=au.args (args:= [.sl (aI Es) 3 true,.sl [.str [120],.int .i64 0,.int .i64 0,.sl zcc4_2 2 false] 1 true,.int .i64 6,.str [97]]) (.cons (aZ.refl _) (.cons (aZ.slP (.same (.same (.same (.sl .nil))))) (.cons (aZ.refl _) (.cons (aZ.refl _) .nil)))) (bT (bZ Es true sH true kW 6 [97] (jE (by kernel_rfl)) (by decide) (by decide) (gK)) (by kernel_rfl))
theorem arQ:CO 26 [.str LX,.str [97],.int .i64 2] (.ret (.bool true)):=cK (.c arP (.c Uu (.c arO .nil)))
theorem arR:au prog ap 90 [.ptr 0 0 0,.str [36]] (rA Zt 1) (.ret (.bool false)) (rA Zt 1):=cK (.nil)
theorem arS:au prog ap 92 [.ptr 0 0 0,.str oW] (rA Zt 1) (.ret (.str [105,102])) (rA zs3 1):=bT (gq Zt oW (1) false (by decide) (by decide)) (by kernel_rfl)
theorem arT:au prog ap 90 [.ptr 0 0 0,.str [46]] (rA zs3 1) (.ret (.bool false)) (rA zs3 1):=cK (.nil)
theorem ajZ:CO 32 [.int .i64 15] (.ret (.bool false)):=cK (.nil)
theorem abx:CO 34 [.int .i64 15] (.ret (.bool false)):=cK (.nil)
theorem Nu:CO 30 [.int .i64 15] (.ret (.int .i64 3)):=cK (.nil)
theorem arU:au prog ap 90 [.ptr 0 0 0,.str [40]] (rA zs3 1) (.ret (.bool true)) (rA zs4 1):=cK (.nil)
theorem arV:au prog ap 90 [.ptr 0 0 0,.str [36]] (rA zs4 2) (.ret (.bool false)) (rA zs4 2):=cK (.nil)
theorem arW:au prog ap 92 [.ptr 0 0 0,.str oW] (rA zs4 2) (.ret (.str ane)) (rA zs6 2):=bT (gq zs4 oW (2) false (by decide) (by decide)) (by kernel_rfl)
theorem arX:au prog ap 90 [.ptr 0 0 0,.str [46]] (rA zs6 2) (.ret (.bool false)) (rA zs6 2):=cK (.nil)
theorem aj0:CO 32 [.int .i64 16] (.ret (.bool false)):=cK (.nil)
theorem aby:CO 34 [.int .i64 16] (.ret (.bool false)):=cK (.nil)
theorem QA:CO 30 [.int .i64 16] (.ret (.int .i64 2)):=cK (.nil)
theorem arY:au prog ap 90 [.ptr 0 0 0,.str [40]] (rA zs6 2) (.ret (.bool true)) (rA zs8 2):=cK (.nil)
theorem arZ:au prog ap 90 [.ptr 0 0 0,.str [36]] (rA zs8 3) (.ret (.bool false)) (rA zs8 3):=cK (.nil)
theorem ar0:au prog ap 92 [.ptr 0 0 0,.str oW] (rA zs8 3) (.ret (.str [111,119,110])) (rA am6 3):=bT (gq zs8 oW (3) false (by decide) (by decide)) (by kernel_rfl)
theorem ar4:au prog ap 90 [.ptr 0 0 0,.str [46]] (rA am6 3) (.ret (.bool true)) (rA adq 3):=cK (.nil)
theorem ar5:au prog ap 92 [.ptr 0 0 0,.str BB] (rA adq 3) (.ret (.str [97])) (rA adr 3):=bT (gq adq BB (3) false (by decide) (by decide)) (by kernel_rfl)
theorem ar6:au prog ap 56 [.ptr 0 0 0] (rA zs8 2) (.ret (.tup [])) (rB adr 1 3 dQ):=cK (.c qM (.c qM (.c E5 (.c ar5 (.c Gp (.c Dj (.c EZ (.c EY (.c EX (.c EW (.c EU (.c ET (.c ES (.c Di (.c Dh (.c ER (.c EQ (.c A7 (.c k9 (.c k8 (.c k7 (.c k6 (.c k5 (.c k4 (.c k3 (.c ar4 (.c ar0 (.c arZ .nil))))))))))))))))))))))))))))
theorem ar7:au prog ap 90 [.ptr 0 0 0,.str [44,32]] (rB adr 1 3 dQ) (.ret (.bool true)) (rB Zw 1 3 dQ):=cK (.nil)
theorem ar8:au prog ap 90 [.ptr 0 0 0,.str [36]] (rB Zw 1 4 dQ) (.ret (.bool true)) (rB Wh 1 4 dQ):=cK (.nil)
theorem ar9:au prog ap 92 [.ptr 0 0 0,.str Aw] (rB Wh 1 4 dQ) (.ret (.str [51])) (rB R_ 1 4 dQ):=bT (jM Wh Aw (4) false 1 dQ (by decide) (by decide)) (by kernel_rfl)
theorem aj1:CO 49 [.int .i64 3] (.ret (.str [3])):=bT (dm 3 (by decide)) (by kernel_rfl)
theorem abz:CO 76 [.str [3]] (.ret (.str [3])):=cK (.nil)
theorem aj2:CO 107 [.str [3]] (.ret (.tup [.int .i64 3,.bool true])):=cK (.c abz .nil)
theorem ar_:CO 77 [.str [3],.int .i64 7] (.ret (.tup [.int .i64 3,.bool true])):=cK (.c aj2 (.c abz .nil))
theorem asa:CO 61 [.str [],.str [3]] (.ret (.str [3])):=cK (.c aj1 (.c ar_ (.c Qz .nil)))
theorem asb:CO 157 [.str [51]] (.ret (.tup [.str [3],.bool true])):=cK (.c asa (.c aj1 (.c Um (.c Ws .nil))))
theorem ase:CO 128 [.str [3]] (.ret (.bool true)):=bT (wY [3]) (by kernel_rfl)
theorem asf:CO 51 [.bool false,.str [3],.str [1]] (.ret (.agg [.bool false,.str [3],.str [1]])):=bT (dO false 3 1 (aV (by decide)) (aV (by decide)) (by decide)) (by kernel_rfl)
theorem asg:CO 96 [.bool false,.str [3],.str [1]] (.ret (.tup [.agg [.bool false,.str [3],.str [1]],.bool true])):=cK (.c asf (.c Nr (.c ase .nil)))
theorem ash:CO 70 [.agg [.bool false,.str [3],.str [1]]] (.ret (.agg [.bool false,.str [3],.str [1]])):=bT (bU false [3] [1] (by decide) (by decide)) (by kernel_rfl)
theorem asi:CO 81 [.str [3],.str [10]] (.ret (.tup [.str [],.str [3],.bool true])):=bT (rJ [3] [10] (by decide) (by decide) (by decide)) (by kernel_rfl)
theorem asj:CO 127 [.str [3]] (.ret (.str [51])):=cK (.c aj2 (.c asi (.c Ws (.c abz .nil))))
theorem aj3:CO 95 [.agg [.bool false,.str [3],.str [1]]] (.ret (.str [51])):=cK (.c Un (.c Ut (.c asj (.c ash .nil))))
theorem asl:CO 126 [.str [51]] (.ret (.tup [.agg [.bool false,.str [3],.str [1]],.bool true])):=cK (.c aj3 (.c asg (.c Nq (.c asb .nil))))
theorem asn:au prog ap 91 [.ptr 0 0 0] (rB Wh 1 4 dQ) (.ret (.agg [.bool false,.str [3],.str [1]])) (rB R_ 1 4 dQ):=cK (.c asl (.c ar9 .nil))
theorem aj6:aH prog ap (rB Zw 1 3 dQ) 206 (uu 5 (af f56)) ⟨([(0,.ptr 0 0 0),(2,.bool true)]++dE [3,4,5,6,7,8,9,10,11,12,13,14,15]++ [(41,.bool false),(47,.bool true)]++dE [65,70,100,102,117,122,128,133,139,145,158,166,170,175,184,188,192]),[(0,⟨[.str Wh,.ref 1 0 0 1,.int .i64 4,.bool false],0,false,0,0,false⟩),(1,⟨dQ,0,false,0,5,true⟩)],.dead,[]⟩ (.normal) ⟨([(0,.ptr 0 0 0),(2,.bool true)]++dE [3,4,5,6,7,8,9,10,11,12,13,14,15]++ [(41,.bool false),(47,.bool true)]++dE [65,70,100,102,117,122,128,133,139,145,158,166,170,175,184,188,192]),[(0,⟨[.str R_,.ref 1 1 0 2,.int .i64 4,.bool false],0,false,0,0,false⟩),(1,⟨zo9,1,false,0,5,true⟩)],.dead,[]⟩:=fun nt a=>Bf Io (keep:=uf ap 56) (i:=4) (b:=0) (d:=52) (nt0:=206) (ans:= [(.ret (.agg [.bool false,.str [3],.str [1]]),(rB R_ 1 4 dQ))]) (.cons (rfl:(.ref 1 0 0 1:AV)=(.ref 1 0 0 1:AV)) (.cons (rfl:(.ref 1 0 0 1:AV)=(.ref 1 0 0 1:AV)) (.cons asn .nil))) a (by kernel_rfl)
theorem aso:au prog ap 56 [.ptr 0 0 0] (rB Zw 1 3 dQ) (.ret (.tup [])) [⟨[.str R_,.ref 1 1 0 2,.int .i64 4,.bool false],0,false,0,0,false⟩,⟨zo9,1,false,0,5,true⟩]:=pK [1005] 4 8 (.n 9 .nil) (.l aj6 (.c ar8 .nil))
theorem asq:au prog ap 90 [.ptr 0 0 0,.str [41]] (rB R_ 2 4 zo9) (.ret (.bool true)) (rB ads 2 4 zo9):=cK (.nil)
theorem asr:au prog ap 56 [.ptr 0 0 0] (rA zs4 1) (.ret (.tup [])) (rB ads 3 4 PW):=cK (.c asq (.c QA (.c QA (.c aso (.c ar7 (.c QA (.c ar6 (.c arY (.c QA (.c aby (.c aj0 (.c Dj (.c EZ (.c EY (.c EX (.c EW (.c EU (.c ET (.c ES (.c Di (.c Dh (.c ER (.c EQ (.c A7 (.c k9 (.c k8 (.c k7 (.c k6 (.c k5 (.c k4 (.c k3 (.c arX (.c arW (.c arV .nil))))))))))))))))))))))))))))))))))
theorem ass:au prog ap 90 [.ptr 0 0 0,.str [44,32]] (rB ads 3 4 PW) (.ret (.bool true)) (rB Sj 3 4 PW):=cK (.nil)
theorem ast:au prog ap 90 [.ptr 0 0 0,.str [36]] (rB Sj 3 5 PW) (.ret (.bool false)) (rB Sj 3 5 PW):=cK (.nil)
theorem asu:au prog ap 92 [.ptr 0 0 0,.str oW] (rB Sj 3 5 PW) (.ret (.str [111,119,110])) (rB anc 3 5 PW):=bT (jM Sj oW (5) false 3 PW (by decide) (by decide)) (by kernel_rfl)
theorem asv:au prog ap 90 [.ptr 0 0 0,.str [46]] (rB anc 3 5 PW) (.ret (.bool true)) (rB adA 3 5 PW):=cK (.nil)
theorem asw:au prog ap 92 [.ptr 0 0 0,.str BB] (rB adA 3 5 PW) (.ret (.str [98])) (rB adC 3 5 PW):=bT (jM adA BB (5) false 3 PW (by decide) (by decide)) (by kernel_rfl)
theorem asx:au prog ap 56 [.ptr 0 0 0] (rB Sj 3 4 PW) (.ret (.tup [])) [⟨[.str adC,.ref 1 1 0 4,.int .i64 5,.bool false],0,false,0,0,false⟩,⟨PV,1,false,0,5,true⟩]:=cK (.c qM (.c qM (.c E5 (.c asw (.c Gp (.c Dj (.c EZ (.c EY (.c EX (.c EW (.c EU (.c ET (.c ES (.c Di (.c Dh (.c ER (.c EQ (.c A7 (.c k9 (.c k8 (.c k7 (.c k6 (.c k5 (.c k4 (.c k3 (.c asv (.c asu (.c ast .nil))))))))))))))))))))))))))))
theorem asy:au prog ap 90 [.ptr 0 0 0,.str [44,32]] (rB adC 4 5 PV) (.ret (.bool true)) (rB [36,48,41] 4 5 PV):=cK (.nil)
theorem asz:au prog ap 90 [.ptr 0 0 0,.str [36]] (rB [36,48,41] 4 6 PV) (.ret (.bool true)) (rB [48,41] 4 6 PV):=cK (.nil)
theorem asA:au prog ap 92 [.ptr 0 0 0,.str Aw] (rB [48,41] 4 6 PV) (.ret (.str [48])) (rB [41] 4 6 PV):=bT (jM [48,41] Aw (6) false 4 PV (by decide) (by decide)) (by kernel_rfl)
theorem asB:CO 61 [.str [],.str []] (.ret (.str [])):=cK (.c XI (.c Qz (.c Qz .nil)))
theorem asC:CO 157 [.str [48]] (.ret (.tup [.str [],.bool true])):=cK (.c asB (.c XI (.c Um (.c Ws .nil))))
theorem asD:CO 128 [.str []] (.ret (.bool true)):=bT (wY []) (by kernel_rfl)
theorem asE:CO 51 [.bool false,.str [],.str [1]] (.ret (.agg [.bool false,.str [],.str [1]])):=bT (dO false 0 1 (aV (by decide)) (aV (by decide)) (by decide)) (by kernel_rfl)
theorem asF:CO 96 [.bool false,.str [],.str [1]] (.ret (.tup [.agg [.bool false,.str [],.str [1]],.bool true])):=cK (.c asE (.c Nr (.c asD .nil)))
theorem asG:CO 70 [.agg [.bool false,.str [],.str [1]]] (.ret (.agg [.bool false,.str [],.str [1]])):=bT (bU false [] [1] (by decide) (by decide)) (by kernel_rfl)
theorem asH:CO 127 [.str []] (.ret (.str [48])):=cK (.c XH .nil)
theorem aj7:CO 95 [.agg [.bool false,.str [],.str [1]]] (.ret (.str [48])):=cK (.c Un (.c Ut (.c asH (.c asG .nil))))
theorem asI:CO 126 [.str [48]] (.ret (.tup [.agg [.bool false,.str [],.str [1]],.bool true])):=cK (.c aj7 (.c asF (.c Nq (.c asC .nil))))
theorem asJ:au prog ap 91 [.ptr 0 0 0] (rB [48,41] 4 6 PV) (.ret (.agg [.bool false,.str [],.str [1]])) (rB [41] 4 6 PV):=cK (.c asI (.c asA .nil))
theorem aj8:aH prog ap (rB [36,48,41] 4 5 PV) 206 (uu 5 (af f56)) ⟨([(0,.ptr 0 0 0),(2,.bool true)]++dE [3,4,5,6,7,8,9,10,11,12,13,14,15]++ [(41,.bool false),(47,.bool true)]++dE [65,70,100,102,117,122,128,133,139,145,158,166,170,175,184,188,192]),[(0,⟨[.str [48,41],.ref 1 0 0 4,.int .i64 6,.bool false],0,false,0,0,false⟩),(1,⟨PV,0,false,0,5,true⟩)],.dead,[]⟩ (.normal) ⟨([(0,.ptr 0 0 0),(2,.bool true)]++dE [3,4,5,6,7,8,9,10,11,12,13,14,15]++ [(41,.bool false),(47,.bool true)]++dE [65,70,100,102,117,122,128,133,139,145,158,166,170,175,184,188,192]),[(0,⟨[.str [41],.ref 1 1 0 5,.int .i64 6,.bool false],0,false,0,0,false⟩),(1,⟨zo0,1,false,0,5,true⟩)],.dead,[]⟩:=fun nt a=>Bf Io (keep:=uf ap 56) (i:=4) (b:=0) (d:=52) (nt0:=206) (ans:= [(.ret (.agg [.bool false,.str [],.str [1]]),(rB [41] 4 6 PV))]) (.cons (rfl:(.ref 1 0 0 4:AV)=(.ref 1 0 0 4:AV)) (.cons (rfl:(.ref 1 0 0 4:AV)=(.ref 1 0 0 4:AV)) (.cons asJ .nil))) a (by kernel_rfl)
theorem asK:au prog ap 56 [.ptr 0 0 0] (rB [36,48,41] 4 5 PV) (.ret (.tup [])) [⟨[.str [41],.ref 1 1 0 5,.int .i64 6,.bool false],0,false,0,0,false⟩,⟨zo0,1,false,0,5,true⟩]:=pK [1005] 4 8 (.n 9 .nil) (.l aj8 (.c asz .nil))
theorem asL:au prog ap 90 [.ptr 0 0 0,.str [41]] (rB [41] 5 6 zo0) (.ret (.bool true)) (rB [] 5 6 zo0):=cK (.nil)
theorem asM:au prog ap 56 [.ptr 0 0 0] (rA Zt 0) (.ret (.tup [])) [⟨[.str [],.ref 1 0 0 6,.int .i64 6,.bool false],0,false,0,0,false⟩,⟨(aI wo),0,false,0,5,true⟩]:=cK (.c asL (.c Nu (.c Nu (.c asK (.c asy (.c Nu (.c asx (.c ass (.c Nu (.c asr (.c arU (.c Nu (.c abx (.c ajZ (.c Dj (.c EZ (.c EY (.c EX (.c EW (.c EU (.c ET (.c ES (.c Di (.c Dh (.c ER (.c EQ (.c A7 (.c k9 (.c k8 (.c k7 (.c k6 (.c k5 (.c k4 (.c k3 (.c arT (.c arS (.c arR .nil)))))))))))))))))))))))))))))))))))))
theorem asN:CO 105 [.agg [.bool false,.str [3],.str [1]]] (.ret (.bool true)):=bT (iT false [3] [1] (by decide) (by decide)) (by kernel_rfl)
theorem asO:CO 74 [.agg [.int .i64 1,.bool false,.str [3],.str [1],.str []]] (.ret (.bool true)):=cK (.c asN (.c J9 .nil))
theorem aj9:CO 94 [.int .i64 16] (.ret (.bool false)):=cK (.nil)
theorem asP:CO 74 [.agg [.int .i64 16,.bool false,.str [],.str [],.str []]] (.ret (.bool true)):=cK (.c aby (.c aj9 .nil))
theorem asQ:CO 74 [.agg [.int .i64 6,.bool false,.str [],.str [],.str [98]]] (.ret (.bool true)):=cK (.c E5 (.c Sz .nil))
theorem asR:CO 105 [.agg [.bool false,.str [],.str [1]]] (.ret (.bool true)):=bT (iT false [] [1] (by decide) (by decide)) (by kernel_rfl)
theorem asT:CO 74 [.agg [.int .i64 1,.bool false,.str [],.str [1],.str []]] (.ret (.bool true)):=cK (.c asR (.c J9 .nil))
theorem aj_:CO 94 [.int .i64 15] (.ret (.bool false)):=cK (.nil)
theorem asU:CO 74 [.agg [.int .i64 15,.bool false,.str [],.str [],.str []]] (.ret (.bool true)):=cK (.c abx (.c aj_ .nil))
theorem asV:CO 48 [.sl (aI wo) 6 true] (.ret (.int .i64 0)):=cK (.c Nu (.c Nw (.c asU (.c ajZ (.c J_ (.c Nw (.c asT (.c XL (.c qM (.c ajT (.c asQ (.c Gp (.c QA (.c Nw (.c asP (.c aj0 (.c J_ (.c Nw (.c asO (.c XL (.c qM (.c Wq (.c XQ (.c Gp .nil))))))))))))))))))))))))
theorem asW:CO 57 [.sl (aI wo) 6 true] (.ret (.tup [.str Zt,.int .i64 0])):=cK (.c abx (.c aj_ (.c Dh (.c Nu (.c aj7 (.c J9 (.c XO (.c J_ (.c E5 (.c Sz (.c k4 (.c qM (.c aby (.c aj9 (.c Di (.c QA (.c aj3 (.c J9 (.c XO (.c J_ (.c E5 (.c Sz (.c k4 (.c qM (.c asV .nil)))))))))))))))))))))))))
theorem aka:CO 27 [.str Zt] (.ret (.tup [.sl (aI wo) 6 true,.int .i64 0])):=cK (.c asW (.c asM .nil))
theorem asX:CO 14 [.sl (aI wo) 6 true,.sl [.str [120],.int .i64 0,.int .i64 0,.sl zcc4_2 2 true] 1 true,.int .i64 6,.str [97]] (.ret (.int .i64 3)):=au.args (args:= [.sl (aI wo) 6 true,.sl [.str [120],.int .i64 0,.int .i64 0,.sl zcc4_2 2 false] 1 true,.int .i64 6,.str [97]]) (.cons (aZ.refl _) (.cons (aZ.slP (.same (.same (.same (.sl .nil))))) (.cons (aZ.refl _) (.cons (aZ.refl _) .nil)))) (bT (bZ wo true sH true kW 6 [97] (jE (by kernel_rfl)) (by decide) (by decide) (gK)) (by kernel_rfl))
theorem asY:CO 26 [.str Zt,.str [97],.int .i64 3] (.ret (.bool true)):=cK (.c asX (.c Uu (.c aka .nil)))
theorem asZ:CO 14 [.sl (aI wo) 6 true,.sl [.str [120],.int .i64 0,.int .i64 0,.sl zcc4_2 2 true] 1 true,.int .i64 6,.str [98]] (.ret (.int .i64 1)):=au.args (args:= [.sl (aI wo) 6 true,.sl [.str [120],.int .i64 0,.int .i64 0,.sl zcc4_2 2 false] 1 true,.int .i64 6,.str [98]]) (.cons (aZ.refl _) (.cons (aZ.slP (.same (.same (.same (.sl .nil))))) (.cons (aZ.refl _) (.cons (aZ.refl _) .nil)))) (bT (bZ wo true sH true kW 6 [98] (jE (by kernel_rfl)) (by decide) (by decide) (gK)) (by kernel_rfl))
theorem as1:CO 26 [.str Zt,.str [98],.int .i64 1] (.ret (.bool true)):=cK (.c asZ (.c Uu (.c aka .nil)))
theorem as2:au prog ap 90 [.ptr 0 0 0,.str [36]] (rA LY 1) (.ret (.bool false)) (rA LY 1):=cK (.nil)
theorem as3:au prog ap 92 [.ptr 0 0 0,.str oW] (rA LY 1) (.ret (.str [114,97,116,101])) (rA am_ 1):=bT (gq LY oW (1) false (by decide) (by decide)) (by kernel_rfl)
theorem as4:au prog ap 90 [.ptr 0 0 0,.str [46]] (rA am_ 1) (.ret (.bool true)) (rA ady 1):=cK (.nil)
theorem akb:CO 32 [.int .i64 24] (.ret (.bool true)):=cK (.nil)
theorem as5:au prog ap 92 [.ptr 0 0 0,.str BB] (rA ady 1) (.ret (.str [120])) (rA ana 1):=bT (gq ady BB (1) false (by decide) (by decide)) (by kernel_rfl)
theorem abA:CO 34 [.int .i64 24] (.ret (.bool false)):=cK (.nil)
theorem Us:CO 30 [.int .i64 24] (.ret (.int .i64 1)):=cK (.nil)
theorem as6:au prog ap 90 [.ptr 0 0 0,.str [40]] (rA ana 1) (.ret (.bool true)) (rA sO 1):=cK (.nil)
theorem as7:au prog ap 90 [.ptr 0 0 0,.str [36]] (rA sO 2) (.ret (.bool false)) (rA sO 2):=cK (.nil)
theorem as8:au prog ap 92 [.ptr 0 0 0,.str oW] (rA sO 2) (.ret (.str [111,119,110])) (rA [46,97,41] 2):=bT (gq sO oW (2) false (by decide) (by decide)) (by kernel_rfl)
theorem as9:au prog ap 90 [.ptr 0 0 0,.str [46]] (rA [46,97,41] 2) (.ret (.bool true)) (rA [97,41] 2):=cK (.nil)
theorem ata:au prog ap 92 [.ptr 0 0 0,.str BB] (rA [97,41] 2) (.ret (.str [97])) (rA [41] 2):=bT (gq [97,41] BB (2) false (by decide) (by decide)) (by kernel_rfl)
theorem atb:au prog ap 56 [.ptr 0 0 0] (rA sO 1) (.ret (.tup [])) (rB [41] 1 2 dQ):=cK (.c qM (.c qM (.c E5 (.c ata (.c Gp (.c Dj (.c EZ (.c EY (.c EX (.c EW (.c EU (.c ET (.c ES (.c Di (.c Dh (.c ER (.c EQ (.c A7 (.c k9 (.c k8 (.c k7 (.c k6 (.c k5 (.c k4 (.c k3 (.c as9 (.c as8 (.c as7 .nil))))))))))))))))))))))))))))
theorem atc:au prog ap 90 [.ptr 0 0 0,.str [41]] (rB [41] 1 2 dQ) (.ret (.bool true)) (rB [] 1 2 dQ):=cK (.nil)
theorem atd:au prog ap 56 [.ptr 0 0 0] (rA LY 0) (.ret (.tup [])) [⟨[.str [],.ref 1 0 0 2,.int .i64 2,.bool false],0,false,0,0,false⟩,⟨(aI l_),0,false,0,5,true⟩]:=cK (.c atc (.c Us (.c Us (.c atb (.c as6 (.c Us (.c abA (.c as5 (.c akb (.c Dj (.c EZ (.c EY (.c EX (.c EW (.c EU (.c ET (.c ES (.c Di (.c Dh (.c ER (.c EQ (.c A7 (.c k9 (.c k8 (.c k7 (.c k6 (.c k5 (.c k4 (.c k3 (.c as4 (.c as3 (.c as2 .nil))))))))))))))))))))))))))))))))
theorem akc:CO 94 [.int .i64 24] (.ret (.bool false)):=cK (.nil)
theorem ate:CO 74 [.agg [.int .i64 24,.bool false,.str [],.str [],.str [120]]] (.ret (.bool true)):=cK (.c abA (.c akc .nil))
theorem atf:CO 75 [.str [120]] (.ret (.bool true)):=cK (.nil)
theorem atg:CO 48 [.sl (aI l_) 2 true] (.ret (.int .i64 0)):=cK (.c Us (.c atf (.c ate (.c akb (.c qM (.c Wq (.c XQ (.c Gp .nil))))))))
theorem ath:CO 57 [.sl (aI l_) 2 true] (.ret (.tup [.str LY,.int .i64 0])):=cK (.c abA (.c akc (.c Dj (.c Us (.c E5 (.c Sz (.c k4 (.c qM (.c atg .nil)))))))))
theorem akd:CO 27 [.str LY] (.ret (.tup [.sl (aI l_) 2 true,.int .i64 0])):=cK (.c ath (.c atd .nil))
theorem ati:CO 14 [.sl (aI l_) 2 true,.sl [.str [120],.int .i64 0,.int .i64 0,.sl zcc4_2 2 true] 1 true,.int .i64 6,.str [97]] (.ret (.int .i64 1)):=au.args (args:= [.sl (aI l_) 2 true,.sl [.str [120],.int .i64 0,.int .i64 0,.sl zcc4_2 2 false] 1 true,.int .i64 6,.str [97]]) (.cons (aZ.refl _) (.cons (aZ.slP (.same (.same (.same (.sl .nil))))) (.cons (aZ.refl _) (.cons (aZ.refl _) .nil)))) (bT (bZ l_ true sH true kW 6 [97] (jE (by kernel_rfl)) (by decide) (by decide) (gK)) (by kernel_rfl))
theorem atj:CO 26 [.str LY,.str [97],.int .i64 1] (.ret (.bool true)):=cK (.c ati (.c Uu (.c akd .nil)))
theorem atl:CO 36 [.int .i64 (-1)] (.ret (.agg [.bool true,.str [1],.str [1]])):=cK (.c Ut (.c ajG (.c Ut (.c XI .nil))))
theorem atm:CO 70 [.agg [.bool true,.str [1],.str [1]]] (.ret (.agg [.bool true,.str [1],.str [1]])):=bT (bU true [1] [1] (by decide) (by decide)) (by kernel_rfl)
theorem atn:CO 51 [.bool true,.str [1],.str [5]] (.ret (.agg [.bool true,.str [1],.str [5]])):=bT (dO true 1 5 (aV (by decide)) (aV (by decide)) (by decide)) (by kernel_rfl)
theorem ato:CO 58 [.agg [.bool true,.str [1],.str [1]],.agg [.bool false,.str [5],.str [1]]] (.ret (.tup [.agg [.bool true,.str [1],.str [5]],.bool true])):=cK (.c atn (.c k80 (.c k66 (.c k75 (.c atm .nil)))))
theorem atp:CO 28 [.int .i64 (-1)] (.ret (.sl [.str [120],.int .i64 0,.int .i64 0,.sl zcc4_3 2 true] 1 true)):=cK (.c k74 (.c k83 (.c ato (.c k74 (.c atl (.c k73 (.c k58 (.c k57 .nil))))))))
theorem atq:CO 14 [.sl (aI l_) 2 true,.sl [.str [120],.int .i64 0,.int .i64 0,.sl zcc4_3 2 true] 1 true,.int .i64 6,.str [97]] (.ret (.int .i64 3)):=au.args (args:= [.sl (aI l_) 2 true,.sl [.str [120],.int .i64 0,.int .i64 0,.sl zcc4_3 2 false] 1 true,.int .i64 6,.str [97]]) (.cons (aZ.refl _) (.cons (aZ.slP (.same (.same (.same (.sl .nil))))) (.cons (aZ.refl _) (.cons (aZ.refl _) .nil)))) (bT (bZ l_ true aah true kW 6 [97] (jE (by kernel_rfl)) (by decide) (by decide) (Oe)) (by kernel_rfl))
theorem atr:CO 14 [.sl (aI l_) 2 true,.nilS,.int .i64 6,.str [97]] (.ret (.int .i64 3)):=au.args (args:= [.sl (aI l_) 2 true,.sl [] 0 false,.int .i64 6,.str [97]]) (.cons (aZ.refl _) (.cons (aZ.nilS false rfl) (.cons (aZ.refl _) (.cons (aZ.refl _) .nil)))) (bT (bZ l_ true [] false kW 6 [97] (jE (by kernel_rfl)) (by decide) (by decide) (uA)) (by kernel_rfl))
theorem att:CO 14 [.sl (aI lZ) 3 true,.nilS,.int .i64 5,.str [98]] (.ret (.int .i64 3)):=au.args (args:= [.sl (aI lZ) 3 true,.sl [] 0 false,.int .i64 5,.str [98]]) (.cons (aZ.refl _) (.cons (aZ.nilS false rfl) (.cons (aZ.refl _) (.cons (aZ.refl _) .nil)))) (bT (bZ lZ true [] false kW 5 [98] (jE (by kernel_rfl)) (by decide) (by decide) (uA)) (by kernel_rfl))
theorem atu:CO 17 [.sl (aI l_) 2 true,.sl [.str [120],.int .i64 0,.int .i64 0,.sl zcc4_2 2 true] 1 true,.sl [.str [97],.str [98]] 2 true] (.ret (.bool true)):=au.args (args:= [.sl (aI l_) 2 true,.sl [.str [120],.int .i64 0,.int .i64 0,.sl zcc4_2 2 false] 1 true,.sl [.str [97],.str [98]] 2 true]) (.cons (aZ.refl _) (.cons (aZ.slP (.same (.same (.same (.sl .nil))))) (.cons (aZ.refl _) .nil))) (bT (lw l_ true sH true kW [[97],[98]] true (jE (by kernel_rfl)) (by decide) (by decide) (gK) (by decide)) (by kernel_rfl))
theorem atv:CO 17 [.sl (aI lZ) 3 true,.nilS,.sl [.str [97]] 1 true] (.ret (.bool false)):=au.args (args:= [.sl (aI lZ) 3 true,.sl [] 0 false,.sl [.str [97]] 1 true]) (.cons (aZ.refl _) (.cons (aZ.nilS false rfl) (.cons (aZ.refl _) .nil))) (bT (lw lZ true [] false kW [[97]] true (jE (by kernel_rfl)) (by decide) (by decide) (uA) (by decide)) (by kernel_rfl))
theorem atw:CO 17 [.sl (aI lZ) 3 true,.nilS,.sl [.str [98]] 1 true] (.ret (.bool true)):=au.args (args:= [.sl (aI lZ) 3 true,.sl [] 0 false,.sl [.str [98]] 1 true]) (.cons (aZ.refl _) (.cons (aZ.nilS false rfl) (.cons (aZ.refl _) .nil))) (bT (lw lZ true [] false kW [[98]] true (jE (by kernel_rfl)) (by decide) (by decide) (uA) (by decide)) (by kernel_rfl))
theorem atx:CO 17 [.nilS,.nilS,.nilS] (.ret (.bool false)):=au.args (args:= [.sl [] 0 false,.sl [] 0 false,.sl [] 0 false]) (.cons (aZ.nilS false rfl) (.cons (aZ.nilS false rfl) (.cons (aZ.nilS false rfl) .nil))) (bT (lw [] false [] false kW [] false (jE (by kernel_rfl)) (by decide) (by decide) (uA) (by decide)) (by kernel_rfl))
theorem aty:CO 10 [] (.ret (.bool true)):=cK (.c atx (.c atw (.c atv (.c atu (.c Uu (.c att (.c atr (.c atq (.c atp (.c ajU (.c akd (.c atj (.c as1 (.c asY (.c arQ (.c arl (.c aqU (.c aqy (.c apA (.c k88 (.c k86 .nil)))))))))))))))))))))
theorem GY:CO 10 [] (.ret (.bool true)):=aty
def aN (a:Int) (n:Nat):Nat:=(a % (n:Int)).toNat
theorem eQ {a:Int} {n:Nat} (h:0<n):aN a n<n:=by
 unfold aN
 have d:=Int.emod_nonneg a (b:=(n:Int)) (by omega)
 have c:=Int.emod_lt_of_pos a (b:=(n:Int)) (by omega)
 omega
theorem Ha {k:Nat} (h:k<4611686018427387904):AV.int .i64 (IntKind.wrap .i64 (((1:Nat):Int)+(k:Int)))= .int .i64 ((1+k:Nat):Int):=by
 have e:IntKind.wrap .i64 (((1:Nat):Int)+(k:Int))=((1+k:Nat):Int):=by rw [dB]<;>omega
 rw [e]
theorem akr (a n:Int) (h0:lit true (decide ((Int.tmod a n)<((0:Nat):Int)))=true) (b:(!(n==((0:Nat):Int)))=true):CO 29 [.int .i64 a,.int .i64 n] (.ret (.int .i64 (IntKind.wrap .i64 ((Int.tmod a n)+n)))):=pK [] 1 1 (.c h0 (.c b .nil)) (.nil)
theorem aks (a n:Int) (h0:lit false (decide ((Int.tmod a n)<((0:Nat):Int)))=true) (b:(!(n==((0:Nat):Int)))=true):CO 29 [.int .i64 a,.int .i64 n] (.ret (.int .i64 (Int.tmod a n))):=pK [] 1 0 (.c h0 (.c b .nil)) (.nil)
theorem dY (a:Int) (n:Nat) (l:0<n) (g:n≤4611686018427387904):CO 29 [.int .i64 a,.int .i64 (n:Int)] (.ret (.int .i64 ((aN a n:Nat):Int))):=by
 have c:(!((n:Int)==((0:Nat):Int)))=true:=by
  rw [beq_eq_false_iff_ne.2 (by omega)];rfl
 have m:=Int.tmod_lt_of_pos a (b:=(n:Int)) (by omega)
 have j: -(n:Int)<Int.tmod a n:=by
  have:=Int.tmod_lt_of_pos (-a) (b:=(n:Int)) (by omega)
  rw [Int.neg_tmod] at this
  omega
 have f:=Int.emod_nonneg a (b:=(n:Int)) (by omega)
 have k:=Int.emod_lt_of_pos a (b:=(n:Int)) (by omega)
 have d:Int.tmod a n % (n:Int)=a % (n:Int):=by
  have e:=Int.mul_tdiv_add_tmod a (n:Int)
  have:a=Int.tmod a n+(n:Int)*(Int.tdiv a n):=by omega
  conv=>rhs;rw [this,Int.add_mul_emod_self_left]
 have i:((aN a n:Nat):Int)=a % (n:Int):=Int.toNat_of_nonneg f
 rw [i]
 by_cases h:Int.tmod a n<0
 ·have hp:=akr a n (by simpa [lit] using h) c
  have e:IntKind.wrap .i64 (Int.tmod a n+(n:Int))=a % (n:Int):=by
   rw [dB (by omega) (by omega)]
   rw [← d,← Int.add_emod_right,Int.emod_eq_of_lt (by omega) (by omega)]
  rw [e] at hp
  exact hp
 ·have hp:=aks a n (by simp only [lit,Bool.not_eq_true',decide_eq_false_iff_not];exact h) c
  have e:Int.tmod a n=a % (n:Int):=by rw [← d,Int.emod_eq_of_lt (by omega) (by omega)]
  rw [e] at hp
  exact hp
theorem zl (a:Int) (k:Nat) (h0:(gV .str (List.headD (List.drop ((0+(Int.toNat (k:Int)))*1) [.str [97],.str [98],.str [116,97,120],.str [119,97,103,101],.str [120,95,49],.str zcc4_0]) .dead))=true) (d:(decide (((0:Nat):Int)≤(k:Int)))=true) (b:(decide ((k:Int)<((6:Nat):Int)))=true) (c:CO 29 [.int .i64 a,.int .i64 6] (.ret (.int .i64 (k:Int)))):CO 33 [.int .i64 a] (.ret (.str (AV.toStr (List.headD (List.drop ((0+(Int.toNat (k:Int)))*1) [.str [97],.str [98],.str [116,97,120],.str [119,97,103,101],.str [120,95,49],.str zcc4_0]) .dead)))):=pK [] 0 0 (.c h0 (.c d (.c b .nil))) (.c c .nil)
def KL (k:Nat):List UInt8:= [[97],[98],[116,97,120],[119,97,103,101],[120,95,49],zcc4_0].getD k []
theorem IW (a:Int):CO 33 [.int .i64 a] (.ret (.str (KL (aN a 6)))):=by
 have b:=dY a 6 (by omega) (by omega)
 have c:=eQ (a:=a) (n:=6) (by omega)
 generalize aN a 6=k at*
 match k,c,b with
 |0,_,b=>exact zl a 0 rfl rfl rfl b
 |1,_,b=>exact zl a 1 rfl rfl rfl b
 |2,_,b=>exact zl a 2 rfl rfl rfl b
 |3,_,b=>exact zl a 3 rfl rfl rfl b
 |4,_,b=>exact zl a 4 rfl rfl rfl b
 |5,_,b=>exact zl a 5 rfl rfl rfl b
theorem GH (k:Nat) (h:k<6):qE (KL k)=true:=by
 match k,h with
 |0,_=>decide
 |1,_=>decide
 |2,_=>decide
 |3,_=>decide
 |4,_=>decide
 |5,_=>decide
theorem X3 (q0 i s:Int) (d c e a b u t C:Nat) (w:RQ) (A:d<4611686018427387904) (m:c<4611686018427387904) (z:e<4611686018427387904) (v:a<4611686018427387904) (k:b<4611686018427387904) (x:u<4611686018427387904) (B:t<4611686018427387904) (y:C<4611686018427387904) (h0:lit true ((e:Int)==((1:Nat):Int))=true) (o:CO 29 [.int .i64 q0,.int .i64 1000] (.ret (.int .i64 (d:Int)))) (q:CO 49 [.int .i64 (d:Int)] (.ret (.str (ag d)))) (g:CO 29 [.int .i64 i,.int .i64 60] (.ret (.int .i64 (c:Int)))) (l:CO 49 [.int .i64 (((1+c):Nat):Int)] (.ret (.str (ag (1+c))))) (f:CO 29 [.int .i64 s,.int .i64 4] (.ret (.int .i64 (e:Int)))) (j:CO 29 [.int .i64 q0,.int .i64 4611686018427387904] (.ret (.int .i64 (a:Int)))) (n:CO 49 [.int .i64 (a:Int)] (.ret (.str (ag a)))) (p:CO 29 [.int .i64 i,.int .i64 4611686018427387904] (.ret (.int .i64 (b:Int)))) (h:CO 49 [.int .i64 (((1+b):Nat):Int)] (.ret (.str (ag (1+b))))) (r:CO 51 [.bool (decide (q0<((0:Nat):Int))),.str (ag a),.str (ag (1+b))] (.ret (.agg [.bool w.neg,.str (ag w.n),.str (ag w.d)]))):CO 19 [.agg [.int .i64 q0,.int .i64 i,.int .i64 s]] (.ret (.agg [.bool w.neg,.str (ag w.n),.str (ag w.d)])):=pK [] 1 1 (.k 13 h0 (.n 9 .nil)) (.c r (.c h (.v 26 (.eq (Ha k)) (.c p (.c n (.c j (.c f (.c l (.v 12 (.eq (Ha m)) (.c g (.c q (.c o .nil))))))))))))
theorem X4 (q0 m B:Int) (l k j b a D C c:Nat) (w:RQ) (H:l<4611686018427387904) (u:k<4611686018427387904) (G:j<4611686018427387904) (E:b<4611686018427387904) (s:a<4611686018427387904) (F:D<4611686018427387904) (I:C<4611686018427387904) (q:c<4611686018427387904) (h0:lit true ((j:Int)==((2:Nat):Int))=true) (J:lit false ((j:Int)==((1:Nat):Int))=true) (x:CO 29 [.int .i64 q0,.int .i64 1000] (.ret (.int .i64 (l:Int)))) (z:CO 49 [.int .i64 (l:Int)] (.ret (.str (ag l)))) (o:CO 29 [.int .i64 m,.int .i64 60] (.ret (.int .i64 (k:Int)))) (t:CO 49 [.int .i64 (((1+k):Nat):Int)] (.ret (.str (ag (1+k))))) (n:CO 29 [.int .i64 B,.int .i64 4] (.ret (.int .i64 (j:Int)))) (r:CO 29 [.int .i64 q0,.int .i64 4611686018427387904] (.ret (.int .i64 (b:Int)))) (v:CO 49 [.int .i64 (b:Int)] (.ret (.str (ag b)))) (y:CO 29 [.int .i64 m,.int .i64 4611686018427387904] (.ret (.int .i64 (a:Int)))) (p:CO 49 [.int .i64 (a:Int)] (.ret (.str (ag a)))) (A:CO 50 [.str (ag b),.str (ag a)] (.ret (.str (ag (b*a))))) (g:CO 29 [.int .i64 m,.int .i64 4611686018427387904] (.ret (.int .i64 (a:Int)))) (f:CO 49 [.int .i64 (((1+a):Nat):Int)] (.ret (.str (ag (1+a))))) (h:CO 29 [.int .i64 q0,.int .i64 2147483648] (.ret (.int .i64 (c:Int)))) (d:CO 49 [.int .i64 (((1+c):Nat):Int)] (.ret (.str (ag (1+c))))) (i:CO 50 [.str (ag (1+a)),.str (ag (1+c))] (.ret (.str (ag ((1+a)*(1+c)))))) (e:CO 51 [.bool (decide (q0<((0:Nat):Int))),.str (ag (b*a)),.str (ag ((1+a)*(1+c)))] (.ret (.agg [.bool w.neg,.str (ag w.n),.str (ag w.d)]))):CO 19 [.agg [.int .i64 q0,.int .i64 m,.int .i64 B]] (.ret (.agg [.bool w.neg,.str (ag w.n),.str (ag w.d)])):=pK [] 2 2 (.k 19 h0 (.c J (.n 9 .nil))) (.c e (.c i (.c d (.v 47 (.eq (Ha q)) (.c h (.c f (.v 42 (.eq (Ha s)) (.c g (.c A (.c p (.c y (.c v (.c r (.c n (.c t (.v 12 (.eq (Ha u)) (.c o (.c z (.c x .nil)))))))))))))))))))
theorem X5 (q0 i s:Int) (e d b t x c a E:Nat) (w:RQ) (C:e<4611686018427387904) (l:d<4611686018427387904) (B:b<4611686018427387904) (v:t<4611686018427387904) (A:x<4611686018427387904) (y:c<4611686018427387904) (p:a<4611686018427387904) (z:E<4611686018427387904) (h0:lit true ((b:Int)==((3:Nat):Int))=true) (D:lit false ((b:Int)==((2:Nat):Int))=true) (u:lit false ((b:Int)==((1:Nat):Int))=true) (n:CO 29 [.int .i64 q0,.int .i64 1000] (.ret (.int .i64 (e:Int)))) (q:CO 49 [.int .i64 (e:Int)] (.ret (.str (ag e)))) (g:CO 29 [.int .i64 i,.int .i64 60] (.ret (.int .i64 (d:Int)))) (k:CO 49 [.int .i64 (((1+d):Nat):Int)] (.ret (.str (ag (1+d))))) (f:CO 29 [.int .i64 s,.int .i64 4] (.ret (.int .i64 (b:Int)))) (j:CO 29 [.int .i64 q0,.int .i64 7] (.ret (.int .i64 (c:Int)))) (m:CO 49 [.int .i64 (c:Int)] (.ret (.str (ag c)))) (o:CO 29 [.int .i64 i,.int .i64 7] (.ret (.int .i64 (a:Int)))) (h:CO 49 [.int .i64 (((1+a):Nat):Int)] (.ret (.str (ag (1+a))))) (r:CO 51 [.bool (decide (q0<((0:Nat):Int))),.str (ag c),.str (ag (1+a))] (.ret (.agg [.bool w.neg,.str (ag w.n),.str (ag w.d)]))):CO 19 [.agg [.int .i64 q0,.int .i64 i,.int .i64 s]] (.ret (.agg [.bool w.neg,.str (ag w.n),.str (ag w.d)])):=pK [] 3 4 (.k 13 h0 (.c D (.c u (.n 9 .nil)))) (.c r (.c h (.v 59 (.eq (Ha p)) (.c o (.c m (.c j (.c f (.c k (.v 12 (.eq (Ha l)) (.c g (.c q (.c n .nil))))))))))))
theorem X6 (q0 k l:Int) (c b a m r p o A:Nat) (w:RQ) (x:c<4611686018427387904) (h:b<4611686018427387904) (v:a<4611686018427387904) (q:m<4611686018427387904) (u:r<4611686018427387904) (s:p<4611686018427387904) (y:o<4611686018427387904) (t:A<4611686018427387904) (h0:lit false ((a:Int)==((3:Nat):Int))=true) (z:lit false ((a:Int)==((2:Nat):Int))=true) (n:lit false ((a:Int)==((1:Nat):Int))=true) (i:CO 29 [.int .i64 q0,.int .i64 1000] (.ret (.int .i64 (c:Int)))) (j:CO 49 [.int .i64 (c:Int)] (.ret (.str (ag c)))) (e:CO 29 [.int .i64 k,.int .i64 60] (.ret (.int .i64 (b:Int)))) (g:CO 49 [.int .i64 (((1+b):Nat):Int)] (.ret (.str (ag (1+b))))) (d:CO 29 [.int .i64 l,.int .i64 4] (.ret (.int .i64 (a:Int)))) (f:CO 51 [.bool (decide (q0<((0:Nat):Int))),.str (ag c),.str (ag (1+b))] (.ret (.agg [.bool w.neg,.str (ag w.n),.str (ag w.d)]))):CO 19 [.agg [.int .i64 q0,.int .i64 k,.int .i64 l]] (.ret (.agg [.bool w.neg,.str (ag w.n),.str (ag w.d)])):=pK [] 3 0 (.k 7 h0 (.c z (.c n (.n 9 .nil)))) (.c f (.c d (.c g (.v 12 (.eq (Ha h)) (.c e (.c j (.c i .nil)))))))
def mdN (q0 q1 q2:Int):Nat:=if aN q2 4=1 then (aN q0 4611686018427387904) else if aN q2 4=2 then ((aN q0 4611686018427387904)*(aN q1 4611686018427387904)) else if aN q2 4=3 then (aN q0 7) else (aN q0 1000)
def X7 (q0 q1 q2:Int):Nat:=if aN q2 4=1 then (1+(aN q1 4611686018427387904)) else if aN q2 4=2 then ((1+(aN q1 4611686018427387904))*(1+(aN q0 2147483648))) else if aN q2 4=3 then (1+(aN q1 7)) else (1+(aN q1 60))
theorem FO {a b:Nat} (h:a=b):(((a:Int))==(b:Int))=true:=by subst h;simp
theorem oH {a b:Nat} (h:a ≠ b):(((a:Int))==(b:Int))=false:=beq_eq_false_iff_ne.2 (by omega)
theorem Dx (q0 a d:Int) (h:aN d 4=2→∀ x y:Nat,x<9223372036854775808→y<9223372036854775808→CO 50 [.str (ag x),.str (ag y)] (.ret (.str (ag (x*y))))):CO 19 [.agg [.int .i64 q0,.int .i64 a,.int .i64 d]] (.ret (qA (wQ (decide (q0<((0:Nat):Int))) (mdN q0 a d) (X7 q0 a d)))):=by
 have g:(aN q0 1000)<4611686018427387904:=Nat.lt_of_lt_of_le (eQ (by omega)) (by omega)
 have f:(aN a 60)<4611686018427387904:=Nat.lt_of_lt_of_le (eQ (by omega)) (by omega)
 have l:(aN d 4)<4611686018427387904:=Nat.lt_of_lt_of_le (eQ (by omega)) (by omega)
 have c:(aN q0 4611686018427387904)<4611686018427387904:=Nat.lt_of_lt_of_le (eQ (by omega)) (by omega)
 have b:(aN a 4611686018427387904)<4611686018427387904:=Nat.lt_of_lt_of_le (eQ (by omega)) (by omega)
 have i:(aN q0 7)<4611686018427387904:=Nat.lt_of_lt_of_le (eQ (by omega)) (by omega)
 have j:(aN a 7)<4611686018427387904:=Nat.lt_of_lt_of_le (eQ (by omega)) (by omega)
 have e:(aN q0 2147483648)<4611686018427387904:=Nat.lt_of_lt_of_le (eQ (by omega)) (by omega)
 have m:aN d 4<4:=eQ (by omega)
 unfold mdN X7
 by_cases e1:aN d 4=1
 ·rw [if_pos e1,if_pos e1]
  exact X3 q0 a d (aN q0 1000) (aN a 60) (aN d 4) (aN q0 4611686018427387904) (aN a 4611686018427387904) (aN q0 7) (aN a 7) (aN q0 2147483648) (wQ (decide (q0<((0:Nat):Int))) (aN q0 4611686018427387904) (1+(aN a 4611686018427387904))) g f l c b i j e (aC (FO (by omega))) (dY q0 1000 (by omega) (by omega)) (dm (aN q0 1000) (by have:=g;omega)) (dY a 60 (by omega) (by omega)) (dm (1+(aN a 60)) (by have:=f;omega)) (dY d 4 (by omega) (by omega)) (dY q0 4611686018427387904 (by omega) (by omega)) (dm (aN q0 4611686018427387904) (by have:=c;omega)) (dY a 4611686018427387904 (by omega) (by omega)) (dm (1+(aN a 4611686018427387904)) (by have:=b;omega)) (dO _ _ _ (Nat.lt_of_le_of_lt (iy (k:=8) (by have:=c;omega)) (by decide)) (Nat.lt_of_le_of_lt (iy (k:=8) (by have:=b;omega)) (by decide)) (by omega))
 ·rw [if_neg e1,if_neg e1]
  by_cases e2:aN d 4=2
  ·rw [if_pos e2,if_pos e2]
   have h:=h e2
   exact X4 q0 a d (aN q0 1000) (aN a 60) (aN d 4) (aN q0 4611686018427387904) (aN a 4611686018427387904) (aN q0 7) (aN a 7) (aN q0 2147483648) (wQ (decide (q0<((0:Nat):Int))) ((aN q0 4611686018427387904)*(aN a 4611686018427387904)) ((1+(aN a 4611686018427387904))*(1+(aN q0 2147483648)))) g f l c b i j e (aC (FO (by omega))) (aB (oH (by omega))) (dY q0 1000 (by omega) (by omega)) (dm (aN q0 1000) (by have:=g;omega)) (dY a 60 (by omega) (by omega)) (dm (1+(aN a 60)) (by have:=f;omega)) (dY d 4 (by omega) (by omega)) (dY q0 4611686018427387904 (by omega) (by omega)) (dm (aN q0 4611686018427387904) (by have:=c;omega)) (dY a 4611686018427387904 (by omega) (by omega)) (dm (aN a 4611686018427387904) (by have:=b;omega)) (h (aN q0 4611686018427387904) (aN a 4611686018427387904) (by have:=c;have:=b;have:=e;omega) (by have:=c;have:=b;have:=e;omega)) (dY a 4611686018427387904 (by omega) (by omega)) (dm (1+(aN a 4611686018427387904)) (by have:=b;omega)) (dY q0 2147483648 (by omega) (by omega)) (dm (1+(aN q0 2147483648)) (by have:=e;omega)) (h (1+(aN a 4611686018427387904)) (1+(aN q0 2147483648)) (by have:=c;have:=b;have:=e;omega) (by have:=c;have:=b;have:=e;omega)) (dO _ _ _ (Nat.lt_of_le_of_lt (iy (k:=16) (by exact Nat.lt_of_le_of_lt (Nat.mul_le_mul (Nat.le_of_lt c) (Nat.le_of_lt b)) (by decide))) (by decide)) (Nat.lt_of_le_of_lt (iy (k:=16) (by exact Nat.lt_of_le_of_lt (Nat.mul_le_mul (Nat.le_of_lt (show 1+_<4611686018427387905 by have:=b;omega)) (Nat.le_of_lt (show 1+_<4611686018427387905 by have:=e;omega))) (by decide))) (by decide)) (Nat.mul_pos (by omega) (by omega)))
  ·rw [if_neg e2,if_neg e2]
   by_cases e3:aN d 4=3
   ·rw [if_pos e3,if_pos e3]
    exact X5 q0 a d (aN q0 1000) (aN a 60) (aN d 4) (aN q0 4611686018427387904) (aN a 4611686018427387904) (aN q0 7) (aN a 7) (aN q0 2147483648) (wQ (decide (q0<((0:Nat):Int))) (aN q0 7) (1+(aN a 7))) g f l c b i j e (aC (FO (by omega))) (aB (oH (by omega))) (aB (oH (by omega))) (dY q0 1000 (by omega) (by omega)) (dm (aN q0 1000) (by have:=g;omega)) (dY a 60 (by omega) (by omega)) (dm (1+(aN a 60)) (by have:=f;omega)) (dY d 4 (by omega) (by omega)) (dY q0 7 (by omega) (by omega)) (dm (aN q0 7) (by have:=i;omega)) (dY a 7 (by omega) (by omega)) (dm (1+(aN a 7)) (by have:=j;omega)) (dO _ _ _ (Nat.lt_of_le_of_lt (iy (k:=8) (by have:=i;omega)) (by decide)) (Nat.lt_of_le_of_lt (iy (k:=8) (by have:=j;omega)) (by decide)) (by omega))
   ·rw [if_neg e3,if_neg e3]
    exact X6 q0 a d (aN q0 1000) (aN a 60) (aN d 4) (aN q0 4611686018427387904) (aN a 4611686018427387904) (aN q0 7) (aN a 7) (aN q0 2147483648) (wQ (decide (q0<((0:Nat):Int))) (aN q0 1000) (1+(aN a 60))) g f l c b i j e (aB (oH (by omega))) (aB (oH (by omega))) (aB (oH (by omega))) (dY q0 1000 (by omega) (by omega)) (dm (aN q0 1000) (by have:=g;omega)) (dY a 60 (by omega) (by omega)) (dm (1+(aN a 60)) (by have:=f;omega)) (dY d 4 (by omega) (by omega)) (dO _ _ _ (Nat.lt_of_le_of_lt (iy (k:=8) (by have:=g;omega)) (by decide)) (Nat.lt_of_le_of_lt (iy (k:=8) (by have:=f;omega)) (by decide)) (by omega))
theorem O4 (q0 a b:Int):0<X7 q0 a b:=by
 unfold X7
 split
 ·omega
 ·split
  ·exact Nat.mul_pos (by omega) (by omega)
  ·split<;>omega
theorem UH (q0 c a:Int):mdN q0 c a<2^128∧X7 q0 c a<2^128:=by
 have i:(aN q0 1000)<4611686018427387904:=Nat.lt_of_lt_of_le (eQ (by omega)) (by omega)
 have g:(aN c 60)<4611686018427387904:=Nat.lt_of_lt_of_le (eQ (by omega)) (by omega)
 have f:(aN a 4)<4611686018427387904:=Nat.lt_of_lt_of_le (eQ (by omega)) (by omega)
 have e:(aN q0 4611686018427387904)<4611686018427387904:=Nat.lt_of_lt_of_le (eQ (by omega)) (by omega)
 have b:(aN c 4611686018427387904)<4611686018427387904:=Nat.lt_of_lt_of_le (eQ (by omega)) (by omega)
 have h:(aN q0 7)<4611686018427387904:=Nat.lt_of_lt_of_le (eQ (by omega)) (by omega)
 have j:(aN c 7)<4611686018427387904:=Nat.lt_of_lt_of_le (eQ (by omega)) (by omega)
 have d:(aN q0 2147483648)<4611686018427387904:=Nat.lt_of_lt_of_le (eQ (by omega)) (by omega)
 unfold mdN X7
 by_cases e1:aN a 4=1
 ·rw [if_pos e1,if_pos e1];omega
 ·rw [if_neg e1,if_neg e1]
  by_cases e2:aN a 4=2
  ·rw [if_pos e2,if_pos e2]
   exact ⟨by exact Nat.lt_of_le_of_lt (Nat.mul_le_mul (Nat.le_of_lt e) (Nat.le_of_lt b)) (by decide),by exact Nat.lt_of_le_of_lt (Nat.mul_le_mul (Nat.le_of_lt (show 1+_<4611686018427387905 by have:=b;omega)) (Nat.le_of_lt (show 1+_<4611686018427387905 by have:=d;omega))) (by decide)⟩
  ·rw [if_neg e2,if_neg e2]
   by_cases e3:aN a 4=3
   ·rw [if_pos e3,if_pos e3];omega
   ·rw [if_neg e3,if_neg e3];omega
theorem akE (w:RQ) (h0:lit true (!((ag w.n)== []))=true) (a:CO 70 [.agg [.bool w.neg,.str (ag w.n),.str (ag w.d)]] (.ret (.agg [.bool w.neg,.str (ag w.n),.str (ag w.d)]))):CO 59 [.agg [.bool w.neg,.str (ag w.n),.str (ag w.d)]] (.ret (.agg [.bool (!w.neg),.str (ag w.n),.str (ag w.d)])):=pK [] 1 1 (.k 9 h0 (.n 5 .nil)) (.c a .nil)
theorem ada (q0 c a:Int) (w:RQ) (b:Int) (h0:lit false (b==((0:Nat):Int))=true) (f:lit true w.neg=true) (d:CO 19 [.agg [.int .i64 q0,.int .i64 c,.int .i64 a]] (.ret (.agg [.bool w.neg,.str (ag w.n),.str (ag w.d)]))) (g:CO 59 [.agg [.bool w.neg,.str (ag w.n),.str (ag w.d)]] (.ret (.agg [.bool false,.str (ag w.n),.str (ag w.d)]))) (e:CO 45 [.agg [.bool false,.str (ag w.n),.str (ag w.d)]] (.ret (.int .i64 b))):CO 35 [.agg [.int .i64 q0,.int .i64 c,.int .i64 a]] (.ret (.agg [.bool false,.str (ag w.n),.str (ag w.d)])):=pK [] 2 1 (.k 7 h0 (.k 7 f (.n 5 .nil))) (.c e (.c g (.c d .nil)))
theorem adb (q0 c a:Int) (w:RQ) (b:Int) (h0:lit true (b==((0:Nat):Int))=true) (f:lit false w.neg=true) (d:CO 19 [.agg [.int .i64 q0,.int .i64 c,.int .i64 a]] (.ret (.agg [.bool w.neg,.str (ag w.n),.str (ag w.d)]))) (g:CO 45 [.agg [.bool w.neg,.str (ag w.n),.str (ag w.d)]] (.ret (.int .i64 b))) (e:CO 60 [] (.ret (.agg [.bool false,.str [1],.str [100]]))):CO 35 [.agg [.int .i64 q0,.int .i64 c,.int .i64 a]] (.ret (.agg [.bool false,.str [1],.str [100]])):=pK [] 2 2 (.k 4 h0 (.k 3 f (.n 5 .nil))) (.c e (.c g (.c d .nil)))
theorem adc (q0 c a:Int) (w:RQ) (b:Int) (h0:lit false (b==((0:Nat):Int))=true) (e:lit false w.neg=true) (d:CO 19 [.agg [.int .i64 q0,.int .i64 c,.int .i64 a]] (.ret (.agg [.bool w.neg,.str (ag w.n),.str (ag w.d)]))) (f:CO 45 [.agg [.bool w.neg,.str (ag w.n),.str (ag w.d)]] (.ret (.int .i64 b))):CO 35 [.agg [.int .i64 q0,.int .i64 c,.int .i64 a]] (.ret (.agg [.bool w.neg,.str (ag w.n),.str (ag w.d)])):=pK [] 2 0 (.k 7 h0 (.k 3 e (.n 5 .nil))) (.c f (.c d .nil))
theorem abB (n:Int) (k8 k2:Nat) (w:RQ) (a:Bool) (i:List UInt8) (b:k8<4611686018427387904) (h0:lit false a=true) (g:lit true ((((1+k8):Nat):Int)==((4:Nat):Int))=true) (c:CO 29 [.int .i64 n,.int .i64 8] (.ret (.int .i64 (k8:Int)))) (h:CO 19 [.agg [.int .i64 (IntKind.wrap .i64 (Int.tdiv n ((8:Nat):Int))),.int .i64 (IntKind.wrap .i64 (Int.tdiv n ((24:Nat):Int))),.int .i64 (IntKind.wrap .i64 (((3:Nat):Int)*(Int.tmod (IntKind.wrap .i64 (Int.tdiv n ((8:Nat):Int))) ((2:Nat):Int))))]] (.ret (.agg [.bool w.neg,.str (ag w.n),.str (ag w.d)]))) (d:CO 29 [.int .i64 (IntKind.wrap .i64 (Int.tdiv n ((8:Nat):Int))),.int .i64 2] (.ret (.int .i64 (k2:Int)))) (e:CO 36 [.int .i64 (k2:Int)] (.ret (.agg [.bool false,.str (ag k2),.str (ag 1)]))) (f:CO 32 [.int .i64 (((1+k8):Nat):Int)] (.ret (.bool a))):CO 31 [.int .i64 n] (.ret (.agg [.int .i64 (((1+k8):Nat):Int),.bool false,.str (ag k2),.str (ag 1),.str []])):=pK [] 2 1 (.k 9 h0 (.k 2 g (.n 5 .nil))) (.c f (.c e (.c d (.c h (.v 7 (.eq (Ha b)) (.c c .nil))))))
theorem abC (n:Int) (k8 k2:Nat) (w:RQ) (a:Bool) (c:List UInt8) (b:k8<4611686018427387904) (h0:lit true a=true) (g:lit false ((((1+k8):Nat):Int)==((4:Nat):Int))=true) (d:CO 29 [.int .i64 n,.int .i64 8] (.ret (.int .i64 (k8:Int)))) (h:CO 19 [.agg [.int .i64 (IntKind.wrap .i64 (Int.tdiv n ((8:Nat):Int))),.int .i64 (IntKind.wrap .i64 (Int.tdiv n ((24:Nat):Int))),.int .i64 (IntKind.wrap .i64 (((3:Nat):Int)*(Int.tmod (IntKind.wrap .i64 (Int.tdiv n ((8:Nat):Int))) ((2:Nat):Int))))]] (.ret (.agg [.bool w.neg,.str (ag w.n),.str (ag w.d)]))) (e:CO 32 [.int .i64 (((1+k8):Nat):Int)] (.ret (.bool a))) (f:CO 33 [.int .i64 (IntKind.wrap .i64 (Int.tdiv n ((8:Nat):Int)))] (.ret (.str c))):CO 31 [.int .i64 n] (.ret (.agg [.int .i64 (((1+k8):Nat):Int),.bool false,.str [],.str [],.str c])):=pK [] 2 2 (.k 7 h0 (.c g (.n 5 .nil))) (.c f (.c e (.c h (.v 7 (.eq (Ha b)) (.c d .nil)))))
theorem abD (n:Int) (k8 k2:Nat) (w:RQ) (a:Bool) (g:List UInt8) (b:k8<4611686018427387904) (h0:lit false a=true) (e:lit false ((((1+k8):Nat):Int)==((4:Nat):Int))=true) (c:CO 29 [.int .i64 n,.int .i64 8] (.ret (.int .i64 (k8:Int)))) (f:CO 19 [.agg [.int .i64 (IntKind.wrap .i64 (Int.tdiv n ((8:Nat):Int))),.int .i64 (IntKind.wrap .i64 (Int.tdiv n ((24:Nat):Int))),.int .i64 (IntKind.wrap .i64 (((3:Nat):Int)*(Int.tmod (IntKind.wrap .i64 (Int.tdiv n ((8:Nat):Int))) ((2:Nat):Int))))]] (.ret (.agg [.bool w.neg,.str (ag w.n),.str (ag w.d)]))) (d:CO 32 [.int .i64 (((1+k8):Nat):Int)] (.ret (.bool a))):CO 31 [.int .i64 n] (.ret (.agg [.int .i64 (((1+k8):Nat):Int),.bool w.neg,.str (ag w.n),.str (ag w.d),.str []])):=pK [] 2 0 (.k 9 h0 (.c e (.n 5 .nil))) (.c d (.c f (.v 7 (.eq (Ha b)) (.c c .nil))))
theorem ce0:CO 76 [.str [0,0,0,0,0,0,0,1]] (.ret (.str [1])):=cK (.nil)
theorem ce1:CO 49 [.int .i64 1] (.ret (.str [1])):=cK (.c ce0 .nil)
theorem ce2:CO 76 [.str [0,0,0,0,0,0,0,100]] (.ret (.str [100])):=cK (.nil)
theorem ce3:CO 49 [.int .i64 100] (.ret (.str [100])):=cK (.c ce2 .nil)
theorem ce4:CO 128 [.str [1]] (.ret (.bool true)):=cK (.nil)
theorem ce5:CO 128 [.str [100]] (.ret (.bool true)):=cK (.nil)
theorem ce6:CO 76 [.str [1]] (.ret (.str [1])):=cK (.nil)
theorem ce7:CO 76 [.str [100]] (.ret (.str [100])):=cK (.nil)
theorem ce8:CO 107 [.str [1]] (.ret (.tup [.int .i64 1,.bool true])):=cK (.c ce6 .nil)
theorem ce9:CO 77 [.str [1],.int .i64 7] (.ret (.tup [.int .i64 1,.bool true])):=cK (.c ce8 (.c ce6 .nil))
theorem anS:CO 107 [.str [100]] (.ret (.tup [.int .i64 100,.bool true])):=cK (.c ce7 .nil)
theorem aej:CO 77 [.str [100],.int .i64 7] (.ret (.tup [.int .i64 100,.bool true])):=cK (.c anS (.c ce7 .nil))
theorem anT:CO 76 [.str []] (.ret (.str [])):=cK (.nil)
theorem aaS:CO 49 [.int .i64 0] (.ret (.str [])):=cK (.c anT .nil)
theorem anU:CO 81 [.str [1],.str [100]] (.ret (.tup [.str [],.str [1],.bool true])):=cK (.c ce1 (.c aaS (.c aej (.c ce9 (.c ce7 .nil)))))
theorem aek:CO 81 [.str [100],.str [1]] (.ret (.tup [.str [100],.str [],.bool true])):=cK (.c aaS (.c ce3 (.c ce9 (.c aej (.c ce6 .nil)))))
theorem anV:CO 80 [.str [1],.str [100]] (.ret (.str [1])):=cK (.c aek (.c anU (.c ce7 (.c ce6 .nil))))
theorem anW:CO 81 [.str [1],.str [1]] (.ret (.tup [.str [1],.str [],.bool true])):=cK (.c aaS (.c ce1 (.c ce9 (.c ce9 (.c ce6 .nil)))))
theorem anX:CO 51 [.bool false,.str [1],.str [100]] (.ret (.agg [.bool false,.str [1],.str [100]])):=cK (.c aek (.c anW (.c anV .nil)))
theorem anY:CO 96 [.bool false,.str [1],.str [100]] (.ret (.tup [.agg [.bool false,.str [1],.str [100]],.bool true])):=cK (.c anX (.c ce5 (.c ce4 .nil)))
theorem anZ:CO 60 [] (.ret (.agg [.bool false,.str [1],.str [100]])):=cK (.c anY (.c ce3 (.c ce1 .nil)))
theorem nS {s:List UInt8} (h:nR s=true):ag (ah s)=s:=by
 rw [yg]
 cases s with
 |nil=>rfl
 |cons c r=>
  have:(c==0)=false:=by simpa [nR] using h
  rw [List.dropWhile_cons,if_neg (by rw [this];decide)]
theorem dh {x:Nat} (h:x<2^128):(ag x).length<2^33:=Nat.lt_of_le_of_lt (iy (k:=16) h) (by decide)
theorem OV {w:RQ} (c:w.ok) (a:w.n<2^128) (b:w.d<2^128):iW w.neg (ag w.n) (ag w.d)=true:=by
 have e:=lq a
 have d:=lq b
 unfold iW
 rw [Np w c,bD,bD,decide_eq_true (by omega),decide_eq_true (by omega)]
 rfl
theorem N_ {w:RQ} (c:w.ok) (a:w.neg=false) (b:0<w.n):fV w.neg (ag w.n) (ag w.d)=1:=by
 unfold fV
 rw [if_pos ⟨Np w c,by rw [bD];exact b⟩,a]
 rfl
theorem Y6 {w:RQ} (a:w.n=0):fV w.neg (ag w.n) (ag w.d)=0:=by
 unfold fV
 rw [if_neg]
 rw [bD];omega
theorem NE (neg:Bool) (n d:Nat) (b:n<2^128) (a:d<2^128):(wQ neg n d).n<2^128∧(wQ neg n d).d<2^128:=
 ⟨Nat.lt_of_le_of_lt (Nat.div_le_self _ _) b,Nat.lt_of_le_of_lt (Nat.div_le_self _ _) a⟩
theorem VL (q0 a:Int):∃ w:RQ,w.ok∧w.neg=false∧0<w.n∧w.n<2^128∧w.d<2^128∧CO 35 [.agg [.int .i64 q0,.int .i64 a,.int .i64 3]] (.ret (qA w)):=by
 have h:=Dx q0 a 3 (fun h=>absurd h (by decide))
 obtain ⟨n,m⟩:=UH q0 a 3
 obtain ⟨d,e⟩:=NE (decide (q0<((0:Nat):Int))) _ _ n m
 have c:(wQ (decide (q0<((0:Nat):Int))) (mdN q0 a 3) (X7 q0 a 3)).ok:=O3 (O4 _ _ _)
 generalize wQ (decide (q0<((0:Nat):Int))) (mdN q0 a 3) (X7 q0 a 3)=w at*
 have f:qA ⟨false,1,100⟩= .agg [.bool false,.str [1],.str [100]]:=by
  unfold qA
  rw [show ag 1= [1] from nS (s:= [1]) rfl,show ag 100= [100] from nS (s:= [100]) rfl]
 have l:(⟨false,1,100⟩:RQ).ok:=⟨by decide,by decide,by simp⟩
 rcases tf w.neg with b0|b0
 ·have hp:=c.2.2 b0
  have i:(!((ag w.n)== []))=true:=by
   have:ag w.n ≠ []:=fun h=>by have:=kF.1 h;omega
   simpa using this
  have j:=bU w.neg (ag w.n) (ag w.d) (dh d) (dh e)
  rw [show vQ w.neg (ag w.n) (ag w.d)=w by unfold vQ;rw [if_pos (Np w c),bD,bD]] at j
  have k:=akE w (aC i) j
  rw [show (!w.neg)=false by rw [b0];rfl] at k
  have g:(⟨false,w.n,w.d⟩:RQ).ok:=⟨c.1,c.2.1,by simp⟩
  have b:=fM false (ag w.n) (ag w.d) (dh d) (dh e)
  rw [N_ (w:=⟨false,w.n,w.d⟩) g rfl hp] at b
  exact ⟨⟨false,w.n,w.d⟩,g,rfl,hp,d,e,ada q0 a 3 w 1 (aB (by decide)) (aC b0) h k b⟩
 ·have b:=fM w.neg (ag w.n) (ag w.d) (dh d) (dh e)
  rcases Nat.eq_zero_or_pos w.n with hz|hp
  ·rw [Y6 hz] at b
   have:=adb q0 a 3 w 0 (aC (by decide)) (aB b0) h b anZ
   exact ⟨⟨false,1,100⟩,l,rfl,by decide,by decide,by decide,by rw [f];exact this⟩
  ·rw [N_ c b0 hp] at b
   exact ⟨w,c,b0,hp,d,e,adc q0 a 3 w 1 (aB (by decide)) (aB b0) h b⟩
theorem Hf {a:Int} (h:a=1∨a=2∨a=3) {w:RQ} (e:w.ok) (d:w.n<2^128) (b:w.d<2^128):aJ ⟨a,w.neg,ag w.n,ag w.d,[]⟩=0:=by
 have c:=OV e d b
 rcases h with rfl|rfl|rfl<;>simp [aJ,fZ,Jj,gG,vG,pU,c]
theorem Ov {b:Int} (h:b=21∨b=22∨b=23) {w:RQ} (c:w.ok) (a:w.neg=false) (hp:0<w.n) (f:w.n<2^128) (d:w.d<2^128):aJ ⟨b,w.neg,ag w.n,ag w.d,[]⟩=0:=by
 have e:=OV c f d
 have hs:=N_ c a hp
 rcases h with rfl|rfl|rfl<;>simp [aJ,fZ,Jj,gG,vG,pU,e,hs]
theorem LP {k:Nat} (h:k<2):aJ ⟨4,false,ag k,ag 1,[]⟩=0:=by
 have:k=0∨k=1:=by omega
 rcases this with rfl|rfl<;>simp [aJ,fZ,Jj,gG,sQ]
theorem EM {a:Int} (h:a=5∨a=6∨a=7∨a=8∨a=24) {b:List UInt8} (c:qE b=true):aJ ⟨a,false,[],[],b⟩=0:=by
 rcases h with rfl|rfl|rfl|rfl|rfl<;>simp [aJ,fZ,Jj,gG,vG,pU,c]
theorem LM {a:Int} (h:9≤a∧a≤20):aJ ⟨a,false,[],[],[]⟩=0:=by
 have d:Jj a=true:=decide_eq_true (by omega)
 have b:gG a=false:=decide_eq_false (by omega)
 have c:vG a=false:=decide_eq_false (by omega)
 have e:pU a=false:=decide_eq_false (by omega)
 have f:(a==((4:Nat):Int))=false:=beq_eq_false_iff_ne.2 (by omega)
 unfold aJ fZ
 rw [d,b,c,e,f];rfl
theorem XR (n:Int):∃ x:Nd,x.sm∧aJ x=0∧dL x.op=0∧CO 31 [.int .i64 n] (.ret (.agg (iY x))):=by
 have e:=dY n 8 (by omega) (by omega)
 have u:aN n 8<8:=eQ (by omega)
 generalize aN n 8=k8 at*
 generalize m:(IntKind.wrap .i64 (Int.tdiv n ((8:Nat):Int)))=q at*
 have v: -2<Int.tmod q 2∧Int.tmod q 2<2:=by
  have y:=Int.tmod_lt_of_pos q (b:=2) (by omega)
  have c:=Int.tmod_lt_of_pos (-q) (b:=2) (by omega)
  rw [Int.neg_tmod] at c
  omega
 have d:aN (IntKind.wrap .i64 (((3:Nat):Int)*(Int.tmod q ((2:Nat):Int)))) 4 ≠ 2:=by
  rw [show ((2:Nat):Int)=2 from rfl]
  rw [dB (by omega) (by omega)]
  have:Int.tmod q 2= -1∨Int.tmod q 2=0∨Int.tmod q 2=1:=by omega
  rcases this with h|h|h<;>rw [h]<;>decide
 have f:=Dx q (IntKind.wrap .i64 (Int.tdiv n ((24:Nat):Int))) (IntKind.wrap .i64 (((3:Nat):Int)*(Int.tmod q ((2:Nat):Int)))) (fun h=>absurd h d)
 obtain ⟨k,p⟩:=UH q (IntKind.wrap .i64 (Int.tdiv n ((24:Nat):Int))) (IntKind.wrap .i64 (((3:Nat):Int)*(Int.tmod q ((2:Nat):Int))))
 obtain ⟨g,i⟩:=NE (decide (q<((0:Nat):Int))) _ _ k p
 have s:=O3 (neg:=decide (q<((0:Nat):Int))) (n:=mdN q (IntKind.wrap .i64 (Int.tdiv n ((24:Nat):Int))) (IntKind.wrap .i64 (((3:Nat):Int)*(Int.tmod q ((2:Nat):Int))))) (O4 q (IntKind.wrap .i64 (Int.tdiv n ((24:Nat):Int))) (IntKind.wrap .i64 (((3:Nat):Int)*(Int.tmod q ((2:Nat):Int)))))
 generalize wQ (decide (q<((0:Nat):Int))) (mdN q (IntKind.wrap .i64 (Int.tdiv n ((24:Nat):Int))) (IntKind.wrap .i64 (((3:Nat):Int)*(Int.tmod q ((2:Nat):Int))))) (X7 q (IntKind.wrap .i64 (Int.tdiv n ((24:Nat):Int))) (IntKind.wrap .i64 (((3:Nat):Int)*(Int.tmod q ((2:Nat):Int)))))=w at*
 have a:=IG (((1+k8:Nat):Int))
 have t:=IW q
 have hp:=GH (aN q 6) (eQ (by omega))
 generalize KL (aN q 6)=nm at*
 have l:=dY q 2 (by omega) (by omega)
 have c:aN q 2<2:=eQ (by omega)
 generalize aN q 2=k2 at*
 have r:=yl k2 (by omega)
 have o:(ag k2).length<2^33:=dh (by omega)
 have j:(ag 1).length<2^33:=dh (by decide)
 subst m
 by_cases e4:k8=3
 ·rw [show gG ((1+k8:Nat):Int)=false by subst e4;rfl] at a
  refine ⟨⟨((1+k8:Nat):Int),false,ag k2,ag 1,[]⟩,⟨o,j⟩, ?_,by subst e4;rfl,abB n k8 k2 w false nm (by omega) (aB rfl) (aC (FO (by omega))) e f l r a⟩
  subst e4
  exact LP c
 ·by_cases e5:k8<3
  ·rw [show gG ((1+k8:Nat):Int)=false from decide_eq_false (by omega)] at a
   exact ⟨⟨((1+k8:Nat):Int),w.neg,ag w.n,ag w.d,[]⟩,⟨dh g,dh i⟩,Hf (by omega) s g i,by unfold dL;simp only;(repeat' split)<;>omega,abD n k8 k2 w false nm (by omega) (aB rfl) (aB (oH (by omega))) e f a⟩
  ·rw [show gG ((1+k8:Nat):Int)=true from decide_eq_true (by omega)] at a
   exact ⟨⟨((1+k8:Nat):Int),false,[],[],nm⟩,⟨by simp,by simp⟩,EM (by omega) hp,by unfold dL;simp only;(repeat' split)<;>omega,abC n k8 k2 w true nm (by omega) (aC rfl) (aB (oH (by omega))) e f a t⟩
def iL (l:List Int):List AV:=l.map fun a=> .int .i64 a
theorem XD {a:List Int} {i:Nat} (h:i<a.length):List.drop (Int.toNat (i:Int)*1) (iL a)= [AV.int .i64 (a.getD i 0)]++iL (a.drop (i+1)):=by
 unfold iL
 rw [aA,Nat.mul_one,← List.map_drop,List.drop_eq_getElem_cons h,List.getD_eq_getElem?_getD,List.getElem?_eq_getElem h]
 rfl
theorem Jm {k:Nat} (h:k<2^62):AV.int .i64 (IntKind.wrap .i64 ((k:Int)+((1:Nat):Int)))= .int .i64 ((k+1:Nat):Int):=by
 have e:IntKind.wrap .i64 ((k:Int)+((1:Nat):Int))=((k+1:Nat):Int):=by rw [dB]<;>omega
 rw [e]
theorem wms {a b:Nat} (h:a≤b) (c:b<2^62):AV.int .i64 (IntKind.wrap .i64 ((b:Int) - (a:Int)))= .int .i64 ((b - a:Nat):Int):=by
 have e:IntKind.wrap .i64 ((b:Int) - (a:Int))=((b - a:Nat):Int):=by rw [dB]<;>omega
 rw [e]
theorem lms {a b:Nat} (h:b<2^62):b - a<2^62:=Nat.lt_of_le_of_lt (Nat.sub_le _ _) h
theorem akA {nt:Nat} (l:85≤nt) (a:List Int) (f:Bool) (k d qL e:Nat) (y:Nd) (x:Int) (p:List AV) (o:k<2^62) (c:d<2^62) (b:qL<4611686018427387904) (j:(List.drop ((Int.toNat (k:Int))*1) (iL a))= [AV.int .i64 x]++p) (h0:lit true ((e:Int)==((0:Nat):Int))=true) (r:(decide (((0:Nat):Int)≤(k:Int)))=true) (g:(decide ((k:Int)<(a.length:Int)))=true) (h:lit true (decide ((k:Int)<((30:Nat):Int)))=true) (m:lit true (decide ((k:Int)<(a.length:Int)))=true) (i:CO 29 [.int .i64 x,.int .i64 24] (.ret (.int .i64 (qL:Int)))) (n:CO 30 [.int .i64 (((1+qL):Nat):Int)] (.ret (.int .i64 (e:Int)))) (q:CO 31 [.int .i64 (IntKind.wrap .i64 (Int.tdiv x ((24:Nat):Int)))] (.ret (.agg [.int .i64 y.op,.bool y.neg,.str y.num,.str y.den,.str y.name]))):aj prog ap [] nt (ae 0 (af f11)) ⟨[(0,.sl (iL a) a.length f),(3,.nilS),(4,.int .i64 (d:Int)),(5,.int .i64 (k:Int))],[],.dead,[]⟩ (.normal) ⟨[(0,.sl (iL a) a.length f),(3,.ref 0 0 0 1),(4,.int .i64 (((d+1):Nat):Int)),(5,.int .i64 (((k+1):Nat):Int))],[(0,⟨[.int .i64 y.op,.bool y.neg,.str y.num,.str y.den,.str y.name],0,false,0,5,true⟩)],.dead,[]⟩:=pN 11 [] 5 15 (.k 5 h0 (.k 1 r (.c g (.c h (.c m .nil))))) (.v 19 (.eq (Jm o)) (.v 43 (.eq (Jm c)) (.c q (.c n (.v 26 (.eq (Ha b)) (.c i (.v 22 (.ppt j) .nil))))))) l
theorem akB {nt:Nat} (l:85≤nt) (a:List Int) (f:Bool) (k c qL d:Nat) (y:Nd) (x:Int) (q:List AV) (p:k<2^62) (e:c<2^62) (b:qL<4611686018427387904) (j:(List.drop ((Int.toNat (k:Int))*1) (iL a))= [AV.int .i64 x]++q) (h0:lit true (decide ((c:Int)<(d:Int)))=true) (s:lit false ((d:Int)==((0:Nat):Int))=true) (g:(decide (((0:Nat):Int)≤(k:Int)))=true) (h:(decide ((k:Int)<(a.length:Int)))=true) (m:lit true (decide ((k:Int)<((30:Nat):Int)))=true) (n:lit true (decide ((k:Int)<(a.length:Int)))=true) (i:CO 29 [.int .i64 x,.int .i64 24] (.ret (.int .i64 (qL:Int)))) (o:CO 30 [.int .i64 (((1+qL):Nat):Int)] (.ret (.int .i64 (d:Int)))) (r:CO 31 [.int .i64 (IntKind.wrap .i64 (Int.tdiv x ((24:Nat):Int)))] (.ret (.agg [.int .i64 y.op,.bool y.neg,.str y.num,.str y.den,.str y.name]))):aj prog ap [] nt (ae 0 (af f11)) ⟨[(0,.sl (iL a) a.length f),(3,.nilS),(4,.int .i64 (c:Int)),(5,.int .i64 (k:Int))],[],.dead,[]⟩ (.normal) ⟨[(0,.sl (iL a) a.length f),(3,.ref 0 0 0 1),(4,.int .i64 (((c+1):Nat):Int)),(5,.int .i64 (((k+1):Nat):Int))],[(0,⟨[.int .i64 y.op,.bool y.neg,.str y.num,.str y.den,.str y.name],0,false,0,5,true⟩)],.dead,[]⟩:=pN 11 [] 5 11 (.k 4 h0 (.c s (.k 1 g (.c h (.c m (.c n .nil)))))) (.v 19 (.eq (Jm p)) (.v 43 (.eq (Jm e)) (.c r (.c o (.v 26 (.eq (Ha b)) (.c i (.v 22 (.ppt j) .nil))))))) l
theorem akC {nt:Nat} (d:85≤nt) (a:List Int) (c:Bool) (k b:Nat) (h0:lit false (decide ((k:Int)<(a.length:Int)))=true):aj prog ap [] nt (ae 0 (af f11)) ⟨[(0,.sl (iL a) a.length c),(3,.nilS),(4,.int .i64 (b:Int)),(5,.int .i64 (k:Int))],[],.dead,[]⟩ (.exit 0) ⟨[(3,.nilS),(4,.int .i64 (b:Int))],[],.dead,[]⟩:=pN 11 [] 2 0 (.k 1 h0 .nil) (.nil) d
theorem akt {nt:Nat} (n:85≤nt) (a:List Int) (g:Bool) (k d qL f:Nat) (y:Nd) (x:Int) (s:List AV) (e:List Nd) (r:k<2^62) (c:d<2^62) (b:qL<4611686018427387904) (l:(List.drop ((Int.toNat (k:Int))*1) (iL a))= [AV.int .i64 x]++s) (h0:(Nat.ble (k+1) 1099511627776)=true) (u:(Nat.ble (k*5) (List.length (aI e)))=true) (h:lit true ((f:Int)==((0:Nat):Int))=true) (i:(decide (((0:Nat):Int)≤(k:Int)))=true) (o:(decide ((k:Int)<(a.length:Int)))=true) (p:lit true (decide ((k:Int)<((30:Nat):Int)))=true) (m:lit true (decide ((k:Int)<(a.length:Int)))=true) (j:CO 29 [.int .i64 x,.int .i64 24] (.ret (.int .i64 (qL:Int)))) (q:CO 30 [.int .i64 (((1+qL):Nat):Int)] (.ret (.int .i64 (f:Int)))) (t:CO 31 [.int .i64 (IntKind.wrap .i64 (Int.tdiv x ((24:Nat):Int)))] (.ret (.agg [.int .i64 y.op,.bool y.neg,.str y.num,.str y.den,.str y.name]))):aj prog ap [] nt (ae 0 (af f11)) ⟨[(0,.sl (iL a) a.length g),(3,.ref 0 0 0 k),(4,.int .i64 (d:Int)),(5,.int .i64 (k:Int))],[(0,⟨(aI e),0,false,0,5,true⟩)],.dead,[]⟩ (.normal) ⟨[(0,.sl (iL a) a.length g),(3,.ref 0 0 0 (k+1)),(4,.int .i64 (((d+1):Nat):Int)),(5,.int .i64 (((k+1):Nat):Int))],[(0,⟨((List.take (k*5) (aI e))++ [.int .i64 y.op,.bool y.neg,.str y.num,.str y.den,.str y.name]),0,false,0,5,true⟩)],.dead,[]⟩:=pN 11 [] 4 15 (.k 1 h0 (.c u (.k 3 h (.k 1 i (.c o (.c p (.c m .nil))))))) (.v 19 (.eq (Jm r)) (.v 43 (.eq (Jm c)) (.c t (.c q (.v 26 (.eq (Ha b)) (.c j (.v 22 (.ppt l) .nil))))))) n
theorem aku {nt:Nat} (o:85≤nt) (a:List Int) (g:Bool) (k c qL d:Nat) (y:Nd) (x:Int) (t:List AV) (f:List Nd) (s:k<2^62) (e:c<2^62) (b:qL<4611686018427387904) (l:(List.drop ((Int.toNat (k:Int))*1) (iL a))= [AV.int .i64 x]++t) (h0:(Nat.ble (k+1) 1099511627776)=true) (v:(Nat.ble (k*5) (List.length (aI f)))=true) (h:lit true (decide ((c:Int)<(d:Int)))=true) (i:lit false ((d:Int)==((0:Nat):Int))=true) (p:(decide (((0:Nat):Int)≤(k:Int)))=true) (q:(decide ((k:Int)<(a.length:Int)))=true) (m:lit true (decide ((k:Int)<((30:Nat):Int)))=true) (n:lit true (decide ((k:Int)<(a.length:Int)))=true) (j:CO 29 [.int .i64 x,.int .i64 24] (.ret (.int .i64 (qL:Int)))) (r:CO 30 [.int .i64 (((1+qL):Nat):Int)] (.ret (.int .i64 (d:Int)))) (u:CO 31 [.int .i64 (IntKind.wrap .i64 (Int.tdiv x ((24:Nat):Int)))] (.ret (.agg [.int .i64 y.op,.bool y.neg,.str y.num,.str y.den,.str y.name]))):aj prog ap [] nt (ae 0 (af f11)) ⟨[(0,.sl (iL a) a.length g),(3,.ref 0 0 0 k),(4,.int .i64 (c:Int)),(5,.int .i64 (k:Int))],[(0,⟨(aI f),0,false,0,5,true⟩)],.dead,[]⟩ (.normal) ⟨[(0,.sl (iL a) a.length g),(3,.ref 0 0 0 (k+1)),(4,.int .i64 (((c+1):Nat):Int)),(5,.int .i64 (((k+1):Nat):Int))],[(0,⟨((List.take (k*5) (aI f))++ [.int .i64 y.op,.bool y.neg,.str y.num,.str y.den,.str y.name]),0,false,0,5,true⟩)],.dead,[]⟩:=pN 11 [] 4 11 (.k 1 h0 (.c v (.k 2 h (.c i (.k 1 p (.c q (.c m (.c n .nil)))))))) (.v 19 (.eq (Jm s)) (.v 43 (.eq (Jm e)) (.c u (.c r (.v 26 (.eq (Ha b)) (.c j (.v 22 (.ppt l) .nil))))))) o
theorem akv {nt:Nat} (v:85≤nt) (b:List Int) (m:Bool) (k h qL c:Nat) (e d:Bool) (l:List UInt8) (x:Int) (D:List AV) (j:List Nd) (B:k<2^62) (g:h<2^62) (f:qL<4611686018427387904) (i:c≤h) (r:(List.drop ((Int.toNat (k:Int))*1) (iL b))= [AV.int .i64 x]++D) (h0:(Nat.ble (k+1) 1099511627776)=true) (F:(Nat.ble (k*5) (List.length (aI j)))=true) (n:lit false d=true) (o:lit true e=true) (y:lit false (decide ((h:Int)<(c:Int)))=true) (z:lit false ((c:Int)==((0:Nat):Int))=true) (s:(decide (((0:Nat):Int)≤(k:Int)))=true) (u:(decide ((k:Int)<(b.length:Int)))=true) (p:lit true (decide ((k:Int)<((30:Nat):Int)))=true) (w:lit true (decide ((k:Int)<(b.length:Int)))=true) (q:CO 29 [.int .i64 x,.int .i64 24] (.ret (.int .i64 (qL:Int)))) (A:CO 30 [.int .i64 (((1+qL):Nat):Int)] (.ret (.int .i64 (c:Int)))) (E:CO 32 [.int .i64 (((1+qL):Nat):Int)] (.ret (.bool e))) (t:CO 33 [.int .i64 (IntKind.wrap .i64 (Int.tdiv x ((24:Nat):Int)))] (.ret (.str l))) (C:CO 34 [.int .i64 (((1+qL):Nat):Int)] (.ret (.bool d))):aj prog ap [] nt (ae 0 (af f11)) ⟨[(0,.sl (iL b) b.length m),(3,.ref 0 0 0 k),(4,.int .i64 (h:Int)),(5,.int .i64 (k:Int))],[(0,⟨(aI j),0,false,0,5,true⟩)],.dead,[]⟩ (.normal) ⟨[(0,.sl (iL b) b.length m),(3,.ref 0 0 0 (k+1)),(4,.int .i64 (((h - c+1):Nat):Int)),(5,.int .i64 (((k+1):Nat):Int))],[(0,⟨((List.take (k*5) (aI j))++ [.int .i64 (((1+qL):Nat):Int),.bool false,.str [],.str [],.str l]),0,false,0,5,true⟩)],.dead,[]⟩:=pN 11 [] 6 19 (.k 1 h0 (.c F (.k 6 n (.k 2 o (.k 1 y (.c z (.k 1 s (.c u (.c p (.c w .nil)))))))))) (.v 19 (.eq (Jm B)) (.v 68 (.eq (Jm (lms (a:=c) g))) (.v 67 (.eq (wms i g)) (.c C (.c t (.c E (.c A (.v 26 (.eq (Ha f)) (.c q (.v 22 (.ppt r) .nil)))))))))) v
theorem akw {nt:Nat} (u:85≤nt) (b:List Int) (l:Bool) (k h qL c:Nat) (e d:Bool) (w:RQ) (x:Int) (D:List AV) (j:List Nd) (B:k<2^62) (g:h<2^62) (f:qL<4611686018427387904) (i:c≤h) (q:(List.drop ((Int.toNat (k:Int))*1) (iL b))= [AV.int .i64 x]++D) (h0:(Nat.ble (k+1) 1099511627776)=true) (F:(Nat.ble (k*5) (List.length (aI j)))=true) (m:lit true d=true) (n:lit false e=true) (y:lit false (decide ((h:Int)<(c:Int)))=true) (z:lit false ((c:Int)==((0:Nat):Int))=true) (r:(decide (((0:Nat):Int)≤(k:Int)))=true) (t:(decide ((k:Int)<(b.length:Int)))=true) (o:lit true (decide ((k:Int)<((30:Nat):Int)))=true) (v:lit true (decide ((k:Int)<(b.length:Int)))=true) (p:CO 29 [.int .i64 x,.int .i64 24] (.ret (.int .i64 (qL:Int)))) (A:CO 30 [.int .i64 (((1+qL):Nat):Int)] (.ret (.int .i64 (c:Int)))) (E:CO 32 [.int .i64 (((1+qL):Nat):Int)] (.ret (.bool e))) (s:CO 34 [.int .i64 (((1+qL):Nat):Int)] (.ret (.bool d))) (C:CO 35 [.agg [.int .i64 (IntKind.wrap .i64 (Int.tdiv x ((24:Nat):Int))),.int .i64 (IntKind.wrap .i64 (Int.tdiv x ((48:Nat):Int))),.int .i64 3]] (.ret (.agg [.bool w.neg,.str (ag w.n),.str (ag w.d)]))):aj prog ap [] nt (ae 0 (af f11)) ⟨[(0,.sl (iL b) b.length l),(3,.ref 0 0 0 k),(4,.int .i64 (h:Int)),(5,.int .i64 (k:Int))],[(0,⟨(aI j),0,false,0,5,true⟩)],.dead,[]⟩ (.normal) ⟨[(0,.sl (iL b) b.length l),(3,.ref 0 0 0 (k+1)),(4,.int .i64 (((h - c+1):Nat):Int)),(5,.int .i64 (((k+1):Nat):Int))],[(0,⟨((List.take (k*5) (aI j))++ [.int .i64 (((1+qL):Nat):Int),.bool w.neg,.str (ag w.n),.str (ag w.d),.str []]),0,false,0,5,true⟩)],.dead,[]⟩:=pN 11 [] 6 35 (.k 1 h0 (.c F (.k 9 m (.c n (.k 1 y (.c z (.k 1 r (.c t (.c o (.c v .nil)))))))))) (.v 19 (.eq (Jm B)) (.v 68 (.eq (Jm (lms (a:=c) g))) (.v 67 (.eq (wms i g)) (.c C (.c s (.c E (.c A (.v 26 (.eq (Ha f)) (.c p (.v 22 (.ppt q) .nil)))))))))) u
theorem akx {nt:Nat} (u:85≤nt) (b:List Int) (l:Bool) (k h qL c:Nat) (e d:Bool) (x:Int) (B:List AV) (j:List Nd) (A:k<2^62) (g:h<2^62) (f:qL<4611686018427387904) (i:c≤h) (q:(List.drop ((Int.toNat (k:Int))*1) (iL b))= [AV.int .i64 x]++B) (h0:(Nat.ble (k+1) 1099511627776)=true) (D:(Nat.ble (k*5) (List.length (aI j)))=true) (m:lit false d=true) (n:lit false e=true) (w:lit false (decide ((h:Int)<(c:Int)))=true) (y:lit false ((c:Int)==((0:Nat):Int))=true) (r:(decide (((0:Nat):Int)≤(k:Int)))=true) (t:(decide ((k:Int)<(b.length:Int)))=true) (o:lit true (decide ((k:Int)<((30:Nat):Int)))=true) (v:lit true (decide ((k:Int)<(b.length:Int)))=true) (p:CO 29 [.int .i64 x,.int .i64 24] (.ret (.int .i64 (qL:Int)))) (z:CO 30 [.int .i64 (((1+qL):Nat):Int)] (.ret (.int .i64 (c:Int)))) (C:CO 32 [.int .i64 (((1+qL):Nat):Int)] (.ret (.bool e))) (s:CO 34 [.int .i64 (((1+qL):Nat):Int)] (.ret (.bool d))):aj prog ap [] nt (ae 0 (af f11)) ⟨[(0,.sl (iL b) b.length l),(3,.ref 0 0 0 k),(4,.int .i64 (h:Int)),(5,.int .i64 (k:Int))],[(0,⟨(aI j),0,false,0,5,true⟩)],.dead,[]⟩ (.normal) ⟨[(0,.sl (iL b) b.length l),(3,.ref 0 0 0 (k+1)),(4,.int .i64 (((h - c+1):Nat):Int)),(5,.int .i64 (((k+1):Nat):Int))],[(0,⟨((List.take (k*5) (aI j))++ [.int .i64 (((1+qL):Nat):Int),.bool false,.str [],.str [],.str []]),0,false,0,5,true⟩)],.dead,[]⟩:=pN 11 [] 6 3 (.k 1 h0 (.c D (.k 6 m (.c n (.k 1 w (.c y (.k 1 r (.c t (.c o (.c v .nil)))))))))) (.v 19 (.eq (Jm A)) (.v 68 (.eq (Jm (lms (a:=c) g))) (.v 67 (.eq (wms i g)) (.c s (.c C (.c z (.v 26 (.eq (Ha f)) (.c p (.v 22 (.ppt q) .nil))))))))) u
theorem aky {nt:Nat} (e:85≤nt) (a:List Int) (d:Bool) (k b:Nat) (c:List Nd) (h0:lit false (decide ((k:Int)<((30:Nat):Int)))=true) (f:lit true (decide ((k:Int)<(a.length:Int)))=true):aj prog ap [] nt (ae 0 (af f11)) ⟨[(0,.sl (iL a) a.length d),(3,.ref 0 0 0 k),(4,.int .i64 (b:Int)),(5,.int .i64 (k:Int))],[(0,⟨(aI c),0,false,0,5,true⟩)],.dead,[]⟩ (.exit 0) ⟨[(3,.ref 0 0 0 k),(4,.int .i64 (b:Int))],[(0,⟨(aI c),0,false,0,5,true⟩)],.dead,[]⟩:=pN 11 [] 2 1 (.c h0 (.c f .nil)) (.nil) e
theorem akz {nt:Nat} (e:85≤nt) (a:List Int) (d:Bool) (k b:Nat) (c:List Nd) (h0:lit false (decide ((k:Int)<(a.length:Int)))=true):aj prog ap [] nt (ae 0 (af f11)) ⟨[(0,.sl (iL a) a.length d),(3,.ref 0 0 0 k),(4,.int .i64 (b:Int)),(5,.int .i64 (k:Int))],[(0,⟨(aI c),0,false,0,5,true⟩)],.dead,[]⟩ (.exit 0) ⟨[(3,.ref 0 0 0 k),(4,.int .i64 (b:Int))],[(0,⟨(aI c),0,false,0,5,true⟩)],.dead,[]⟩:=pN 11 [] 2 0 (.k 1 h0 .nil) (.nil) e
theorem Fb {k n:Nat} (h:n≤k):decide ((k:Int)<(n:Int))=false:=decide_eq_false (by omega)
def apN (os:List Nd) (k:Nat):AV:=match os with| []=> .nilS|_::_=> .ref 0 0 0 k
def hpN (os:List Nd):Hp:=match os with| []=> []|a::r=> [(0,⟨aI (a::r),0,false,0,5,true⟩)]
def abJ (xs:List Int) (nn:Bool) (p:Nat × List Nd × Nat):St:=⟨[(0,.sl (iL xs) xs.length nn),(3,apN p.2.1 p.1),(4,.int .i64 (p.2.2:Int)),(5,.int .i64 (p.1:Int))],hpN p.2.1,.dead,[]⟩
def akq (p:Nat × List Nd × Nat):St:=⟨[(3,apN p.2.1 p.1),(4,.int .i64 (p.2.2:Int))],hpN p.2.1,.dead,[]⟩
structure PY (os:List Nd) (dp:Nat):Prop where
 sm:∀ x ∈ os,x.sm
 ck:jl os 0= .inl dp
theorem JE {y:Nd} (a:aJ y=0):∀ (os:List Nd) (d e:Nat),jl os d= .inl e→dL y.op≤e→jl (os++ [y]) d= .inl (e - dL y.op+1)
 | [],d,e,h,ha=>by
  simp only [jl,Sum.inl.injEq] at h
  subst h
  simp only [List.nil_append,jl,if_pos a]
  rw [if_neg (by omega)]
 | x::r,d,e,h,ha=>by
  simp only [List.cons_append,jl] at h ⊢
  split at h
  ·rename_i b
   rw [if_pos b]
   split at h
   ·cases h
   ·rename_i c
    rw [if_neg c]
    exact JE a r _ e h ha
  ·cases h
theorem IE:∀ (a:List Nd) (d e:Nat),jl a d= .inl e→e≤d+a.length∧(a ≠ []→1≤e)
 | [],d,e,h=>by
  simp only [jl,Sum.inl.injEq] at h
  subst h
  exact ⟨by simp,by simp⟩
 | x::r,d,e,h=>by
  simp only [jl] at h
  split at h
  ·split at h
   ·cases h
   ·obtain ⟨c,b⟩:=IE r _ e h
    refine ⟨by simp only [List.length_cons];omega,fun _=> ?_⟩
    cases r with
    |nil=>simp only [jl,Sum.inl.injEq] at h;omega
    |cons _ _=>exact b (by simp)
  ·cases h
theorem PY.snoc {c:List Nd} {b:Nat} (h:PY c b) {y:Nd} (hs:y.sm) (e:aJ y=0) (d:dL y.op≤b):PY (c++ [y]) (b - dL y.op+1):=by
 refine ⟨fun x a=> ?_,JE e c 0 b h.ck d⟩
 rcases List.mem_append.1 a with a|a
 ·exact h.sm x a
 ·rw [List.mem_singleton] at a;subst a;exact hs
theorem uS {a:List Nd} {k:Nat} (h:a.length=k) (y:Nd):List.take (k*5) (aI a)++ [AV.int .i64 y.op,.bool y.neg,.str y.num,.str y.den,.str y.name]=aI (a++ [y]):=by
 rw [List.take_of_length_le (by rw [lG];omega),O9]
 rfl
theorem UK (l:List Int) (p:Bool) (n:List Nd) (k c:Nat) (v:PY n c) (m:n.length=k) (g:k<30) (b:k<l.length):
  ∃ (y:Nd) (dp':Nat),PY (n++ [y]) dp'∧∀ nt,85≤nt→aj prog ap [] nt (ae 0 (af f11)) (abJ l p (k,n,c)) .normal (abJ l p (k+1,n++ [y],dp')):=by
 obtain ⟨L,_⟩:=IE n 0 c v.ck
 have f:c<2^62:=by omega
 have q:=XD b
 generalize l.getD k 0=x at q
 have e:=dY x 24 (by omega) (by omega)
 have O:aN x 24<24:=eQ (by omega)
 have d:=Hu ((1+aN x 24:Nat):Int)
 have s:=IG ((1+aN x 24:Nat):Int)
 have t:=Bg ((1+aN x 24:Nat):Int)
 obtain ⟨y,A,C,z,cy⟩:=XR (IntKind.wrap .i64 (Int.tdiv x ((24:Nat):Int)))
 have hleaf:PY (n++ [y]) (c+1):=by
  have:=v.snoc A C (by omega)
  rwa [z,Nat.sub_zero] at this
 by_cases e0:dL ((1+aN x 24:Nat):Int)=0
 ·refine ⟨y,c+1,hleaf,fun nt j=> ?_⟩
  cases n with
  |nil=>
   simp only [List.length_nil] at m
   subst m
   exact akA j l p 0 c (aN x 24) (dL ((1+aN x 24:Nat):Int)) y x _ (by omega) f (by omega) q (aC (FO e0)) (IJ 0) (iK b) (aC (iK g)) (aC (iK b)) e d cy
  |cons a r=>
   have h:=uS m y
   have i:=akt j l p k c (aN x 24) (dL ((1+aN x 24:Nat):Int)) y x _ (a::r) (by omega) f (by omega) q (Nat.ble_eq_true_of_le (by omega)) (Nat.ble_eq_true_of_le (by rw [lG];omega)) (aC (FO e0)) (IJ k) (iK b) (aC (iK g)) (aC (iK b)) e d cy
   rw [h] at i
   exact i
 ·by_cases o:c<dL ((1+aN x 24:Nat):Int)
  ·refine ⟨y,c+1,hleaf,fun nt j=> ?_⟩
   cases n with
   |nil=>
    simp only [List.length_nil] at m
    subst m
    exact akB j l p 0 c (aN x 24) (dL ((1+aN x 24:Nat):Int)) y x _ (by omega) f (by omega) q (aC (iK o)) (aB (oH e0)) (IJ 0) (iK b) (aC (iK g)) (aC (iK b)) e d cy
   |cons a r=>
    have h:=uS m y
    have i:=aku j l p k c (aN x 24) (dL ((1+aN x 24:Nat):Int)) y x _ (a::r) (by omega) f (by omega) q (Nat.ble_eq_true_of_le (by omega)) (Nat.ble_eq_true_of_le (by rw [lG];omega)) (aC (iK o)) (aB (oH e0)) (IJ k) (iK b) (aC (iK g)) (aC (iK b)) e d cy
    rw [h] at i
    exact i
  ·have o:dL ((1+aN x 24:Nat):Int)≤c:=by omega
   cases n with
   |nil=>
    exfalso
    have:=v.ck
    simp only [jl,Sum.inl.injEq] at this
    omega
   | cons a r=>
    have m:=m
    rcases tf (gG ((1+aN x 24:Nat):Int)) with e2|e2
    ·have K:=IW (IntKind.wrap .i64 (Int.tdiv x ((24:Nat):Int)))
     have hp:=GH (aN (IntKind.wrap .i64 (Int.tdiv x ((24:Nat):Int))) 6) (eQ (by omega))
     generalize KL (aN (IntKind.wrap .i64 (Int.tdiv x ((24:Nat):Int))) 6)=nm at*
     have B:=of_decide_eq_true e2
     have u:pU ((1+aN x 24:Nat):Int)=false:=decide_eq_false (by omega)
     refine ⟨⟨((1+aN x 24:Nat):Int),false,[],[],nm⟩,_,v.snoc ⟨by simp,by simp⟩ (EM (by omega) hp) o,fun nt j=> ?_⟩
     have h:=uS m ⟨((1+aN x 24:Nat):Int),false,[],[],nm⟩
     have i:=akv j l p k c (aN x 24) (dL ((1+aN x 24:Nat):Int)) (gG ((1+aN x 24:Nat):Int)) (pU ((1+aN x 24:Nat):Int)) nm x _ (a::r) (by omega) f (by omega) (by omega) q (Nat.ble_eq_true_of_le (by omega)) (Nat.ble_eq_true_of_le (by rw [lG];omega)) (aB u) (aC e2) (aB (Fb o)) (aB (oH e0)) (IJ k) (iK b) (aC (iK g)) (aC (iK b)) e d s K t
     rw [h] at i
     exact i
    ·rcases tf (pU ((1+aN x 24:Nat):Int)) with u|u
     ·obtain ⟨w,H,N,I,G,F,M⟩:=VL (IntKind.wrap .i64 (Int.tdiv x ((24:Nat):Int))) (IntKind.wrap .i64 (Int.tdiv x ((48:Nat):Int)))
      have E:=of_decide_eq_true u
      refine ⟨⟨((1+aN x 24:Nat):Int),w.neg,ag w.n,ag w.d,[]⟩,_,v.snoc ⟨dh G,dh F⟩ (Ov (by omega) H N I G F) o,fun nt j=> ?_⟩
      have h:=uS m ⟨((1+aN x 24:Nat):Int),w.neg,ag w.n,ag w.d,[]⟩
      have i:=akw j l p k c (aN x 24) (dL ((1+aN x 24:Nat):Int)) (gG ((1+aN x 24:Nat):Int)) (pU ((1+aN x 24:Nat):Int)) w x _ (a::r) (by omega) f (by omega) (by omega) q (Nat.ble_eq_true_of_le (by omega)) (Nat.ble_eq_true_of_le (by rw [lG];omega)) (aC u) (aB e2) (aB (Fb o)) (aB (oH e0)) (IJ k) (iK b) (aC (iK g)) (aC (iK b)) e d s t M
      rw [h] at i
      exact i
     ·have B:=of_decide_eq_false e2
      have E:=of_decide_eq_false u
      have D:9≤((1+aN x 24:Nat):Int)∧((1+aN x 24:Nat):Int)≤20:=by
       have:¬ ((1+aN x 24:Nat):Int)<9:=by
        intro J
        apply e0
        unfold dL
        rw [if_neg (by omega),if_neg (by omega),if_neg (by omega)]
       omega
      refine ⟨⟨((1+aN x 24:Nat):Int),false,[],[],[]⟩,_,v.snoc ⟨by simp,by simp⟩ (LM D) o,fun nt j=> ?_⟩
      have h:=uS m ⟨((1+aN x 24:Nat):Int),false,[],[],[]⟩
      have i:=akx j l p k c (aN x 24) (dL ((1+aN x 24:Nat):Int)) (gG ((1+aN x 24:Nat):Int)) (pU ((1+aN x 24:Nat):Int)) x _ (a::r) (by omega) f (by omega) (by omega) q (Nat.ble_eq_true_of_le (by omega)) (Nat.ble_eq_true_of_le (by rw [lG];omega)) (aB u) (aB e2) (aB (Fb o)) (aB (oH e0)) (IJ k) (iK b) (aC (iK g)) (aC (iK b)) e d s t
      rw [h] at i
      exact i
theorem Yb (f:List Int) (l:Bool):∀ (d k:Nat) (c:List Nd) (e:Nat),k+d=min f.length 30→c.length=k→PY c e→
  ∃ (b:List Nd) (g:Nat),PY b g∧b.length=min f.length 30∧∀ nt,85≤nt→aF prog ap [] nt (ae 0 (af f11)) (fun _=> .exit 0) (abJ f l) akq (k,c,e) (b.length,b,g):=by
 intro d
 induction d with
 | zero=>
  intro k c e t j m
  refine ⟨c,e,m,by omega,fun nt i=> ?_⟩
  rw [j]
  refine .done ?_
  obtain ⟨q,_⟩:=IE c 0 e m.ck
  have u:e<2^62:=by omega
  by_cases h:f.length≤k
  ·cases c with
   |nil=>exact akC i f l k e (aB (Fb h))
   |cons a r=>exact akz i f l k e (a::r) (aB (Fb h))
  ·have o:30≤k:=by omega
   have h:k<f.length:=by omega
   cases c with
   |nil=>simp only [List.length_nil] at j;omega
   |cons a r=>exact aky i f l k e (a::r) (aB (Fb o)) (aC (iK h))
 |succ d ih=>
  intro k c e t j m
  obtain ⟨y,n,v,p⟩:=UK f l c k e m j (by omega) (by omega)
  obtain ⟨b,g,s,w,x⟩:=ih (k+1) (c++ [y]) n (by omega) (by simp [j]) v
  exact ⟨b,g,s,w,fun nt i=> .next (p nt i) (x nt i)⟩
theorem anK {nt:Nat} (f:85≤nt) (k a:Nat) (b:List Nd) (c:a<2^62) (d:1≤a) (h0:(Nat.ble (k+1) 1099511627776)=true) (g:(Nat.ble (k*5) (List.length (aI b)))=true) (e:lit true (decide (((1:Nat):Int)<(a:Int)))=true):aj prog ap [] nt (ae 2 (af f11)) ⟨[(3,.ref 0 0 0 k),(4,.int .i64 (a:Int))],[(0,⟨(aI b),0,false,0,5,true⟩)],.dead,[]⟩ (.normal) ⟨[(3,.ref 0 0 0 (k+1)),(4,.int .i64 (((a - 1):Nat):Int))],[(0,⟨((List.take (k*5) (aI b))++ [.int .i64 9,.bool false,.str [],.str [],.str []]),0,false,0,5,true⟩)],.dead,[]⟩:=pN 11 [] 1 1 (.k 1 h0 (.c g (.k 1 e .nil))) (.v 83 (.eq (wms d c)) .nil) f
theorem anL {nt:Nat} (c:85≤nt) (k a:Nat) (b:List Nd) (h0:lit false (decide (((1:Nat):Int)<(a:Int)))=true):aj prog ap [] nt (ae 2 (af f11)) ⟨[(3,.ref 0 0 0 k),(4,.int .i64 (a:Int))],[(0,⟨(aI b),0,false,0,5,true⟩)],.dead,[]⟩ (.exit 2) ⟨[(3,.ref 0 0 0 k)],[(0,⟨(aI b),0,false,0,5,true⟩)],.dead,[]⟩:=pN 11 [] 1 0 (.c h0 .nil) (.nil) c
theorem akp (a:List Int) (b:Bool) (d:aH prog ap [] 85 (.block 0 (.loop (ae 0 (af f11)))) ⟨[(0,.sl (iL a) a.length b),(2,.nilS),(3,.nilS),(4,.int .i64 0),(5,.int .i64 0),(6,.dead),(7,.dead),(8,.dead),(9,.dead),(17,.dead),(35,.dead),(47,.dead),(53,.dead),(70,.dead),(77,.dead)],[],.dead,[]⟩ (.normal) ⟨[(3,.nilS),(4,.int .i64 0)],[],.dead,[]⟩) (c:CO 36 [.int .i64 1] (.ret (.agg [.bool false,.str (ag 1),.str (ag 1)]))):CO 11 [.sl (iL a) a.length b] (.ret (.own [.int .i64 3,.bool false,.str (ag 1),.str (ag 1),.str []] 1 5)):=pK [0] 3 1 (.n 5 .nil) (.c c (.l d .nil))
theorem ako (a:List Int) (e:Bool) (k b k2:Nat) (c d:List Nd) (h0:((b:Int)==((0:Nat):Int))=false) (g:aH prog ap [] 85 (.block 0 (.loop (ae 0 (af f11)))) ⟨[(0,.sl (iL a) a.length e),(2,.nilS),(3,.nilS),(4,.int .i64 0),(5,.int .i64 0),(6,.dead),(7,.dead),(8,.dead),(9,.dead),(17,.dead),(35,.dead),(47,.dead),(53,.dead),(70,.dead),(77,.dead)],[],.dead,[]⟩ (.normal) ⟨[(3,.ref 0 0 0 k),(4,.int .i64 (b:Int))],[(0,⟨(aI c),0,false,0,5,true⟩)],.dead,[]⟩) (f:aH prog ap [] 85 (.block 2 (.loop (ae 2 (af f11)))) ⟨[(0,.dead),(2,.dead),(3,.ref 0 0 0 k),(4,.int .i64 (b:Int)),(5,.dead),(6,.dead),(7,.dead),(8,.dead),(9,.dead),(17,.dead),(35,.dead),(47,.dead),(53,.dead),(70,.bool ((b:Int)==((0:Nat):Int))),(77,.dead)],[(0,⟨(aI c),0,false,0,5,true⟩)],.dead,[]⟩ (.normal) ⟨[(3,.ref 0 0 0 k2)],[(0,⟨(aI d),0,false,0,5,true⟩)],.dead,[]⟩):CO 11 [.sl (iL a) a.length e] (.ret (.own (List.take (k2*5) (aI d)) k2 5)):=pK [0,2] 1 0 (.c (aB h0) .nil) (.l f (.l g .nil))
def anJ (p:Nat × List Nd × Nat):St:=⟨[(3,.ref 0 0 0 p.1),(4,.int .i64 (p.2.2:Int))],[(0,⟨aI p.2.1,0,false,0,5,true⟩)],.dead,[]⟩
def adZ (p:Nat × List Nd):St:=⟨[(3,.ref 0 0 0 p.1)],[(0,⟨aI p.2,0,false,0,5,true⟩)],.dead,[]⟩
def oz:Nd:=⟨9,false,[],[],[]⟩
theorem WB {nt:Nat} (d:85≤nt):∀ (j k:Nat) (a:List Nd),a.length=k→k+j<2^40→
  aF prog ap [] nt (ae 2 (af f11)) (fun _=> .exit 2) anJ adZ (k,a,j+1) (k+j,a++List.replicate j oz):=by
 intro j
 induction j with
 |zero=>
  intro k a b e
  rw [List.replicate_zero,List.append_nil]
  exact .done (anL d k 1 a (aB (Fb (Nat.le_refl 1))))
 |succ j ih=>
  intro k a b e
  have h:=ih (k+1) (a++ [oz]) (by simp [b]) (by omega)
  rw [show k+1+j=k+(j+1) by omega,List.append_assoc,show [oz]++List.replicate j oz=List.replicate (j+1) oz from rfl] at h
  refine .next ?_ h
  have c:=anK d k (j+1+1) a (by omega) (by omega) (Nat.ble_eq_true_of_le (by omega)) (Nat.ble_eq_true_of_le (by rw [lG];omega)) (aC (iK (by omega)))
  rw [show List.take (k*5) (aI a)++ [AV.int .i64 9,.bool false,.str [],.str [],.str []]=aI (a++ [oz]) from uS b oz,show j+1+1 - 1=j+1 from rfl] at c
  exact c
theorem PY.adds:∀ (j:Nat),∀ {os:List Nd},PY os (j+1)→PY (os++List.replicate j oz) 1
 |0,os,h=>by rw [List.replicate_zero,List.append_nil];exact h
 |j+1,os,h=>by
  have b:=h.snoc (y:=oz) ⟨by simp [oz],by simp [oz]⟩ (LM ⟨by decide,by decide⟩) (by show 2≤_;omega)
  have a:=PY.adds j b
  rw [List.append_assoc] at a
  exact a
theorem QC (f:List Int) (i:Bool):∃ e:List Nd,e ≠ []∧e.length≤2*min f.length 30+1∧e.length<60∧dG e=0∧(∀ x ∈ e,x.sm)∧CO 11 [.sl (iL f) f.length i] (.ret (.own (aI e) e.length 5)):=by
 obtain ⟨b,k,o,u,m⟩:=Yb f i (min f.length 30) 0 [] 0 (by omega) rfl ⟨by simp,rfl⟩
 obtain ⟨q,g⟩:=IE b 0 k o.ck
 rcases Nat.eq_zero_or_pos b.length with h0|hp
 ·have:b= []:=List.length_eq_zero_iff.1 h0
  subst this
  have l:k=0:=by simpa using q
  subst l
  have h:=akp f i (aF.blk m (by simp) rfl (aK.of ⟨rfl,rfl,rfl,rfl,trivial⟩) (aK.of ⟨rfl,rfl,trivial⟩)) (yl 1 (by omega))
  refine ⟨[⟨3,false,ag 1,ag 1,[]⟩],by simp,by simp,by simp, ?_, ?_,h⟩
  ·have t:aJ ⟨3,false,ag 1,ag 1,[]⟩=0:=Hf (w:=⟨false,1,1⟩) (.inr (.inr rfl)) ⟨by decide,by decide,by simp⟩ (by decide) (by decide)
   unfold dG
   simp only [jl,t]
   rfl
  ·intro x n
   rw [List.mem_singleton] at n
   subst n
   exact ⟨dh (by decide),dh (by decide)⟩
 ·have d:b ≠ []:=fun h=>by subst h;simp at hp
  have g:=g d
  obtain ⟨j,rfl⟩:∃ j,k=j+1:=⟨k - 1,by omega⟩
  have p:=PY.adds j o
  have c:(b++List.replicate j oz).length=b.length+j:=by simp
  have h:=ako f i b.length (j+1) (b.length+j) b (b++List.replicate j oz) (oH (by omega))
   (aF.blk m (by simp) rfl (aK.of ⟨rfl,rfl,rfl,rfl,trivial⟩) (by
    cases b with
    |nil=>exact absurd rfl d
    |cons a r=>exact aK.of ⟨rfl,rfl,trivial⟩))
   (aF.blk (fun nt s=>WB s j b.length b rfl (by omega)) (by simp) rfl (aK.of ⟨rfl,rfl,trivial⟩) (aK.of ⟨rfl,trivial⟩))
  rw [List.take_of_length_le (by rw [lG,c];omega)] at h
  refine ⟨b++List.replicate j oz,by simp [d],by rw [c];omega,by rw [c];omega, ?_,p.sm,by rw [c];exact h⟩
  unfold dG
  rw [if_neg (by rw [c];omega),p.ck]
  rfl
def tL (l:List (Int × Int × Int)):List AV:=l.flatMap fun q=> [.int .i64 q.1,.int .i64 q.2.1,.int .i64 q.2.2]
theorem Y8 {l:List (Int × Int × Int)} {k:Nat} (h:k<l.length):List.drop (Int.toNat (k:Int)*3) (tL l)= [AV.int .i64 (l.getD k (0,0,0)).1,.int .i64 (l.getD k (0,0,0)).2.1,.int .i64 (l.getD k (0,0,0)).2.2]++tL (l.drop (k+1)):=by
 rw [aA]
 induction l generalizing k with
 |nil=>simp at h
 | cons x r ih=>
  cases k with
  |zero=>simp [tL]
  |succ k=>
   have a:k<r.length:=by simpa using h
   have:=ih a
   show List.drop ((k+1)*3) ([AV.int .i64 x.1,.int .i64 x.2.1,.int .i64 x.2.2]++tL r)=_
   rw [show (k+1)*3=3+k*3 by omega,← List.drop_drop,show List.drop 3 ([AV.int .i64 x.1,.int .i64 x.2.1,.int .i64 x.2.2]++tL r)=tL r from rfl,this]
   simp
theorem amA {nt:Nat} (f:77≤nt) (a:List (Int × Int × Int)) (d:Bool) (k:Nat) (e:List UInt8) (g c:List AV) (b:Nat):aj prog ap [] nt (uu 9 (af f12)) ⟨[(0,.sl (tL a) a.length d),(3,.nilS),(4,.int .i64 (k:Int)),(5,.ptr 0 0 0)],[(0,⟨[.str e,.int .i64 1,.int .i64 0,.sl c b false],0,false,0,0,true⟩)],.dead,[]⟩ (.normal) ⟨[(0,.sl (tL a) a.length d),(3,.ref 0 0 0 1),(4,.int .i64 (k:Int))],[(0,⟨[.str e,.int .i64 1,.int .i64 0,.sl c b false],0,false,0,4,true⟩)],.dead,[]⟩:=pN 12 [] 1 0 (.n 7 .nil) (.nil) f
theorem amz {nt:Nat} (h:77≤nt) (a:List (Int × Int × Int)) (e:Bool) (k:Nat) (f:List UInt8) (b d:List AV) (c:Nat) (h0:(Nat.ble (k+1) 1099511627776)=true) (g:(Nat.ble (k*4) (List.length b))=true):aj prog ap [] nt (uu 9 (af f12)) ⟨[(0,.sl (tL a) a.length e),(3,.ref 0 0 0 k),(4,.int .i64 (k:Int)),(5,.ptr 1 0 0)],[(0,⟨b,0,false,0,4,true⟩),(1,⟨[.str f,.int .i64 1,.int .i64 0,.sl d c false],0,false,0,0,true⟩)],.dead,[]⟩ (.normal) ⟨[(0,.sl (tL a) a.length e),(3,.ref 0 0 0 (k+1)),(4,.int .i64 (k:Int))],[(0,⟨((List.take (k*4) b)++ [.str f,.int .i64 1,.int .i64 0,.sl d c false]),0,false,0,4,true⟩)],.dead,[]⟩:=pN 12 [] 0 0 (.k 1 h0 (.c g (.n 5 .nil))) (.nil) h
theorem amG {nt:Nat} (o:77≤nt) (c:List (Int × Int × Int)) (g:Bool) (k k9:Nat) (a b:RQ) (f:List UInt8) (q:Int × Int × Int) (u:List AV) (s:k<2^62) (h:k9<4611686018427387904) (d:(List.drop ((Int.toNat (k:Int))*3) (tL c))= [AV.int .i64 q.1,.int .i64 q.2.1,.int .i64 q.2.2]++u) (h0:(decide (((0:Nat):Int)≤(k:Int)))=true) (e:(decide ((k:Int)<(c.length:Int)))=true) (i:lit true (!((Int.tmod q.2.2 ((3:Nat):Int))==((0:Nat):Int)))=true) (j:lit true (decide ((k:Int)<((6:Nat):Int)))=true) (p:lit true (decide ((k:Int)<(c.length:Int)))=true) (l:CO 33 [.int .i64 (k:Int)] (.ret (.str f))) (r:CO 36 [.int .i64 0] (.ret (.agg [.bool false,.str (ag 0),.str (ag 1)]))) (v:CO 19 [.agg [.int .i64 q.1,.int .i64 q.2.1,.int .i64 3]] (.ret (.agg [.bool a.neg,.str (ag a.n),.str (ag a.d)]))) (n:CO 29 [.int .i64 q.2.2,.int .i64 9] (.ret (.int .i64 (k9:Int)))) (t:CO 36 [.int .i64 (((1+k9):Nat):Int)] (.ret (.agg [.bool false,.str (ag (1+k9)),.str (ag 1)]))) (w:CO 19 [.agg [.int .i64 q.2.1,.int .i64 q.1,.int .i64 3]] (.ret (.agg [.bool b.neg,.str (ag b.n),.str (ag b.d)]))) (m:aH prog ap [] 77 (uu 9 (af f12)) ⟨[(0,.sl (tL c) c.length g),(2,.dead),(3,.nilS),(4,.int .i64 (k:Int)),(5,.ptr 0 0 0),(13,.bool (decide ((k:Int)<((6:Nat):Int)))),(45,.bool (!((Int.tmod q.2.2 ((3:Nat):Int))==((0:Nat):Int))))],[(0,⟨[.str f,.int .i64 1,.int .i64 0,.ref 1 0 0 2],0,false,0,0,false⟩),(1,⟨[.bool false,.str (ag 0),.str (ag 1),.bool a.neg,.str (ag a.n),.str (ag a.d),.bool false,.str (ag (1+k9)),.str (ag 1),.bool b.neg,.str (ag b.n),.str (ag b.d)],0,false,0,6,true⟩)],.dead,[]⟩ (.normal) ⟨[(0,.sl (tL c) c.length g),(3,.ref 0 0 0 1),(4,.int .i64 (k:Int))],[(0,⟨[.str f,.int .i64 1,.int .i64 0,.sl [.bool false,.str (ag 0),.str (ag 1),.bool a.neg,.str (ag a.n),.str (ag a.d),.bool false,.str (ag (1+k9)),.str (ag 1),.bool b.neg,.str (ag b.n),.str (ag b.d)] 2 false],0,false,0,4,true⟩)],.dead,[]⟩):aj prog ap [] nt (ae 0 (af f12)) ⟨[(0,.sl (tL c) c.length g),(3,.nilS),(4,.int .i64 (k:Int))],[],.dead,[]⟩ (.normal) ⟨[(0,.sl (tL c) c.length g),(3,.ref 0 0 0 1),(4,.int .i64 (((k+1):Nat):Int))],[(0,⟨[.str f,.int .i64 1,.int .i64 0,.sl [.bool false,.str (ag 0),.str (ag 1),.bool a.neg,.str (ag a.n),.str (ag a.d),.bool false,.str (ag (1+k9)),.str (ag 1),.bool b.neg,.str (ag b.n),.str (ag b.d)] 2 false],0,false,0,4,true⟩)],.dead,[]⟩:=pN 12 [1009] 4 11 (.k 8 h0 (.c e (.k 3 h0 (.c e (.k 3 h0 (.c e (.k 1 i (.k 4 h0 (.c e (.k 7 h0 (.c e (.k 3 h0 (.c e (.k 2 j (.c p .nil))))))))))))))) (.v 15 (.eq (Jm s)) (.l m (.c w (.v 63 (.ppt d) (.v 58 (.ppt d) (.c t (.v 54 (.eq (Ha h)) (.c n (.v 50 (.ppt d) (.v 41 (.ppt d) (.c v (.v 30 (.ppt d) (.v 25 (.ppt d) (.c r (.c l .nil))))))))))))))) o
theorem amH {nt:Nat} (l:77≤nt) (b:List (Int × Int × Int)) (d:Bool) (k:Nat) (a:RQ) (c:List UInt8) (q:Int × Int × Int) (p:List AV) (o:k<2^62) (f:(List.drop ((Int.toNat (k:Int))*3) (tL b))= [AV.int .i64 q.1,.int .i64 q.2.1,.int .i64 q.2.2]++p) (h0:lit false (!((Int.tmod q.2.2 ((3:Nat):Int))==((0:Nat):Int)))=true) (g:(decide (((0:Nat):Int)≤(k:Int)))=true) (e:(decide ((k:Int)<(b.length:Int)))=true) (h:lit true (decide ((k:Int)<((6:Nat):Int)))=true) (m:lit true (decide ((k:Int)<(b.length:Int)))=true) (i:CO 33 [.int .i64 (k:Int)] (.ret (.str c))) (n:CO 36 [.int .i64 0] (.ret (.agg [.bool false,.str (ag 0),.str (ag 1)]))) (r:CO 19 [.agg [.int .i64 q.1,.int .i64 q.2.1,.int .i64 3]] (.ret (.agg [.bool a.neg,.str (ag a.n),.str (ag a.d)]))) (j:aH prog ap [] 77 (uu 9 (af f12)) ⟨[(0,.sl (tL b) b.length d),(2,.dead),(3,.nilS),(4,.int .i64 (k:Int)),(5,.ptr 0 0 0),(13,.bool (decide ((k:Int)<((6:Nat):Int)))),(45,.bool (!((Int.tmod q.2.2 ((3:Nat):Int))==((0:Nat):Int))))],[(0,⟨[.str c,.int .i64 1,.int .i64 0,.ref 1 0 0 1],0,false,0,0,false⟩),(1,⟨[.bool false,.str (ag 0),.str (ag 1),.bool a.neg,.str (ag a.n),.str (ag a.d)],0,false,0,6,true⟩)],.dead,[]⟩ (.normal) ⟨[(0,.sl (tL b) b.length d),(3,.ref 0 0 0 1),(4,.int .i64 (k:Int))],[(0,⟨[.str c,.int .i64 1,.int .i64 0,.sl [.bool false,.str (ag 0),.str (ag 1),.bool a.neg,.str (ag a.n),.str (ag a.d)] 1 false],0,false,0,4,true⟩)],.dead,[]⟩):aj prog ap [] nt (ae 0 (af f12)) ⟨[(0,.sl (tL b) b.length d),(3,.nilS),(4,.int .i64 (k:Int))],[],.dead,[]⟩ (.normal) ⟨[(0,.sl (tL b) b.length d),(3,.ref 0 0 0 1),(4,.int .i64 (((k+1):Nat):Int))],[(0,⟨[.str c,.int .i64 1,.int .i64 0,.sl [.bool false,.str (ag 0),.str (ag 1),.bool a.neg,.str (ag a.n),.str (ag a.d)] 1 false],0,false,0,4,true⟩)],.dead,[]⟩:=pN 12 [1009] 4 3 (.c h0 (.k 4 g (.c e (.k 7 g (.c e (.k 3 g (.c e (.k 2 h (.c m .nil))))))))) (.v 15 (.eq (Jm o)) (.l j (.v 41 (.ppt f) (.c r (.v 30 (.ppt f) (.v 25 (.ppt f) (.c n (.c i .nil)))))))) l
theorem amI {nt:Nat} (c:77≤nt) (a:List (Int × Int × Int)) (b:Bool) (k:Nat) (h0:lit false (decide ((k:Int)<(a.length:Int)))=true):aj prog ap [] nt (ae 0 (af f12)) ⟨[(0,.sl (tL a) a.length b),(3,.nilS),(4,.int .i64 (k:Int))],[],.dead,[]⟩ (.exit 0) ⟨[(3,.nilS)],[],.dead,[]⟩:=pN 12 [1009] 2 0 (.k 1 h0 .nil) (.nil) c
theorem amB {nt:Nat} (p:77≤nt) (c:List (Int × Int × Int)) (g:Bool) (k k9:Nat) (a b:RQ) (f:List UInt8) (q:Int × Int × Int) (v:List AV) (h:List AV) (t:k<2^62) (i:k9<4611686018427387904) (d:(List.drop ((Int.toNat (k:Int))*3) (tL c))= [AV.int .i64 q.1,.int .i64 q.2.1,.int .i64 q.2.2]++v) (h0:(decide (((0:Nat):Int)≤(k:Int)))=true) (e:(decide ((k:Int)<(c.length:Int)))=true) (j:lit true (!((Int.tmod q.2.2 ((3:Nat):Int))==((0:Nat):Int)))=true) (l:lit true (decide ((k:Int)<((6:Nat):Int)))=true) (r:lit true (decide ((k:Int)<(c.length:Int)))=true) (m:CO 33 [.int .i64 (k:Int)] (.ret (.str f))) (s:CO 36 [.int .i64 0] (.ret (.agg [.bool false,.str (ag 0),.str (ag 1)]))) (w:CO 19 [.agg [.int .i64 q.1,.int .i64 q.2.1,.int .i64 3]] (.ret (.agg [.bool a.neg,.str (ag a.n),.str (ag a.d)]))) (o:CO 29 [.int .i64 q.2.2,.int .i64 9] (.ret (.int .i64 (k9:Int)))) (u:CO 36 [.int .i64 (((1+k9):Nat):Int)] (.ret (.agg [.bool false,.str (ag (1+k9)),.str (ag 1)]))) (x:CO 19 [.agg [.int .i64 q.2.1,.int .i64 q.1,.int .i64 3]] (.ret (.agg [.bool b.neg,.str (ag b.n),.str (ag b.d)]))) (n:aH prog ap [] 77 (uu 9 (af f12)) ⟨[(0,.sl (tL c) c.length g),(2,.dead),(3,.ref 0 0 0 k),(4,.int .i64 (k:Int)),(5,.ptr 1 0 0),(13,.bool (decide ((k:Int)<((6:Nat):Int)))),(45,.bool (!((Int.tmod q.2.2 ((3:Nat):Int))==((0:Nat):Int))))],[(0,⟨h,0,false,0,4,true⟩),(1,⟨[.str f,.int .i64 1,.int .i64 0,.ref 2 0 0 2],0,false,0,0,false⟩),(2,⟨[.bool false,.str (ag 0),.str (ag 1),.bool a.neg,.str (ag a.n),.str (ag a.d),.bool false,.str (ag (1+k9)),.str (ag 1),.bool b.neg,.str (ag b.n),.str (ag b.d)],0,false,0,6,true⟩)],.dead,[]⟩ (.normal) ⟨[(0,.sl (tL c) c.length g),(3,.ref 0 0 0 (k+1)),(4,.int .i64 (k:Int))],[(0,⟨((List.take (k*4) h)++ [.str f,.int .i64 1,.int .i64 0,.sl [.bool false,.str (ag 0),.str (ag 1),.bool a.neg,.str (ag a.n),.str (ag a.d),.bool false,.str (ag (1+k9)),.str (ag 1),.bool b.neg,.str (ag b.n),.str (ag b.d)] 2 false]),0,false,0,4,true⟩)],.dead,[]⟩):aj prog ap [] nt (ae 0 (af f12)) ⟨[(0,.sl (tL c) c.length g),(3,.ref 0 0 0 k),(4,.int .i64 (k:Int))],[(0,⟨h,0,false,0,4,true⟩)],.dead,[]⟩ (.normal) ⟨[(0,.sl (tL c) c.length g),(3,.ref 0 0 0 (k+1)),(4,.int .i64 (((k+1):Nat):Int))],[(0,⟨((List.take (k*4) h)++ [.str f,.int .i64 1,.int .i64 0,.sl [.bool false,.str (ag 0),.str (ag 1),.bool a.neg,.str (ag a.n),.str (ag a.d),.bool false,.str (ag (1+k9)),.str (ag 1),.bool b.neg,.str (ag b.n),.str (ag b.d)] 2 false]),0,false,0,4,true⟩)],.dead,[]⟩:=pN 12 [1009] 4 11 (.k 8 h0 (.c e (.k 3 h0 (.c e (.k 3 h0 (.c e (.k 1 j (.k 4 h0 (.c e (.k 7 h0 (.c e (.k 3 h0 (.c e (.k 2 l (.c r .nil))))))))))))))) (.v 15 (.eq (Jm t)) (.l n (.c x (.v 63 (.ppt d) (.v 58 (.ppt d) (.c u (.v 54 (.eq (Ha i)) (.c o (.v 50 (.ppt d) (.v 41 (.ppt d) (.c w (.v 30 (.ppt d) (.v 25 (.ppt d) (.c s (.c m .nil))))))))))))))) p
theorem amC {nt:Nat} (m:77≤nt) (b:List (Int × Int × Int)) (d:Bool) (k:Nat) (a:RQ) (c:List UInt8) (q:Int × Int × Int) (r:List AV) (e:List AV) (p:k<2^62) (g:(List.drop ((Int.toNat (k:Int))*3) (tL b))= [AV.int .i64 q.1,.int .i64 q.2.1,.int .i64 q.2.2]++r) (h0:lit false (!((Int.tmod q.2.2 ((3:Nat):Int))==((0:Nat):Int)))=true) (h:(decide (((0:Nat):Int)≤(k:Int)))=true) (f:(decide ((k:Int)<(b.length:Int)))=true) (i:lit true (decide ((k:Int)<((6:Nat):Int)))=true) (n:lit true (decide ((k:Int)<(b.length:Int)))=true) (j:CO 33 [.int .i64 (k:Int)] (.ret (.str c))) (o:CO 36 [.int .i64 0] (.ret (.agg [.bool false,.str (ag 0),.str (ag 1)]))) (s:CO 19 [.agg [.int .i64 q.1,.int .i64 q.2.1,.int .i64 3]] (.ret (.agg [.bool a.neg,.str (ag a.n),.str (ag a.d)]))) (l:aH prog ap [] 77 (uu 9 (af f12)) ⟨[(0,.sl (tL b) b.length d),(2,.dead),(3,.ref 0 0 0 k),(4,.int .i64 (k:Int)),(5,.ptr 1 0 0),(13,.bool (decide ((k:Int)<((6:Nat):Int)))),(45,.bool (!((Int.tmod q.2.2 ((3:Nat):Int))==((0:Nat):Int))))],[(0,⟨e,0,false,0,4,true⟩),(1,⟨[.str c,.int .i64 1,.int .i64 0,.ref 2 0 0 1],0,false,0,0,false⟩),(2,⟨[.bool false,.str (ag 0),.str (ag 1),.bool a.neg,.str (ag a.n),.str (ag a.d)],0,false,0,6,true⟩)],.dead,[]⟩ (.normal) ⟨[(0,.sl (tL b) b.length d),(3,.ref 0 0 0 (k+1)),(4,.int .i64 (k:Int))],[(0,⟨((List.take (k*4) e)++ [.str c,.int .i64 1,.int .i64 0,.sl [.bool false,.str (ag 0),.str (ag 1),.bool a.neg,.str (ag a.n),.str (ag a.d)] 1 false]),0,false,0,4,true⟩)],.dead,[]⟩):aj prog ap [] nt (ae 0 (af f12)) ⟨[(0,.sl (tL b) b.length d),(3,.ref 0 0 0 k),(4,.int .i64 (k:Int))],[(0,⟨e,0,false,0,4,true⟩)],.dead,[]⟩ (.normal) ⟨[(0,.sl (tL b) b.length d),(3,.ref 0 0 0 (k+1)),(4,.int .i64 (((k+1):Nat):Int))],[(0,⟨((List.take (k*4) e)++ [.str c,.int .i64 1,.int .i64 0,.sl [.bool false,.str (ag 0),.str (ag 1),.bool a.neg,.str (ag a.n),.str (ag a.d)] 1 false]),0,false,0,4,true⟩)],.dead,[]⟩:=pN 12 [1009] 4 3 (.c h0 (.k 4 h (.c f (.k 7 h (.c f (.k 3 h (.c f (.k 2 i (.c n .nil))))))))) (.v 15 (.eq (Jm p)) (.l l (.v 41 (.ppt g) (.c s (.v 30 (.ppt g) (.v 25 (.ppt g) (.c o (.c j .nil)))))))) m
theorem amD {nt:Nat} (d:77≤nt) (a:List (Int × Int × Int)) (c:Bool) (k:Nat) (b:List AV) (h0:lit false (decide ((k:Int)<((6:Nat):Int)))=true) (e:lit true (decide ((k:Int)<(a.length:Int)))=true):aj prog ap [] nt (ae 0 (af f12)) ⟨[(0,.sl (tL a) a.length c),(3,.ref 0 0 0 k),(4,.int .i64 (k:Int))],[(0,⟨b,0,false,0,4,true⟩)],.dead,[]⟩ (.exit 0) ⟨[(3,.ref 0 0 0 k)],[(0,⟨b,0,false,0,4,true⟩)],.dead,[]⟩:=pN 12 [1009] 2 1 (.c h0 (.c e .nil)) (.nil) d
theorem amE {nt:Nat} (d:77≤nt) (a:List (Int × Int × Int)) (c:Bool) (k:Nat) (b:List AV) (h0:lit false (decide ((k:Int)<(a.length:Int)))=true):aj prog ap [] nt (ae 0 (af f12)) ⟨[(0,.sl (tL a) a.length c),(3,.ref 0 0 0 k),(4,.int .i64 (k:Int))],[(0,⟨b,0,false,0,4,true⟩)],.dead,[]⟩ (.exit 0) ⟨[(3,.ref 0 0 0 k)],[(0,⟨b,0,false,0,4,true⟩)],.dead,[]⟩:=pN 12 [1009] 2 0 (.k 1 h0 .nil) (.nil) d
def spN (os:List Sq) (k:Nat):AV:=match os with| []=> .nilS|_::_=> .ref 0 0 0 k
def shN (os:List Sq):Hp:=match os with| []=> []|a::r=> [(0,⟨eX ((a::r).map Sq.c),0,false,0,4,true⟩)]
def ac8 (ts:List (Int × Int × Int)) (nn:Bool) (p:Nat × List Sq):St:=⟨[(0,.sl (tL ts) ts.length nn),(3,spN p.2 p.1),(4,.int .i64 (p.1:Int))],shN p.2,.dead,[]⟩
def amJ (p:Nat × List Sq):St:=⟨[(3,spN p.2 p.1)],shN p.2,.dead,[]⟩
theorem akD:ag 0= []:=h_
theorem abO:ag 1= [1]:=nS (s:= [1]) rfl
theorem atI {n:Nat} (h:1≤n∧n≤9):ag n= [UInt8.ofNat n]:=by
 obtain ⟨a,b⟩:=h
 match n,a,b with
 |1,_,_=>exact nS (s:= [1]) rfl
 |2,_,_=>exact nS (s:= [2]) rfl
 |3,_,_=>exact nS (s:= [3]) rfl
 |4,_,_=>exact nS (s:= [4]) rfl
 |5,_,_=>exact nS (s:= [5]) rfl
 |6,_,_=>exact nS (s:= [6]) rfl
 |7,_,_=>exact nS (s:= [7]) rfl
 |8,_,_=>exact nS (s:= [8]) rfl
 |9,_,_=>exact nS (s:= [9]) rfl
theorem PG {qs:List Sq} {k:Nat} (h:qs.length=k) (q:Sq):List.take (k*4) (eX (qs.map Sq.c))++ [AV.str q.nm,.int .i64 q.u1,.int .i64 q.u2,.sl (eG q.l) q.l.length false]=eX ((qs++ [q]).map Sq.c):=by
 rw [List.take_of_length_le (by rw [nP,List.length_map];omega),List.map_append]
 unfold eX
 rw [List.flatMap_append]
 rfl
theorem Z_ (a b:Int):∃ w:RQ,w.n<2^128∧w.d<2^128∧CO 19 [.agg [.int .i64 a,.int .i64 b,.int .i64 3]] (.ret (.agg [.bool w.neg,.str (ag w.n),.str (ag w.d)])):=by
 have h:=Dx a b 3 (fun h=>absurd h (by decide))
 obtain ⟨d,f⟩:=UH a b 3
 obtain ⟨c,e⟩:=NE (decide (a<((0:Nat):Int))) _ _ d f
 exact ⟨_,c,e,h⟩
def BO (w:RQ):Br:=⟨false,ag 0,ag 1,w.neg,ag w.n,ag w.d⟩
def P9 (n:Nat) (w:RQ):Br:=⟨false,ag n,ag 1,w.neg,ag w.n,ag w.d⟩
theorem ZH {w:RQ} (h:w.n<2^128) (a:w.d<2^128):(BO w).sm:=⟨⟨dh (x:=0) (by decide),dh (x:=1) (by decide)⟩,dh h,dh a⟩
theorem aea {n:Nat} (b:n<2^128) {w:RQ} (h:w.n<2^128) (a:w.d<2^128):(P9 n w).sm:=⟨⟨dh b,dh (x:=1) (by decide)⟩,dh h,dh a⟩
theorem auf (b:List UInt8) {w:RQ} (h:w.n<2^128) (a:w.d<2^128):Wl ⟨b,1,0,[BO w]⟩:=⟨BO w,ZH h a,rfl,akD,abO,.inl rfl⟩
theorem aug (d:List UInt8) {n:Nat} (a:1≤n∧n≤9) {w v:RQ} (h:w.n<2^128) (b:w.d<2^128) (k:v.n<2^128) (c:v.d<2^128):Wl ⟨d,1,0,[BO w,P9 n v]⟩:=
 ⟨BO w,ZH h b,rfl,akD,abO,.inr ⟨P9 n v,n,a.1,a.2,aea (by omega) k c,rfl,atI a,abO,rfl⟩⟩
theorem VC (d:List (Int × Int × Int)) (f:Bool) (qs:List Sq) (k:Nat) (i:qs.length=k) (n:k<6) (e:k<d.length) (w:∀ q ∈ qs,Wl q):
  ∃ q:Sq,Wl q∧∀ nt,77≤nt→aj prog ap [] nt (ae 0 (af f12)) (ac8 d f (k,qs)) .normal (ac8 d f (k+1,qs++ [q])):=by
 have l:=Y8 e
 generalize d.getD k (0,0,0)=q at l
 have m:=IW (k:Int)
 generalize KL (aN (k:Int) 6)=nm at m
 obtain ⟨b,s,t,cm1⟩:=Z_ q.1 q.2.1
 obtain ⟨c,u,v,cm2⟩:=Z_ q.2.1 q.1
 have p:=dY q.2.2 9 (by omega) (by omega)
 have x:aN q.2.2 9<9:=eQ (by omega)
 rcases tf (Int.tmod q.2.2 ((3:Nat):Int)==((0:Nat):Int)) with e0|e0
 ·refine ⟨⟨nm,1,0,[BO b]⟩,auf nm s t,fun nt g=> ?_⟩
  cases qs with
  |nil=>
   simp only [List.length_nil] at i
   subst i
   exact amH g d f 0 b nm q _ (by omega) l (aS e0) (IJ 0) (iK e) (aC (iK n)) (aC (iK e)) m (yl 0 (by omega)) cm1 (fun nt g=>aj.ahead 1 ⟨[.bool false,.str (ag 0),.str (ag 1),.bool b.neg,.str (ag b.n),.str (ag b.d)],0,false,0,6,true⟩ (en':= [(0,.sl (tL d) d.length f),(3,.nilS),(4,.int .i64 ((0:Nat):Int)),(5,.ptr 0 0 0)]) (hp':= [(0,⟨[.str nm,.int .i64 1,.int .i64 0,.sl [.bool false,.str (ag 0),.str (ag 1),.bool b.neg,.str (ag b.n),.str (ag b.d)] 1 false],0,false,0,0,true⟩)]) (amA g d f 0 nm [] [.bool false,.str (ag 0),.str (ag 1),.bool b.neg,.str (ag b.n),.str (ag b.d)] 1) (Nat.zero_le _) rfl ⟨Fz.same rfl,Fz.same rfl,Fz.same rfl,Fz.same rfl,trivial⟩ ⟨rfl,⟨rfl,rfl,rfl,rfl,.inr ⟨.cons (.same rfl) (.cons (.same rfl) (.cons (.same rfl) (.cons (.fit .ref (aZ.sl _ _ _)) .nil))),fun _=>rfl⟩⟩,by decide,rfl⟩)
  |cons a r=>
   generalize o:a::r=qs at*
   have h:List.take (k*4) (eX (qs.map Sq.c))++ [AV.str nm,.int .i64 1,.int .i64 0,.sl [.bool false,.str (ag 0),.str (ag 1),.bool b.neg,.str (ag b.n),.str (ag b.d)] 1 false]=eX (List.map Sq.c (qs++ [(⟨nm,1,0,[BO b]⟩:Sq)])):=PG i ⟨nm,1,0,[BO b]⟩
   have j:=amC g d f k b nm q _ (eX (qs.map Sq.c)) (by omega) l (aS e0) (IJ k) (iK e) (aC (iK n)) (aC (iK e)) m (yl 0 (by omega)) cm1 (fun nt g=>aj.ahead 2 ⟨[.bool false,.str (ag 0),.str (ag 1),.bool b.neg,.str (ag b.n),.str (ag b.d)],0,false,0,6,true⟩ (en':= [(0,.sl (tL d) d.length f),(3,.ref 0 0 0 k),(4,.int .i64 (k:Int)),(5,.ptr 1 0 0)]) (hp':= [(0,⟨eX (qs.map Sq.c),0,false,0,4,true⟩),(1,⟨[.str nm,.int .i64 1,.int .i64 0,.sl [.bool false,.str (ag 0),.str (ag 1),.bool b.neg,.str (ag b.n),.str (ag b.d)] 1 false],0,false,0,0,true⟩)]) (amz g d f k nm (eX (qs.map Sq.c)) [.bool false,.str (ag 0),.str (ag 1),.bool b.neg,.str (ag b.n),.str (ag b.d)] 1 (Nat.ble_eq_true_of_le (by omega)) (Nat.ble_eq_true_of_le (by rw [nP,List.length_map];omega))) (Nat.zero_le _) rfl ⟨Fz.same rfl,Fz.same rfl,Fz.same rfl,Fz.same rfl,trivial⟩ ⟨rfl,Ji.same rfl,by decide,rfl,⟨rfl,rfl,rfl,rfl,.inr ⟨.cons (.same rfl) (.cons (.same rfl) (.cons (.same rfl) (.cons (.fit .ref (aZ.sl _ _ _)) .nil))),fun _=>rfl⟩⟩,by decide,rfl⟩)
   rw [h] at j
   subst o
   exact j
 ·refine ⟨⟨nm,1,0,[BO b,P9 (1+aN q.2.2 9) c]⟩,aug nm (by omega) s t u v,fun nt g=> ?_⟩
  cases qs with
  |nil=>
   simp only [List.length_nil] at i
   subst i
   exact amG g d f 0 (aN q.2.2 9) b c nm q _ (by omega) (by omega) l (IJ 0) (iK e) (dJ e0) (aC (iK n)) (aC (iK e)) m (yl 0 (by omega)) cm1 p (yl (1+aN q.2.2 9) (by omega)) cm2 (fun nt g=>aj.ahead 1 ⟨[.bool false,.str (ag 0),.str (ag 1),.bool b.neg,.str (ag b.n),.str (ag b.d),.bool false,.str (ag (1+aN q.2.2 9)),.str (ag 1),.bool c.neg,.str (ag c.n),.str (ag c.d)],0,false,0,6,true⟩ (en':= [(0,.sl (tL d) d.length f),(3,.nilS),(4,.int .i64 ((0:Nat):Int)),(5,.ptr 0 0 0)]) (hp':= [(0,⟨[.str nm,.int .i64 1,.int .i64 0,.sl [.bool false,.str (ag 0),.str (ag 1),.bool b.neg,.str (ag b.n),.str (ag b.d),.bool false,.str (ag (1+aN q.2.2 9)),.str (ag 1),.bool c.neg,.str (ag c.n),.str (ag c.d)] 2 false],0,false,0,0,true⟩)]) (amA g d f 0 nm [] [.bool false,.str (ag 0),.str (ag 1),.bool b.neg,.str (ag b.n),.str (ag b.d),.bool false,.str (ag (1+aN q.2.2 9)),.str (ag 1),.bool c.neg,.str (ag c.n),.str (ag c.d)] 2) (Nat.zero_le _) rfl ⟨Fz.same rfl,Fz.same rfl,Fz.same rfl,Fz.same rfl,trivial⟩ ⟨rfl,⟨rfl,rfl,rfl,rfl,.inr ⟨.cons (.same rfl) (.cons (.same rfl) (.cons (.same rfl) (.cons (.fit .ref (aZ.sl _ _ _)) .nil))),fun _=>rfl⟩⟩,by decide,rfl⟩)
  |cons a r=>
   generalize o:a::r=qs at*
   have h:List.take (k*4) (eX (qs.map Sq.c))++ [AV.str nm,.int .i64 1,.int .i64 0,.sl [.bool false,.str (ag 0),.str (ag 1),.bool b.neg,.str (ag b.n),.str (ag b.d),.bool false,.str (ag (1+aN q.2.2 9)),.str (ag 1),.bool c.neg,.str (ag c.n),.str (ag c.d)] 2 false]=eX (List.map Sq.c (qs++ [(⟨nm,1,0,[BO b,P9 (1+aN q.2.2 9) c]⟩:Sq)])):=PG i ⟨nm,1,0,[BO b,P9 (1+aN q.2.2 9) c]⟩
   have j:=amB g d f k (aN q.2.2 9) b c nm q _ (eX (qs.map Sq.c)) (by omega) (by omega) l (IJ k) (iK e) (dJ e0) (aC (iK n)) (aC (iK e)) m (yl 0 (by omega)) cm1 p (yl (1+aN q.2.2 9) (by omega)) cm2 (fun nt g=>aj.ahead 2 ⟨[.bool false,.str (ag 0),.str (ag 1),.bool b.neg,.str (ag b.n),.str (ag b.d),.bool false,.str (ag (1+aN q.2.2 9)),.str (ag 1),.bool c.neg,.str (ag c.n),.str (ag c.d)],0,false,0,6,true⟩ (en':= [(0,.sl (tL d) d.length f),(3,.ref 0 0 0 k),(4,.int .i64 (k:Int)),(5,.ptr 1 0 0)]) (hp':= [(0,⟨eX (qs.map Sq.c),0,false,0,4,true⟩),(1,⟨[.str nm,.int .i64 1,.int .i64 0,.sl [.bool false,.str (ag 0),.str (ag 1),.bool b.neg,.str (ag b.n),.str (ag b.d),.bool false,.str (ag (1+aN q.2.2 9)),.str (ag 1),.bool c.neg,.str (ag c.n),.str (ag c.d)] 2 false],0,false,0,0,true⟩)]) (amz g d f k nm (eX (qs.map Sq.c)) [.bool false,.str (ag 0),.str (ag 1),.bool b.neg,.str (ag b.n),.str (ag b.d),.bool false,.str (ag (1+aN q.2.2 9)),.str (ag 1),.bool c.neg,.str (ag c.n),.str (ag c.d)] 2 (Nat.ble_eq_true_of_le (by omega)) (Nat.ble_eq_true_of_le (by rw [nP,List.length_map];omega))) (Nat.zero_le _) rfl ⟨Fz.same rfl,Fz.same rfl,Fz.same rfl,Fz.same rfl,trivial⟩ ⟨rfl,Ji.same rfl,by decide,rfl,⟨rfl,rfl,rfl,rfl,.inr ⟨.cons (.same rfl) (.cons (.same rfl) (.cons (.same rfl) (.cons (.fit .ref (aZ.sl _ _ _)) .nil))),fun _=>rfl⟩⟩,by decide,rfl⟩)
   rw [h] at j
   subst o
   exact j
theorem Y0 (c:List (Int × Int × Int)) (i:Bool):∀ (d k:Nat) (qs:List Sq),k+d=min c.length 6→qs.length=k→(∀ q ∈ qs,Wl q)→
  ∃ b:List Sq,(∀ q ∈ b,Wl q)∧b.length=min c.length 6∧∀ nt,77≤nt→aF prog ap [] nt (ae 0 (af f12)) (fun _=> .exit 0) (ac8 c i) amJ (k,qs) (b.length,b):=by
 intro d
 induction d with
 | zero=>
  intro k qs n h j
  refine ⟨qs,j,by omega,fun nt g=> ?_⟩
  rw [h]
  refine .done ?_
  by_cases e:c.length≤k
  ·cases qs with
   |nil=>exact amI g c i k (aB (Fb e))
   |cons a r=>exact amE g c i k (eX ((a::r).map Sq.c)) (aB (Fb e))
  ·have o:6≤k:=by omega
   have e:k<c.length:=by omega
   cases qs with
   |nil=>simp only [List.length_nil] at h;omega
   |cons a r=>exact amD g c i k (eX ((a::r).map Sq.c)) (aB (Fb o)) (aC (iK e))
 | succ d ih=>
  intro k qs n h j
  obtain ⟨q,p,l⟩:=VC c i qs k h (by omega) (by omega) j
  obtain ⟨b,m,s,t⟩:=ih (k+1) (qs++ [q]) (by omega) (by simp [h]) (fun x f=>by
   rcases List.mem_append.1 f with f|f
   ·exact j x f
   ·rw [List.mem_singleton] at f;exact f ▸ p)
  exact ⟨b,m,s,fun nt g=> .next (l nt g) (t nt g)⟩
theorem aml (a:List (Int × Int × Int)) (b:Bool) (c:aH prog ap [] 77 (.block 0 (.loop (ae 0 (af f12)))) ⟨[(0,.sl (tL a) a.length b),(2,.nilS),(3,.nilS),(4,.int .i64 0),(5,.dead),(13,.dead),(45,.dead)],[],.dead,[]⟩ (.normal) ⟨[(3,.nilS)],[],.dead,[]⟩):CO 12 [.sl (tL a) a.length b] (.ret (.nilS)):=pK [0] 0 0 .nil (.l c .nil)
theorem amk (a:List (Int × Int × Int)) (c:Bool) (k:Nat) (b:List AV) (d:aH prog ap [] 77 (.block 0 (.loop (ae 0 (af f12)))) ⟨[(0,.sl (tL a) a.length c),(2,.nilS),(3,.nilS),(4,.int .i64 0),(5,.dead),(13,.dead),(45,.dead)],[],.dead,[]⟩ (.normal) ⟨[(3,.ref 0 0 0 k)],[(0,⟨b,0,false,0,4,true⟩)],.dead,[]⟩):CO 12 [.sl (tL a) a.length c] (.ret (.own (List.take (k*4) b) k 4)):=pK [0] 0 0 .nil (.l d .nil)
theorem Q4 (b:List (Int × Int × Int)) (c:Bool):∃ qs:List Sq,(∀ q ∈ qs,Wl q)∧qs.length≤6∧CO 12 [.sl (tL b) b.length c] (.ret (match qs with| []=> .nilS|_::_=> .own (eX (qs.map Sq.c)) qs.length 4)):=by
 obtain ⟨qs,e,f,d⟩:=Y0 b c (min b.length 6) 0 [] (by omega) rfl (by simp)
 refine ⟨qs,e,by omega, ?_⟩
 cases qs with
 |nil=>exact aml b c (aF.blk d (by simp) rfl (aK.of ⟨rfl,rfl,rfl,trivial⟩) (aK.of ⟨rfl,trivial⟩))
 |cons a r=>
  have h:=amk b c (a::r).length (eX ((a::r).map Sq.c)) (aF.blk d (by simp) rfl (aK.of ⟨rfl,rfl,rfl,trivial⟩) (aK.of ⟨rfl,trivial⟩))
  rw [List.take_of_length_le (by rw [nP,List.length_map];omega)] at h
  exact h
theorem nm0:CO 29 [.int .i64 0,.int .i64 6] (.ret (.int .i64 0)):=cK (.nil)
theorem nm1:CO 33 [.int .i64 0] (.ret (.str [97])):=cK (.c nm0 .nil)
theorem nm2:CO 29 [.int .i64 1,.int .i64 6] (.ret (.int .i64 1)):=cK (.nil)
theorem nm3:CO 33 [.int .i64 1] (.ret (.str [98])):=cK (.c nm2 .nil)
theorem nm4:CO 29 [.int .i64 2,.int .i64 6] (.ret (.int .i64 2)):=cK (.nil)
theorem nm5:CO 33 [.int .i64 2] (.ret (.str [116,97,120])):=cK (.c nm4 .nil)
theorem nm6:CO 29 [.int .i64 3,.int .i64 6] (.ret (.int .i64 3)):=cK (.nil)
theorem nm7:CO 33 [.int .i64 3] (.ret (.str [119,97,103,101])):=cK (.c nm6 .nil)
theorem nm8:CO 29 [.int .i64 4,.int .i64 6] (.ret (.int .i64 4)):=cK (.nil)
theorem nm9:CO 33 [.int .i64 4] (.ret (.str [120,95,49])):=cK (.c nm8 .nil)
theorem atJ:CO 29 [.int .i64 5,.int .i64 6] (.ret (.int .i64 5)):=cK (.nil)
theorem atK:CO 33 [.int .i64 5] (.ret (.str zcc4_0)):=cK (.c atJ .nil)
theorem akF:CO 13 [] (.ret (.own zcc4_4 7 1)):=cK (.c atK (.c nm9 (.c nm7 (.c nm5 (.c nm3 (.c nm1 .nil))))))
theorem sF (n:Nat):lit false (!((n:Int)==(n:Int)))=true:=by simp [lit]
theorem aaj (e:List Nd):List.take (e.length*5) (aI e)=aI e:=List.take_of_length_le (by rw [lG];omega)
theorem amZ (qs:List Sq):List.take (qs.length*4) (eX (qs.map Sq.c))=eX (qs.map Sq.c):=List.take_of_length_le (by rw [nP,List.length_map];omega)
theorem VG (b:List Int) (c:List (Int × Int × Int)) (d f:Bool) (e:List Nd) (qs:List Sq) (S:Int→List UInt8→Nat) (hs:CO 10 [] (.ret (.bool true))) (h:CO 11 [.sl (iL b) b.length d] (.ret (.own (aI e) e.length 5))) (g:CO 12 [.sl (tL c) c.length f] (.ret (.nilS))) (a:CO 13 [] (.ret (.own zcc4_4 7 1))) (A:∀ op nm,CO 14 [.sl (List.take (e.length*5) (aI e)) e.length true,.nilS,.int .i64 op,.str nm] (.ret (.int .i64 ((S op nm:Nat):Int)))) (B:∀ op nm,CO 15 [.sl (List.take (e.length*5) (aI e)) e.length true,.nilS,.int .i64 op,.str nm] (.ret (.int .i64 ((S op nm:Nat):Int)))):CO 3 [.sl (iL b) b.length d,.sl (tL c) c.length f] (.ret (.bool true)):=pK [] 97 13205298224510709690001992363 (.k 2 (sF (S 9 zcc4_0)) (.k 4 (sF (S 9 [120,95,49])) (.k 4 (sF (S 9 [119,97,103,101])) (.k 4 (sF (S 9 [116,97,120])) (.k 4 (sF (S 9 [98])) (.k 4 (sF (S 9 [97])) (.k 4 (sF (S 9 zcc4_1)) (.k 6 (sF (S 8 zcc4_0)) (.k 4 (sF (S 8 [120,95,49])) (.k 4 (sF (S 8 [119,97,103,101])) (.k 4 (sF (S 8 [116,97,120])) (.k 4 (sF (S 8 [98])) (.k 4 (sF (S 8 [97])) (.k 4 (sF (S 8 zcc4_1)) (.k 6 (sF (S 7 zcc4_0)) (.k 4 (sF (S 7 [120,95,49])) (.k 4 (sF (S 7 [119,97,103,101])) (.k 4 (sF (S 7 [116,97,120])) (.k 4 (sF (S 7 [98])) (.k 4 (sF (S 7 [97])) (.k 4 (sF (S 7 zcc4_1)) (.k 6 (sF (S 6 zcc4_0)) (.k 4 (sF (S 6 [120,95,49])) (.k 4 (sF (S 6 [119,97,103,101])) (.k 4 (sF (S 6 [116,97,120])) (.k 4 (sF (S 6 [98])) (.k 4 (sF (S 6 [97])) (.k 4 (sF (S 6 zcc4_1)) (.k 6 (sF (S 5 zcc4_0)) (.k 4 (sF (S 5 [120,95,49])) (.k 4 (sF (S 5 [119,97,103,101])) (.k 4 (sF (S 5 [116,97,120])) (.k 4 (sF (S 5 [98])) (.k 4 (sF (S 5 [97])) (.k 4 (sF (S 5 zcc4_1)) (.k 6 (sF (S 4 zcc4_0)) (.k 4 (sF (S 4 [120,95,49])) (.k 4 (sF (S 4 [119,97,103,101])) (.k 4 (sF (S 4 [116,97,120])) (.k 4 (sF (S 4 [98])) (.k 4 (sF (S 4 [97])) (.k 4 (sF (S 4 zcc4_1)) (.n 5 .nil))))))))))))))))))))))))))))))))))))))))))) (.c (B 9 zcc4_0) (.c (A 9 zcc4_0) (.c (B 9 [120,95,49]) (.c (A 9 [120,95,49]) (.c (B 9 [119,97,103,101]) (.c (A 9 [119,97,103,101]) (.c (B 9 [116,97,120]) (.c (A 9 [116,97,120]) (.c (B 9 [98]) (.c (A 9 [98]) (.c (B 9 [97]) (.c (A 9 [97]) (.c (B 9 zcc4_1) (.c (A 9 zcc4_1) (.c a (.c (B 8 zcc4_0) (.c (A 8 zcc4_0) (.c (B 8 [120,95,49]) (.c (A 8 [120,95,49]) (.c (B 8 [119,97,103,101]) (.c (A 8 [119,97,103,101]) (.c (B 8 [116,97,120]) (.c (A 8 [116,97,120]) (.c (B 8 [98]) (.c (A 8 [98]) (.c (B 8 [97]) (.c (A 8 [97]) (.c (B 8 zcc4_1) (.c (A 8 zcc4_1) (.c a (.c (B 7 zcc4_0) (.c (A 7 zcc4_0) (.c (B 7 [120,95,49]) (.c (A 7 [120,95,49]) (.c (B 7 [119,97,103,101]) (.c (A 7 [119,97,103,101]) (.c (B 7 [116,97,120]) (.c (A 7 [116,97,120]) (.c (B 7 [98]) (.c (A 7 [98]) (.c (B 7 [97]) (.c (A 7 [97]) (.c (B 7 zcc4_1) (.c (A 7 zcc4_1) (.c a (.c (B 6 zcc4_0) (.c (A 6 zcc4_0) (.c (B 6 [120,95,49]) (.c (A 6 [120,95,49]) (.c (B 6 [119,97,103,101]) (.c (A 6 [119,97,103,101]) (.c (B 6 [116,97,120]) (.c (A 6 [116,97,120]) (.c (B 6 [98]) (.c (A 6 [98]) (.c (B 6 [97]) (.c (A 6 [97]) (.c (B 6 zcc4_1) (.c (A 6 zcc4_1) (.c a (.c (B 5 zcc4_0) (.c (A 5 zcc4_0) (.c (B 5 [120,95,49]) (.c (A 5 [120,95,49]) (.c (B 5 [119,97,103,101]) (.c (A 5 [119,97,103,101]) (.c (B 5 [116,97,120]) (.c (A 5 [116,97,120]) (.c (B 5 [98]) (.c (A 5 [98]) (.c (B 5 [97]) (.c (A 5 [97]) (.c (B 5 zcc4_1) (.c (A 5 zcc4_1) (.c a (.c (B 4 zcc4_0) (.c (A 4 zcc4_0) (.c (B 4 [120,95,49]) (.c (A 4 [120,95,49]) (.c (B 4 [119,97,103,101]) (.c (A 4 [119,97,103,101]) (.c (B 4 [116,97,120]) (.c (A 4 [116,97,120]) (.c (B 4 [98]) (.c (A 4 [98]) (.c (B 4 [97]) (.c (A 4 [97]) (.c (B 4 zcc4_1) (.c (A 4 zcc4_1) (.c a (.c g (.c h (.c hs .nil)))))))))))))))))))))))))))))))))))))))))))))))))))))))))))))))))))))))))))))))))))))))))))))
theorem VF (b:List Int) (c:List (Int × Int × Int)) (d f:Bool) (e:List Nd) (qs:List Sq) (S:Int→List UInt8→Nat) (hs:CO 10 [] (.ret (.bool true))) (h:CO 11 [.sl (iL b) b.length d] (.ret (.own (aI e) e.length 5))) (g:CO 12 [.sl (tL c) c.length f] (.ret (.own (eX (qs.map Sq.c)) qs.length 4))) (a:CO 13 [] (.ret (.own zcc4_4 7 1))) (A:∀ op nm,CO 14 [.sl (List.take (e.length*5) (aI e)) e.length true,.sl (List.take (qs.length*4) (eX (qs.map Sq.c))) qs.length true,.int .i64 op,.str nm] (.ret (.int .i64 ((S op nm:Nat):Int)))) (B:∀ op nm,CO 15 [.sl (List.take (e.length*5) (aI e)) e.length true,.sl (List.take (qs.length*4) (eX (qs.map Sq.c))) qs.length true,.int .i64 op,.str nm] (.ret (.int .i64 ((S op nm:Nat):Int)))):CO 3 [.sl (iL b) b.length d,.sl (tL c) c.length f] (.ret (.bool true)):=pK [] 97 13205298224510709690001992363 (.k 2 (sF (S 9 zcc4_0)) (.k 4 (sF (S 9 [120,95,49])) (.k 4 (sF (S 9 [119,97,103,101])) (.k 4 (sF (S 9 [116,97,120])) (.k 4 (sF (S 9 [98])) (.k 4 (sF (S 9 [97])) (.k 4 (sF (S 9 zcc4_1)) (.k 6 (sF (S 8 zcc4_0)) (.k 4 (sF (S 8 [120,95,49])) (.k 4 (sF (S 8 [119,97,103,101])) (.k 4 (sF (S 8 [116,97,120])) (.k 4 (sF (S 8 [98])) (.k 4 (sF (S 8 [97])) (.k 4 (sF (S 8 zcc4_1)) (.k 6 (sF (S 7 zcc4_0)) (.k 4 (sF (S 7 [120,95,49])) (.k 4 (sF (S 7 [119,97,103,101])) (.k 4 (sF (S 7 [116,97,120])) (.k 4 (sF (S 7 [98])) (.k 4 (sF (S 7 [97])) (.k 4 (sF (S 7 zcc4_1)) (.k 6 (sF (S 6 zcc4_0)) (.k 4 (sF (S 6 [120,95,49])) (.k 4 (sF (S 6 [119,97,103,101])) (.k 4 (sF (S 6 [116,97,120])) (.k 4 (sF (S 6 [98])) (.k 4 (sF (S 6 [97])) (.k 4 (sF (S 6 zcc4_1)) (.k 6 (sF (S 5 zcc4_0)) (.k 4 (sF (S 5 [120,95,49])) (.k 4 (sF (S 5 [119,97,103,101])) (.k 4 (sF (S 5 [116,97,120])) (.k 4 (sF (S 5 [98])) (.k 4 (sF (S 5 [97])) (.k 4 (sF (S 5 zcc4_1)) (.k 6 (sF (S 4 zcc4_0)) (.k 4 (sF (S 4 [120,95,49])) (.k 4 (sF (S 4 [119,97,103,101])) (.k 4 (sF (S 4 [116,97,120])) (.k 4 (sF (S 4 [98])) (.k 4 (sF (S 4 [97])) (.k 4 (sF (S 4 zcc4_1)) (.n 5 .nil))))))))))))))))))))))))))))))))))))))))))) (.c (B 9 zcc4_0) (.c (A 9 zcc4_0) (.c (B 9 [120,95,49]) (.c (A 9 [120,95,49]) (.c (B 9 [119,97,103,101]) (.c (A 9 [119,97,103,101]) (.c (B 9 [116,97,120]) (.c (A 9 [116,97,120]) (.c (B 9 [98]) (.c (A 9 [98]) (.c (B 9 [97]) (.c (A 9 [97]) (.c (B 9 zcc4_1) (.c (A 9 zcc4_1) (.c a (.c (B 8 zcc4_0) (.c (A 8 zcc4_0) (.c (B 8 [120,95,49]) (.c (A 8 [120,95,49]) (.c (B 8 [119,97,103,101]) (.c (A 8 [119,97,103,101]) (.c (B 8 [116,97,120]) (.c (A 8 [116,97,120]) (.c (B 8 [98]) (.c (A 8 [98]) (.c (B 8 [97]) (.c (A 8 [97]) (.c (B 8 zcc4_1) (.c (A 8 zcc4_1) (.c a (.c (B 7 zcc4_0) (.c (A 7 zcc4_0) (.c (B 7 [120,95,49]) (.c (A 7 [120,95,49]) (.c (B 7 [119,97,103,101]) (.c (A 7 [119,97,103,101]) (.c (B 7 [116,97,120]) (.c (A 7 [116,97,120]) (.c (B 7 [98]) (.c (A 7 [98]) (.c (B 7 [97]) (.c (A 7 [97]) (.c (B 7 zcc4_1) (.c (A 7 zcc4_1) (.c a (.c (B 6 zcc4_0) (.c (A 6 zcc4_0) (.c (B 6 [120,95,49]) (.c (A 6 [120,95,49]) (.c (B 6 [119,97,103,101]) (.c (A 6 [119,97,103,101]) (.c (B 6 [116,97,120]) (.c (A 6 [116,97,120]) (.c (B 6 [98]) (.c (A 6 [98]) (.c (B 6 [97]) (.c (A 6 [97]) (.c (B 6 zcc4_1) (.c (A 6 zcc4_1) (.c a (.c (B 5 zcc4_0) (.c (A 5 zcc4_0) (.c (B 5 [120,95,49]) (.c (A 5 [120,95,49]) (.c (B 5 [119,97,103,101]) (.c (A 5 [119,97,103,101]) (.c (B 5 [116,97,120]) (.c (A 5 [116,97,120]) (.c (B 5 [98]) (.c (A 5 [98]) (.c (B 5 [97]) (.c (A 5 [97]) (.c (B 5 zcc4_1) (.c (A 5 zcc4_1) (.c a (.c (B 4 zcc4_0) (.c (A 4 zcc4_0) (.c (B 4 [120,95,49]) (.c (A 4 [120,95,49]) (.c (B 4 [119,97,103,101]) (.c (A 4 [119,97,103,101]) (.c (B 4 [116,97,120]) (.c (A 4 [116,97,120]) (.c (B 4 [98]) (.c (A 4 [98]) (.c (B 4 [97]) (.c (A 4 [97]) (.c (B 4 zcc4_1) (.c (A 4 zcc4_1) (.c a (.c g (.c h (.c hs .nil)))))))))))))))))))))))))))))))))))))))))))))))))))))))))))))))))))))))))))))))))))))))))))))
theorem aa2:∀ n:Nat,1≤n∧n≤9→CO 129 [.agg [.bool false,.str [],.str [1]],.agg [.bool false,.str [UInt8.ofNat n],.str [1]]] (.ret (.int .i64 (-1))):=fun n h=>aa1 n h
theorem ai6:∀ n:Nat,1≤n∧n≤9→CO 24 [.agg [.bool false,.str [],.str [1]],.agg [.bool false,.str [UInt8.ofNat n],.str [1]]] (.ret (.int .i64 (-1))):=fun n h=>alm n h
def Y5 (e:List Nd) (qs:List Sq) (op:Int) (nm:List UInt8):Nat:=jD (JF kW) (LG kW) e (qs.map Sq.c) op nm
def Y1 (qs:List Sq):AV:=match qs with| []=> .nilS|_::_=> .sl (List.take (qs.length*4) (eX (qs.map Sq.c))) qs.length true
theorem GZ (qs:List Sq):∃ b,aZ (Y1 qs) (.sl (eX (qs.map Sq.c)) qs.length b):=by
 cases qs with
 |nil=>exact ⟨false,aZ.nilS false rfl⟩
 |cons a r=>
  refine ⟨true, ?_⟩
  unfold Y1
  rw [amZ]
  exact aZ.refl _
theorem auc (e:List Nd) (qs:List Sq) (g:∀ q ∈ qs,Wl q) (i:qs.length≤6) (c:∀ y ∈ e,y.sm) (f:e.length<2^40) (a:Int) (d:List UInt8):CO 14 [.sl (List.take (e.length*5) (aI e)) e.length true,Y1 qs,.int .i64 a,.str d] (.ret (.int .i64 ((Y5 e qs a d:Nat):Int))):=by
 rw [aaj]
 obtain ⟨b,h⟩:=GZ qs
 exact au.args (.cons (aZ.refl _) (.cons h (.cons (aZ.refl _) (.cons (aZ.refl _) .nil)))) (bZ e true qs b kW a d c f (by omega) (G5 aa2 g))
theorem aud (e:List Nd) (qs:List Sq) (g:∀ q ∈ qs,Wl q) (i:qs.length≤6) (c:∀ y ∈ e,y.sm) (f:e.length<2^40) (a:Int) (d:List UInt8):CO 15 [.sl (List.take (e.length*5) (aI e)) e.length true,Y1 qs,.int .i64 a,.str d] (.ret (.int .i64 ((Y5 e qs a d:Nat):Int))):=by
 rw [aaj]
 obtain ⟨b,h⟩:=GZ qs
 exact au.args (.cons (aZ.refl _) (.cons h (.cons (aZ.refl _) (.cons (aZ.refl _) .nil)))) (ut e true qs b kW a d c f (by omega) (G5 ai6 g))
theorem adN (b:List Int) (d:List (Int × Int × Int)) (f g:Bool):CO 3 [.sl (iL b) b.length f,.sl (tL d) d.length g] (.ret (.bool true)):=by
 obtain ⟨e,_,_,l,_,c,k⟩:=QC b f
 obtain ⟨qs,h,i,j⟩:=Q4 d g
 have A:=auc e qs h i c (by omega)
 have B:=aud e qs h i c (by omega)
 cases qs with
 |nil=>exact VG b d f g e [] (Y5 e []) GY k j akF A B
 |cons a r=>exact VF b d f g e (a::r) (Y5 e (a::r)) GY k j akF A B
theorem auF {x:List Value} (h:gu [.int .i64] x):∃ a:Int,x.map oZ= [AV.int .i64 a]:=by
 rcases h with _|@⟨_,a,_,_,h⟩|_|_
 cases h
 exact ⟨a,rfl⟩
theorem anp (l:List Int):(l.flatMap fun a=> [AV.int .i64 a])=iL l:=by
 induction l with
 |nil=>rfl
 |cons a r ih=>rw [List.flatMap_cons,ih];rfl
theorem au1 {x:List Value} (h:gu [.int .i64,.int .i64,.int .i64] x):∃ q:Int × Int × Int,x.map oZ= [AV.int .i64 q.1,.int .i64 q.2.1,.int .i64 q.2.2]:=by
 rcases h with _|@⟨_,a,_,_,h⟩|_|_
 rcases h with _|@⟨_,b,_,_,h⟩|_|_
 rcases h with _|@⟨_,c,_,_,h⟩|_|_
 cases h
 exact ⟨(a,b,c),rfl⟩
end Go.Proofs.Tryz
set_option maxRecDepth 100000
open Go AM Go.ChangeShapes Go.WideShapes Go.ChangeAt Go.RowKit
namespace Go.Proofs.Tryz
noncomputable def Dt (t:TypeId) (d:DataW Unit):List Lit:=((lL prog 6 t d 0).getD []).map (·.2)
open Go.Proofs.YtcjindbblhcopaaGreatDoor
def Ux:List (String × DataW Unit):= [("unicode/utf8.acceptRanges",Rows.laid_unicode_utf8_acceptRanges),("tithing/expr.table",Rows.laid_tithing_expr_table),("unicode/utf8.first",Rows.laid_unicode_utf8_first)]
theorem QG:Ux.filter (fun x=>x.2.handleName?.isSome)= []:=by kernel_rfl
theorem ajv {W:World} (h:laidMetH prog Ux W):SH ap W:=by
 have c (i:Nat) (n:String) (d:DataW Unit) (hm:Ux[i]? =some (n,d)) (g:Nat) (t:TypeId) (hg:prog.globalNamed n=some g) (ht:(prog.globals[g]?).map (·.type)=some t)
   (hl:lL prog 6 t d 0=some ((Dt t d).zipIdx.map fun (l,i)=>(i,l))):=Nz h QG (List.mem_of_getElem? hm) hg ht hl
 have e:=c 1 _ _ rfl 0 105 (by kernel_rfl) (by kernel_rfl) (by kernel_rfl)
 have f:=c 0 _ _ rfl 2 219 (by kernel_rfl) (by kernel_rfl) (by kernel_rfl)
 have key (k:Nat) (t:TypeId) (d:DataW Unit) (hx:(ap.gl[k]?).join=some ((Dt t d).map Kt)) (ho:(Dt t d).all Dq=true) (hc:∀ (j:Nat) (l:Lit),(Dt t d)[j]? =some l→W.cell? ⟨k,j,none⟩=some (pz l)):
   ∀ b,(ap.gl[k]?).join=some b→∃ ls:List Lit,b=ls.map Kt∧ls.all Dq=true∧∀ (j:Nat) (l:Lit),ls[j]? =some l→W.cell? ⟨k,j,none⟩=some (pz l):=by
  intro b a
  rw [hx] at a
  cases a
  exact ⟨_,rfl,ho,hc⟩
 intro k
 match k with
 |0=>exact key 0 _ _ (by kernel_rfl) (by kernel_rfl) e
 |1=>intro b a;exact absurd (show (none:Option (List AV))=some b from a) (by simp)
 |2=>exact key 2 _ _ (by kernel_rfl) (by kernel_rfl) f
 |3=>intro b a;exact absurd (show (none:Option (List AV))=some b from a) (by simp)
 |k+4=>
  intro b a
  have:ap.gl.length=4:=by kernel_rfl
  rw [List.getElem?_eq_none (by omega)] at a
  cases a
theorem own:ownKnob prog.godebug=none:=by kernel_rfl
theorem anx:laidOutB prog=true:=by kernel_rfl
noncomputable def ac3 (t:TypeId) (d:DataW Unit):Obj→Obj
 | .cells _ t' fr=> .cells ((Dt t d).map pz).toArray t' fr
 |o=>o
noncomputable def adK (os:Os):World:=
 let w:=World.holding prog os ⟨#[],#[],[]⟩
 {w with heap:=((w.heap.modify 0 (ac3 105 Rows.laid_tithing_expr_table)).modify 1 (ac3 216 Rows.laid_unicode_utf8_first)).modify 2 (ac3 219 Rows.laid_unicode_utf8_acceptRanges)}
end Go.Proofs.Tryz
