/- Contracts of functions that the law reaches, each by its own hypotheses; joined by a program of mine. -/
import Derived.Test.YtcjindbblhcopaaGreatDoorC3
import Derived.Test.YtcjindbblhcopaaGreatDoorM5
import Derived.Test.YtcjindbblhcopaaGreatDoorC2
import Derived.Test.YtcjindbblhcopaaGreatDoorC1
import Derived.Test.YtcjindbblhcopaaGreatDoorM4
import Derived.Test.YtcjindbblhcopaaGreatDoorCards
import Derived.Test.YtcjindbblhcopaaGreatDoorTie
import Derived.Deep.DeepHandedRow
set_option linter.unusedSimpArgs false
set_option linter.unusedVariables false
set_option maxRecDepth 100000
open Go AM
namespace Go.Proofs.Tryz
def zcc4_0 : List UInt8 := [97,50,51,52,53,54,55,56,57,48,49,50,51,52,53,54,55,56,57,48]
def zcc4_1 : List UInt8 := [111,116,104,101,114]
def zcc4_2 : List AV := [.bool false,.str [],.str [1],.bool false,.str [1],.str [10],.bool false,.str [5],.str [1],.bool false,.str [1],.str [5]]
def zcc4_3 : List AV := [.bool false,.str [],.str [1],.bool false,.str [1],.str [10],.bool false,.str [5],.str [1],.bool true,.str [1],.str [5]]
def zcc4_4 : List AV := [.str zcc4_1,.str [97],.str [98],.str [116,97,120],.str [119,97,103,101],.str [120,95,49],.str zcc4_0]
def wE:List Nd:= [⟨6,false,[],[],[97]⟩,⟨5,false,[],[],[97]⟩,⟨9,false,[],[],[]⟩]
def sO:List Sq:= [⟨[120],0,0,[⟨false,[],[1],false,[1],[10]⟩,⟨false,[5],[1],false,[1],[5]⟩]⟩]
def ED:List Nd:= [⟨6,false,[],[],[97]⟩,⟨6,false,[],[],[97]⟩,⟨10,false,[],[],[]⟩]
def EE:List Nd:= [⟨1,false,[5],[1],[]⟩,⟨3,true,[1],[2],[]⟩,⟨6,false,[],[],[97]⟩,⟨11,false,[],[],[]⟩,⟨10,false,[],[],[]⟩]
def l_:List Nd:= [⟨6,false,[],[],[97]⟩,⟨5,false,[],[],[98]⟩,⟨11,false,[],[],[]⟩]
def EF:List Nd:= [⟨1,false,[1],[1],[]⟩,⟨6,false,[],[],[97]⟩,⟨12,false,[],[],[]⟩]
def EG:List Nd:= [⟨6,false,[],[],[97]⟩,⟨3,true,[2],[1],[]⟩,⟨12,false,[],[],[]⟩]
def wF:List Nd:= [⟨6,false,[],[],[97]⟩,⟨1,false,[3],[1],[]⟩,⟨16,false,[],[],[]⟩,⟨6,false,[],[],[98]⟩,⟨1,false,[],[1],[]⟩,⟨15,false,[],[],[]⟩]
def mf:List Nd:= [⟨6,false,[],[],[97]⟩,⟨24,false,[],[],[120]⟩]
def aaA:List Sq:= [⟨[120],0,0,[⟨false,[],[1],false,[1],[10]⟩,⟨false,[5],[1],true,[1],[5]⟩]⟩]
theorem gQ:H5 129 jo sO:=Ls ⟨⟨by decide,by decide⟩,⟨by decide,by decide⟩⟩ ⟨⟨by decide,by decide⟩,⟨by decide,by decide⟩⟩ (bT (abl 5 (by omega)) (by kernel_rfl))
theorem Oq:H5 129 jo aaA:=Ls ⟨⟨by decide,by decide⟩,⟨by decide,by decide⟩⟩ ⟨⟨by decide,by decide⟩,⟨by decide,by decide⟩⟩ (bT (abl 5 (by omega)) (by kernel_rfl))
def dE (l:List Nat):iW:=l.map fun t=>(t,.dead)
def rA (s:List UInt8) (k:Int):List bi:= [⟨[.str s,.nilS,.int .i64 k,.bool false],0,false,0,0,true⟩]
def rB (s:List UInt8) (n:Nat) (k:Int) (os:List AV):List bi:= [⟨[.str s,.ref 1 0 0 n,.int .i64 k,.bool false],0,false,0,0,false⟩,⟨os,0,false,0,5,true⟩]
def zo0:List AV:= [.int .i64 6,.bool false,.str [],.str [],.str [97],.int .i64 1,.bool false,.str [3],.str [1],.str [],.int .i64 16,.bool false,.str [],.str [],.str [],.int .i64 6,.bool false,.str [],.str [],.str [98],.int .i64 1,.bool false,.str [],.str [1],.str []]
def Qa:List AV:= [.int .i64 6,.bool false,.str [],.str [],.str [97],.int .i64 1,.bool false,.str [3],.str [1],.str [],.int .i64 16,.bool false,.str [],.str [],.str [],.int .i64 6,.bool false,.str [],.str [],.str [98]]
def zo2:List AV:= [.int .i64 1,.bool false,.str [5],.str [1],.str [],.int .i64 3,.bool true,.str [1],.str [2],.str [],.int .i64 6,.bool false,.str [],.str [],.str [97],.int .i64 11,.bool false,.str [],.str [],.str []]
def zo3:List AV:= [.int .i64 1,.bool false,.str [5],.str [1],.str [],.int .i64 3,.bool true,.str [1],.str [2],.str [],.int .i64 6,.bool false,.str [],.str [],.str [97]]
def Qb:List AV:= [.int .i64 6,.bool false,.str [],.str [],.str [97],.int .i64 1,.bool false,.str [3],.str [1],.str [],.int .i64 16,.bool false,.str [],.str [],.str []]
def zo5:List AV:= [.int .i64 6,.bool false,.str [],.str [],.str [97],.int .i64 5,.bool false,.str [],.str [],.str [97]]
def zo6:List AV:= [.int .i64 6,.bool false,.str [],.str [],.str [97],.int .i64 6,.bool false,.str [],.str [],.str [97]]
def zo7:List AV:= [.int .i64 6,.bool false,.str [],.str [],.str [97],.int .i64 5,.bool false,.str [],.str [],.str [98]]
def zo8:List AV:= [.int .i64 1,.bool false,.str [1],.str [1],.str [],.int .i64 6,.bool false,.str [],.str [],.str [97]]
def zo9:List AV:= [.int .i64 6,.bool false,.str [],.str [],.str [97],.int .i64 1,.bool false,.str [3],.str [1],.str []]
def yN:List AV:= [.int .i64 1,.bool false,.str [5],.str [1],.str [],.int .i64 3,.bool true,.str [1],.str [2],.str []]
def adH:List AV:= [.int .i64 6,.bool false,.str [],.str [],.str [97],.int .i64 3,.bool true,.str [2],.str [1],.str []]
def dR:List AV:= [.int .i64 6,.bool false,.str [],.str [],.str [97]]
def lX:List AV:= [.int .i64 1,.bool false,.str [5],.str [1],.str []]
def vS:List AV:= [.int .i64 1,.bool false,.str [1],.str [1],.str []]
def BK:List UInt8:= [97,98,99,100,101,102,103,104,105,106,107,108,109,110,111,112,113,114,115,116,117,118,119,120,121,122,48,49,50,51,52,53,54,55,56,57,95]
def ZM:List UInt8:= [105,102,40,108,101,115,115,40,111,119,110,46,97,44,32,36,51,41,44,32,111,119,110,46,98,44,32,36,48,41]
def o_:List UInt8:= [97,98,99,100,101,102,103,104,105,106,107,108,109,110,111,112,113,114,115,116,117,118,119,120,121,122]
def zs3:List UInt8:= [40,108,101,115,115,40,111,119,110,46,97,44,32,36,51,41,44,32,111,119,110,46,98,44,32,36,48,41]
def zs4:List UInt8:= [108,101,115,115,40,111,119,110,46,97,44,32,36,51,41,44,32,111,119,110,46,98,44,32,36,48,41]
def zs5:List UInt8:= [115,117,98,40,36,53,44,32,109,117,108,40,45,49,47,50,44,32,111,119,110,46,97,41,41]
def zs6:List UInt8:= [40,111,119,110,46,97,44,32,36,51,41,44,32,111,119,110,46,98,44,32,36,48,41]
def zs7:List UInt8:= [40,36,53,44,32,109,117,108,40,45,49,47,50,44,32,111,119,110,46,97,41,41]
def zs8:List UInt8:= [111,119,110,46,97,44,32,36,51,41,44,32,111,119,110,46,98,44,32,36,48,41]
def zs9:List UInt8:= [36,53,44,32,109,117,108,40,45,49,47,50,44,32,111,119,110,46,97,41,41]
def WG:List UInt8:= [53,44,32,109,117,108,40,45,49,47,50,44,32,111,119,110,46,97,41,41]
def Su:List UInt8:= [44,32,109,117,108,40,45,49,47,50,44,32,111,119,110,46,97,41,41]
def L9:List UInt8:= [109,117,108,40,111,119,110,46,97,44,32,102,97,99,116,46,98,41]
def Jp:List UInt8:= [97,100,100,40,111,119,110,46,97,44,32,102,97,99,116,46,97,41]
def anB:List UInt8:= [46,97,44,32,36,51,41,44,32,111,119,110,46,98,44,32,36,48,41]
def L_:List UInt8:= [115,117,98,40,111,119,110,46,97,44,32,111,119,110,46,97,41]
def adI:List UInt8:= [97,44,32,36,51,41,44,32,111,119,110,46,98,44,32,36,48,41]
def Sv:List UInt8:= [109,117,108,40,45,49,47,50,44,32,111,119,110,46,97,41,41]
def adJ:List UInt8:= [44,32,36,51,41,44,32,111,119,110,46,98,44,32,36,48,41]
def ZN:List UInt8:= [40,111,119,110,46,97,44,32,102,97,99,116,46,97,41]
def ZO:List UInt8:= [40,111,119,110,46,97,44,32,102,97,99,116,46,98,41]
def ZP:List UInt8:= [36,51,41,44,32,111,119,110,46,98,44,32,36,48,41]
def ZQ:List UInt8:= [40,111,119,110,46,97,44,32,111,119,110,46,97,41]
def Mc:List UInt8:= [100,105,118,40,36,49,44,32,111,119,110,46,97,41]
def Md:List UInt8:= [100,105,118,40,111,119,110,46,97,44,32,45,50,41]
def Sz:List UInt8:= [111,119,110,46,97,44,32,102,97,99,116,46,97,41]
def SA:List UInt8:= [111,119,110,46,97,44,32,102,97,99,116,46,98,41]
def ZR:List UInt8:= [40,45,49,47,50,44,32,111,119,110,46,97,41,41]
def WH:List UInt8:= [51,41,44,32,111,119,110,46,98,44,32,36,48,41]
def Me:List UInt8:= [114,97,116,101,46,120,40,111,119,110,46,97,41]
def SB:List UInt8:= [111,119,110,46,97,44,32,111,119,110,46,97,41]
def OH:List UInt8:= [45,49,47,50,44,32,111,119,110,46,97,41,41]
def SE:List UInt8:= [41,44,32,111,119,110,46,98,44,32,36,48,41]
def adK:List UInt8:= [44,32,111,119,110,46,98,44,32,36,48,41]
def AU:List UInt8:= [45,48,49,50,51,52,53,54,55,56,57,47]
def ZT:List UInt8:= [40,36,49,44,32,111,119,110,46,97,41]
def ZU:List UInt8:= [40,111,119,110,46,97,44,32,45,50,41]
def anC:List UInt8:= [46,97,44,32,102,97,99,116,46,97,41]
def anD:List UInt8:= [46,97,44,32,102,97,99,116,46,98,41]
def anE:List UInt8:= [46,97,44,32,111,119,110,46,97,41]
def ZV:List UInt8:= [36,49,44,32,111,119,110,46,97,41]
def SG:List UInt8:= [111,119,110,46,97,44,32,45,50,41]
def SH:List UInt8:= [111,119,110,46,98,44,32,36,48,41]
def adL:List UInt8:= [97,44,32,102,97,99,116,46,97,41]
def adM:List UInt8:= [97,44,32,102,97,99,116,46,98,41]
def anF:List UInt8:= [46,120,40,111,119,110,46,97,41]
def adN:List UInt8:= [97,44,32,111,119,110,46,97,41]
def SI:List UInt8:= [44,32,111,119,110,46,97,41,41]
def WI:List UInt8:= [49,44,32,111,119,110,46,97,41]
def adO:List UInt8:= [44,32,102,97,99,116,46,97,41]
def adP:List UInt8:= [44,32,102,97,99,116,46,98,41]
def adQ:List UInt8:= [120,40,111,119,110,46,97,41]
def Jq:List UInt8:= [44,32,111,119,110,46,97,41]
def SK:List UInt8:= [111,119,110,46,97,41,41]
def anG:List UInt8:= [40,111,119,110,46,97,41]
def SL:List UInt8:= [102,97,99,116,46,97,41]
def SN:List UInt8:= [102,97,99,116,46,98,41]
def anH:List UInt8:= [46,97,44,32,45,50,41]
def anI:List UInt8:= [46,98,44,32,36,48,41]
def sV:List UInt8:= [111,119,110,46,97,41]
def adR:List UInt8:= [97,44,32,45,50,41]
def adS:List UInt8:= [98,44,32,36,48,41]
def anJ:List UInt8:= [108,101,115,115]
def adT:List UInt8:= [44,32,45,50,41]
def adU:List UInt8:= [44,32,36,48,41]
def anK:List UInt8:= [102,97,99,116]
def adV:List UInt8:= [45,49,47,50]
def anL:List UInt8:= [46,97,41,41]
theorem k0:au prog ap 90 [.ptr 0 0 0,.str [36]] (rA Jp 1) (.ret (.bool false)) (rA Jp 1):=cK (.nil)
theorem k1:au prog ap 92 [.ptr 0 0 0,.str o_] (rA Jp 1) (.ret (.str [97,100,100])) (rA ZN 1):=bT (gu Jp o_ (1) false (by decide) (by decide)) (by kernel_rfl)
theorem k2:au prog ap 90 [.ptr 0 0 0,.str [46]] (rA ZN 1) (.ret (.bool false)) (rA ZN 1):=cK (.nil)
theorem k3:CO 93 [.int .i64 5] (.ret (.str [102,97,99,116,46])):=cK (.nil)
theorem k4:CO 93 [.int .i64 6] (.ret (.str [111,119,110,46])):=cK (.nil)
theorem k5:CO 93 [.int .i64 7] (.ret (.str [112,114,105,111,114,46])):=cK (.nil)
theorem k6:CO 93 [.int .i64 8] (.ret (.str [115,112,111,117,115,101,46])):=cK (.nil)
theorem k7:CO 93 [.int .i64 9] (.ret (.str [97,100,100])):=cK (.nil)
theorem k8:CO 93 [.int .i64 10] (.ret (.str [115,117,98])):=cK (.nil)
theorem k9:CO 93 [.int .i64 11] (.ret (.str [109,117,108])):=cK (.nil)
theorem Bh:CO 93 [.int .i64 12] (.ret (.str [100,105,118])):=cK (.nil)
theorem E9:CO 93 [.int .i64 13] (.ret (.str [109,105,110])):=cK (.nil)
theorem E_:CO 93 [.int .i64 14] (.ret (.str [109,97,120])):=cK (.nil)
theorem Dv:CO 93 [.int .i64 15] (.ret (.str [105,102])):=cK (.nil)
theorem Dw:CO 93 [.int .i64 16] (.ret (.str anJ)):=cK (.nil)
theorem Fa:CO 93 [.int .i64 17] (.ret (.str [101,113,117,97,108])):=cK (.nil)
theorem Fb:CO 93 [.int .i64 18] (.ret (.str [97,110,100])):=cK (.nil)
theorem Fe:CO 93 [.int .i64 19] (.ret (.str [111,114])):=cK (.nil)
theorem Ff:CO 93 [.int .i64 20] (.ret (.str [110,111,116])):=cK (.nil)
theorem Fg:CO 93 [.int .i64 21] (.ret (.str [100,111,119,110])):=cK (.nil)
theorem Fh:CO 93 [.int .i64 22] (.ret (.str [117,112])):=cK (.nil)
theorem Fj:CO 93 [.int .i64 23] (.ret (.str [110,101,97,114])):=cK (.nil)
theorem Dx:CO 93 [.int .i64 24] (.ret (.str [114,97,116,101,46])):=cK (.nil)
theorem k23:CO 32 [.int .i64 9] (.ret (.bool false)):=cK (.nil)
theorem qN:CO 34 [.int .i64 9] (.ret (.bool false)):=cK (.nil)
theorem k25:CO 30 [.int .i64 9] (.ret (.int .i64 2)):=cK (.nil)
theorem k26:au prog ap 90 [.ptr 0 0 0,.str [40]] (rA ZN 1) (.ret (.bool true)) (rA Sz 1):=cK (.nil)
theorem k27:au prog ap 90 [.ptr 0 0 0,.str [36]] (rA Sz 2) (.ret (.bool false)) (rA Sz 2):=cK (.nil)
theorem k28:au prog ap 92 [.ptr 0 0 0,.str o_] (rA Sz 2) (.ret (.str [111,119,110])) (rA anC 2):=bT (gu Sz o_ (2) false (by decide) (by decide)) (by kernel_rfl)
theorem k29:au prog ap 90 [.ptr 0 0 0,.str [46]] (rA anC 2) (.ret (.bool true)) (rA adL 2):=cK (.nil)
theorem GG:CO 32 [.int .i64 6] (.ret (.bool true)):=cK (.nil)
theorem k31:au prog ap 92 [.ptr 0 0 0,.str BK] (rA adL 2) (.ret (.str [97])) (rA adO 2):=bT (gu adL BK (2) false (by decide) (by decide)) (by kernel_rfl)
theorem Fp:CO 34 [.int .i64 6] (.ret (.bool false)):=cK (.nil)
theorem qO:CO 30 [.int .i64 6] (.ret (.int .i64 0)):=cK (.nil)
theorem k34:au prog ap 56 [.ptr 0 0 0] (rA Sz 1) (.ret (.tup [])) (rB adO 1 2 dR):=cK (.c qO (.c qO (.c Fp (.c k31 (.c GG (.c Dx (.c Fj (.c Fh (.c Fg (.c Ff (.c Fe (.c Fb (.c Fa (.c Dw (.c Dv (.c E_ (.c E9 (.c Bh (.c k9 (.c k8 (.c k7 (.c k6 (.c k5 (.c k4 (.c k3 (.c k29 (.c k28 (.c k27 .nil))))))))))))))))))))))))))))
theorem k35:au prog ap 90 [.ptr 0 0 0,.str [44,32]] (rB adO 1 2 dR) (.ret (.bool true)) (rB SL 1 2 dR):=cK (.nil)
theorem k36:au prog ap 90 [.ptr 0 0 0,.str [36]] (rB SL 1 3 dR) (.ret (.bool false)) (rB SL 1 3 dR):=cK (.nil)
theorem k37:au prog ap 92 [.ptr 0 0 0,.str o_] (rB SL 1 3 dR) (.ret (.str anK)) (rB [46,97,41] 1 3 dR):=bT (jP SL o_ (3) false 1 dR (by decide) (by decide)) (by kernel_rfl)
theorem k38:au prog ap 90 [.ptr 0 0 0,.str [46]] (rB [46,97,41] 1 3 dR) (.ret (.bool true)) (rB [97,41] 1 3 dR):=cK (.nil)
theorem k39:CO 32 [.int .i64 5] (.ret (.bool true)):=cK (.nil)
theorem k40:au prog ap 92 [.ptr 0 0 0,.str BK] (rB [97,41] 1 3 dR) (.ret (.str [97])) (rB [41] 1 3 dR):=bT (jP [97,41] BK (3) false 1 dR (by decide) (by decide)) (by kernel_rfl)
theorem k41:CO 34 [.int .i64 5] (.ret (.bool false)):=cK (.nil)
theorem k42:CO 30 [.int .i64 5] (.ret (.int .i64 0)):=cK (.nil)
theorem k43:au prog ap 56 [.ptr 0 0 0] (rB SL 1 2 dR) (.ret (.tup [])) [⟨[.str [41],.ref 1 1 0 2,.int .i64 3,.bool false],0,false,0,0,false⟩,⟨zo5,1,false,0,5,true⟩]:=cK (.c k42 (.c k42 (.c k41 (.c k40 (.c k39 (.c Dx (.c Fj (.c Fh (.c Fg (.c Ff (.c Fe (.c Fb (.c Fa (.c Dw (.c Dv (.c E_ (.c E9 (.c Bh (.c k9 (.c k8 (.c k7 (.c k6 (.c k5 (.c k4 (.c k3 (.c k38 (.c k37 (.c k36 .nil))))))))))))))))))))))))))))
theorem k44:au prog ap 90 [.ptr 0 0 0,.str [41]] (rB [41] 2 3 zo5) (.ret (.bool true)) (rB [] 2 3 zo5):=cK (.nil)
theorem k45:au prog ap 56 [.ptr 0 0 0] (rA Jp 0) (.ret (.tup [])) [⟨[.str [],.ref 1 0 0 3,.int .i64 3,.bool false],0,false,0,0,false⟩,⟨(aH wE),0,false,0,5,true⟩]:=cK (.c k44 (.c k25 (.c k25 (.c k43 (.c k35 (.c k25 (.c k34 (.c k26 (.c k25 (.c qN (.c k23 (.c Dx (.c Fj (.c Fh (.c Fg (.c Ff (.c Fe (.c Fb (.c Fa (.c Dw (.c Dv (.c E_ (.c E9 (.c Bh (.c k9 (.c k8 (.c k7 (.c k6 (.c k5 (.c k4 (.c k3 (.c k2 (.c k1 (.c k0 .nil))))))))))))))))))))))))))))))))))
theorem SS:CO 94 [.int .i64 6] (.ret (.bool false)):=cK (.nil)
theorem X_:CO 74 [.agg dR] (.ret (.bool true)):=cK (.c Fp (.c SS .nil))
theorem WO:CO 75 [.str [97]] (.ret (.bool true)):=cK (.nil)
theorem k49:CO 94 [.int .i64 5] (.ret (.bool false)):=cK (.nil)
theorem k50:CO 74 [.agg [.int .i64 5,.bool false,.str [],.str [],.str [97]]] (.ret (.bool true)):=cK (.c k41 (.c k49 .nil))
theorem k51:CO 94 [.int .i64 9] (.ret (.bool false)):=cK (.nil)
theorem k52:CO 74 [.agg [.int .i64 9,.bool false,.str [],.str [],.str []]] (.ret (.bool true)):=cK (.c qN (.c k51 .nil))
theorem NH:CO 75 [.str []] (.ret (.bool false)):=cK (.nil)
theorem k54:CO 48 [.sl (aH wE) 3 true] (.ret (.int .i64 0)):=cK (.c k25 (.c NH (.c k52 (.c k23 (.c k42 (.c WO (.c k50 (.c k39 (.c qO (.c WO (.c X_ (.c GG .nil))))))))))))
theorem k55:CO 57 [.sl (aH wE) 3 true] (.ret (.tup [.str Jp,.int .i64 0])):=cK (.c qN (.c k51 (.c k7 (.c k25 (.c k41 (.c k49 (.c k3 (.c k42 (.c Fp (.c SS (.c k4 (.c qO (.c k54 .nil)))))))))))))
theorem k56:CO 27 [.str Jp] (.ret (.tup [.sl (aH wE) 3 true,.int .i64 0])):=cK (.c k55 (.c k45 .nil))
theorem k57:CO 36 [.int .i64 1] (.ret (.agg [.bool false,.str [1],.str [1]])):=bT (yA 1 (by decide)) (by kernel_rfl)
theorem k58:CO 36 [.int .i64 10] (.ret (.agg [.bool false,.str [10],.str [1]])):=bT (yA 10 (by decide)) (by kernel_rfl)
theorem k59:CO 70 [.agg [.bool false,.str [1],.str [1]]] (.ret (.agg [.bool false,.str [1],.str [1]])):=bT (bV false [1] [1] (by decide) (by decide)) (by kernel_rfl)
theorem k60:CO 70 [.agg [.bool false,.str [10],.str [1]]] (.ret (.agg [.bool false,.str [10],.str [1]])):=bT (bV false [10] [1] (by decide) (by decide)) (by kernel_rfl)
theorem k61:CO 76 [.str [1]] (.ret (.str [1])):=cK (.nil)
theorem k62:CO 107 [.str [1]] (.ret (.tup [.int .i64 1,.bool true])):=cK (.c k61 .nil)
theorem k63:CO 77 [.str [1],.int .i64 3] (.ret (.tup [.int .i64 1,.bool true])):=cK (.c k62 (.c k61 .nil))
theorem k64:CO 77 [.str [1],.int .i64 4] (.ret (.tup [.int .i64 1,.bool true])):=cK (.c k62 (.c k61 .nil))
theorem UG:CO 49 [.int .i64 1] (.ret (.str [1])):=bT (dn 1 (by decide)) (by kernel_rfl)
theorem k66:CO 50 [.str [1],.str [1]] (.ret (.str [1])):=cK (.c UG (.c k64 (.c k63 .nil)))
theorem k67:CO 76 [.str [10]] (.ret (.str [10])):=cK (.nil)
theorem k68:CO 107 [.str [10]] (.ret (.tup [.int .i64 10,.bool true])):=cK (.c k67 .nil)
theorem k69:CO 77 [.str [10],.int .i64 4] (.ret (.tup [.int .i64 10,.bool true])):=cK (.c k68 (.c k67 .nil))
theorem WP:CO 49 [.int .i64 10] (.ret (.str [10])):=bT (dn 10 (by decide)) (by kernel_rfl)
theorem k71:CO 50 [.str [1],.str [10]] (.ret (.str [10])):=cK (.c WP (.c k69 (.c k63 .nil)))
theorem k72:CO 51 [.bool false,.str [1],.str [10]] (.ret (.agg [.bool false,.str [1],.str [10]])):=bT (dP false 1 10 (aW (by decide)) (aW (by decide)) (by decide)) (by kernel_rfl)
theorem k73:CO 58 [.agg [.bool false,.str [1],.str [1]],.agg [.bool false,.str [10],.str [1]]] (.ret (.tup [.agg [.bool false,.str [1],.str [10]],.bool true])):=cK (.c k72 (.c k71 (.c k66 (.c k60 (.c k59 .nil)))))
theorem k74:CO 36 [.int .i64 5] (.ret (.agg [.bool false,.str [5],.str [1]])):=bT (yA 5 (by decide)) (by kernel_rfl)
theorem k75:CO 70 [.agg [.bool false,.str [5],.str [1]]] (.ret (.agg [.bool false,.str [5],.str [1]])):=bT (bV false [5] [1] (by decide) (by decide)) (by kernel_rfl)
theorem k76:CO 76 [.str [5]] (.ret (.str [5])):=cK (.nil)
theorem k77:CO 107 [.str [5]] (.ret (.tup [.int .i64 5,.bool true])):=cK (.c k76 .nil)
theorem k78:CO 77 [.str [5],.int .i64 4] (.ret (.tup [.int .i64 5,.bool true])):=cK (.c k77 (.c k76 .nil))
theorem k79:CO 49 [.int .i64 5] (.ret (.str [5])):=bT (dn 5 (by decide)) (by kernel_rfl)
theorem k80:CO 50 [.str [1],.str [5]] (.ret (.str [5])):=cK (.c k79 (.c k78 (.c k63 .nil)))
theorem k81:CO 51 [.bool false,.str [1],.str [5]] (.ret (.agg [.bool false,.str [1],.str [5]])):=bT (dP false 1 5 (aW (by decide)) (aW (by decide)) (by decide)) (by kernel_rfl)
theorem k82:CO 58 [.agg [.bool false,.str [1],.str [1]],.agg [.bool false,.str [5],.str [1]]] (.ret (.tup [.agg [.bool false,.str [1],.str [5]],.bool true])):=cK (.c k81 (.c k80 (.c k66 (.c k75 (.c k59 .nil)))))
theorem k83:CO 36 [.int .i64 0] (.ret (.agg [.bool false,.str [],.str [1]])):=bT (yA 0 (by decide)) (by kernel_rfl)
theorem UH:CO 28 [.int .i64 1] (.ret (.sl [.str [120],.int .i64 0,.int .i64 0,.sl zcc4_2 2 true] 1 true)):=cK (.c k74 (.c k83 (.c k82 (.c k74 (.c k57 (.c k73 (.c k58 (.c k57 .nil))))))))
theorem k85:CO 14 [.sl (aH wE) 3 true,.sl [.str [120],.int .i64 0,.int .i64 0,.sl zcc4_2 2 true] 1 true,.int .i64 6,.str [97]] (.ret (.int .i64 1)):=au.args (args:= [.sl (aH wE) 3 true,.sl [.str [120],.int .i64 0,.int .i64 0,.sl zcc4_2 2 false] 1 true,.int .i64 6,.str [97]]) (.cons (aT.refl _) (.cons (aT.slP (.same (.same (.same (.sl .nil))))) (.cons (aT.refl _) (.cons (aT.refl _) .nil)))) (bT (bU wE true sO true jo 6 [97] (jG (by kernel_rfl)) (by decide) (by decide) (gQ)) (by kernel_rfl))
theorem k86:CO 26 [.str Jp,.str [97],.int .i64 1] (.ret (.bool true)):=cK (.c k85 (.c UH (.c k56 .nil)))
theorem k87:CO 14 [.sl (aH wE) 3 true,.sl [.str [120],.int .i64 0,.int .i64 0,.sl zcc4_2 2 true] 1 true,.int .i64 6,.str [98]] (.ret (.int .i64 0)):=au.args (args:= [.sl (aH wE) 3 true,.sl [.str [120],.int .i64 0,.int .i64 0,.sl zcc4_2 2 false] 1 true,.int .i64 6,.str [98]]) (.cons (aT.refl _) (.cons (aT.slP (.same (.same (.same (.sl .nil))))) (.cons (aT.refl _) (.cons (aT.refl _) .nil)))) (bT (bU wE true sO true jo 6 [98] (jG (by kernel_rfl)) (by decide) (by decide) (gQ)) (by kernel_rfl))
theorem k88:CO 26 [.str Jp,.str [98],.int .i64 0] (.ret (.bool true)):=cK (.c k87 (.c UH (.c k56 .nil)))
theorem k89:au prog ap 90 [.ptr 0 0 0,.str [36]] (rA L_ 1) (.ret (.bool false)) (rA L_ 1):=cK (.nil)
theorem k90:au prog ap 92 [.ptr 0 0 0,.str o_] (rA L_ 1) (.ret (.str [115,117,98])) (rA ZQ 1):=bT (gu L_ o_ (1) false (by decide) (by decide)) (by kernel_rfl)
theorem k91:au prog ap 90 [.ptr 0 0 0,.str [46]] (rA ZQ 1) (.ret (.bool false)) (rA ZQ 1):=cK (.nil)
theorem k92:CO 32 [.int .i64 10] (.ret (.bool false)):=cK (.nil)
theorem k93:CO 34 [.int .i64 10] (.ret (.bool false)):=cK (.nil)
theorem SV:CO 30 [.int .i64 10] (.ret (.int .i64 2)):=cK (.nil)
theorem k95:au prog ap 90 [.ptr 0 0 0,.str [40]] (rA ZQ 1) (.ret (.bool true)) (rA SB 1):=cK (.nil)
theorem k96:au prog ap 90 [.ptr 0 0 0,.str [36]] (rA SB 2) (.ret (.bool false)) (rA SB 2):=cK (.nil)
theorem k97:au prog ap 92 [.ptr 0 0 0,.str o_] (rA SB 2) (.ret (.str [111,119,110])) (rA anE 2):=bT (gu SB o_ (2) false (by decide) (by decide)) (by kernel_rfl)
theorem k98:au prog ap 90 [.ptr 0 0 0,.str [46]] (rA anE 2) (.ret (.bool true)) (rA adN 2):=cK (.nil)
theorem k99:au prog ap 92 [.ptr 0 0 0,.str BK] (rA adN 2) (.ret (.str [97])) (rA Jq 2):=bT (gu adN BK (2) false (by decide) (by decide)) (by kernel_rfl)
theorem apW:au prog ap 56 [.ptr 0 0 0] (rA SB 1) (.ret (.tup [])) (rB Jq 1 2 dR):=cK (.c qO (.c qO (.c Fp (.c k99 (.c GG (.c Dx (.c Fj (.c Fh (.c Fg (.c Ff (.c Fe (.c Fb (.c Fa (.c Dw (.c Dv (.c E_ (.c E9 (.c Bh (.c k9 (.c k8 (.c k7 (.c k6 (.c k5 (.c k4 (.c k3 (.c k98 (.c k97 (.c k96 .nil))))))))))))))))))))))))))))
theorem apX:au prog ap 90 [.ptr 0 0 0,.str [44,32]] (rB Jq 1 2 dR) (.ret (.bool true)) (rB sV 1 2 dR):=cK (.nil)
theorem apY:au prog ap 90 [.ptr 0 0 0,.str [36]] (rB sV 1 3 dR) (.ret (.bool false)) (rB sV 1 3 dR):=cK (.nil)
theorem apZ:au prog ap 92 [.ptr 0 0 0,.str o_] (rB sV 1 3 dR) (.ret (.str [111,119,110])) (rB [46,97,41] 1 3 dR):=bT (jP sV o_ (3) false 1 dR (by decide) (by decide)) (by kernel_rfl)
theorem ap0:au prog ap 56 [.ptr 0 0 0] (rB sV 1 2 dR) (.ret (.tup [])) [⟨[.str [41],.ref 1 1 0 2,.int .i64 3,.bool false],0,false,0,0,false⟩,⟨zo6,1,false,0,5,true⟩]:=cK (.c qO (.c qO (.c Fp (.c k40 (.c GG (.c Dx (.c Fj (.c Fh (.c Fg (.c Ff (.c Fe (.c Fb (.c Fa (.c Dw (.c Dv (.c E_ (.c E9 (.c Bh (.c k9 (.c k8 (.c k7 (.c k6 (.c k5 (.c k4 (.c k3 (.c k38 (.c apZ (.c apY .nil))))))))))))))))))))))))))))
theorem ap1:au prog ap 90 [.ptr 0 0 0,.str [41]] (rB [41] 2 3 zo6) (.ret (.bool true)) (rB [] 2 3 zo6):=cK (.nil)
theorem ap2:au prog ap 56 [.ptr 0 0 0] (rA L_ 0) (.ret (.tup [])) [⟨[.str [],.ref 1 0 0 3,.int .i64 3,.bool false],0,false,0,0,false⟩,⟨(aH ED),0,false,0,5,true⟩]:=cK (.c ap1 (.c SV (.c SV (.c ap0 (.c apX (.c SV (.c apW (.c k95 (.c SV (.c k93 (.c k92 (.c Dx (.c Fj (.c Fh (.c Fg (.c Ff (.c Fe (.c Fb (.c Fa (.c Dw (.c Dv (.c E_ (.c E9 (.c Bh (.c k9 (.c k8 (.c k7 (.c k6 (.c k5 (.c k4 (.c k3 (.c k91 (.c k90 (.c k89 .nil))))))))))))))))))))))))))))))))))
theorem abN:CO 94 [.int .i64 10] (.ret (.bool false)):=cK (.nil)
theorem ajX:CO 74 [.agg [.int .i64 10,.bool false,.str [],.str [],.str []]] (.ret (.bool true)):=cK (.c k93 (.c abN .nil))
theorem ap3:CO 48 [.sl (aH ED) 3 true] (.ret (.int .i64 0)):=cK (.c SV (.c NH (.c ajX (.c k92 (.c qO (.c WO (.c X_ (.c GG (.c qO (.c WO (.c X_ (.c GG .nil))))))))))))
theorem ap4:CO 57 [.sl (aH ED) 3 true] (.ret (.tup [.str L_,.int .i64 0])):=cK (.c k93 (.c abN (.c k8 (.c SV (.c Fp (.c SS (.c k4 (.c qO (.c Fp (.c SS (.c k4 (.c qO (.c ap3 .nil)))))))))))))
theorem ap5:CO 27 [.str L_] (.ret (.tup [.sl (aH ED) 3 true,.int .i64 0])):=cK (.c ap4 (.c ap2 .nil))
theorem ap6:CO 14 [.sl (aH ED) 3 true,.sl [.str [120],.int .i64 0,.int .i64 0,.sl zcc4_2 2 true] 1 true,.int .i64 6,.str [97]] (.ret (.int .i64 3)):=au.args (args:= [.sl (aH ED) 3 true,.sl [.str [120],.int .i64 0,.int .i64 0,.sl zcc4_2 2 false] 1 true,.int .i64 6,.str [97]]) (.cons (aT.refl _) (.cons (aT.slP (.same (.same (.same (.sl .nil))))) (.cons (aT.refl _) (.cons (aT.refl _) .nil)))) (bT (bU ED true sO true jo 6 [97] (jG (by kernel_rfl)) (by decide) (by decide) (gQ)) (by kernel_rfl))
theorem ap7:CO 26 [.str L_,.str [97],.int .i64 3] (.ret (.bool true)):=cK (.c ap6 (.c UH (.c ap5 .nil)))
theorem ap8:au prog ap 90 [.ptr 0 0 0,.str [36]] (rA zs5 1) (.ret (.bool false)) (rA zs5 1):=cK (.nil)
theorem ap9:au prog ap 92 [.ptr 0 0 0,.str o_] (rA zs5 1) (.ret (.str [115,117,98])) (rA zs7 1):=bT (gu zs5 o_ (1) false (by decide) (by decide)) (by kernel_rfl)
theorem ap_:au prog ap 90 [.ptr 0 0 0,.str [46]] (rA zs7 1) (.ret (.bool false)) (rA zs7 1):=cK (.nil)
theorem aqa:au prog ap 90 [.ptr 0 0 0,.str [40]] (rA zs7 1) (.ret (.bool true)) (rA zs9 1):=cK (.nil)
theorem aqb:au prog ap 90 [.ptr 0 0 0,.str [36]] (rA zs9 2) (.ret (.bool true)) (rA WG 2):=cK (.nil)
theorem aqc:au prog ap 92 [.ptr 0 0 0,.str AU] (rA WG 2) (.ret (.str [53])) (rA Su 2):=bT (gu WG AU (2) false (by decide) (by decide)) (by kernel_rfl)
theorem XZ:CO 76 [.str []] (.ret (.str [])):=cK (.nil)
theorem ajY:CO 107 [.str []] (.ret (.tup [.int .i64 0,.bool true])):=cK (.c XZ .nil)
theorem aqd:CO 77 [.str [],.int .i64 3] (.ret (.tup [.int .i64 0,.bool true])):=cK (.c ajY (.c XZ .nil))
theorem X0:CO 49 [.int .i64 0] (.ret (.str [])):=bT (dn 0 (by decide)) (by kernel_rfl)
theorem UB:CO 50 [.str [],.str [10]] (.ret (.str [])):=cK (.c X0 (.c k69 (.c aqd .nil)))
theorem QK:CO 77 [.str [],.int .i64 7] (.ret (.tup [.int .i64 0,.bool true])):=cK (.c ajY (.c XZ .nil))
theorem aqe:CO 77 [.str [5],.int .i64 7] (.ret (.tup [.int .i64 5,.bool true])):=cK (.c k77 (.c k76 .nil))
theorem aqf:CO 61 [.str [],.str [5]] (.ret (.str [5])):=cK (.c k79 (.c aqe (.c QK .nil)))
theorem aqg:CO 157 [.str [53]] (.ret (.tup [.str [5],.bool true])):=cK (.c aqf (.c k79 (.c UB (.c WP .nil))))
theorem aqh:CO 77 [.str [1],.int .i64 7] (.ret (.tup [.int .i64 1,.bool true])):=cK (.c k62 (.c k61 .nil))
theorem ajZ:CO 61 [.str [],.str [1]] (.ret (.str [1])):=cK (.c UG (.c aqh (.c QK .nil)))
theorem NE:CO 157 [.str [49]] (.ret (.tup [.str [1],.bool true])):=cK (.c ajZ (.c UG (.c UB (.c WP .nil))))
theorem aqi:CO 128 [.str [5]] (.ret (.bool true)):=bT (xh [5]) (by kernel_rfl)
theorem NF:CO 128 [.str [1]] (.ret (.bool true)):=bT (xh [1]) (by kernel_rfl)
theorem aqj:CO 51 [.bool false,.str [5],.str [1]] (.ret (.agg [.bool false,.str [5],.str [1]])):=bT (dP false 5 1 (aW (by decide)) (aW (by decide)) (by decide)) (by kernel_rfl)
theorem aqk:CO 96 [.bool false,.str [5],.str [1]] (.ret (.tup [.agg [.bool false,.str [5],.str [1]],.bool true])):=cK (.c aqj (.c NF (.c aqi .nil)))
theorem aql:CO 81 [.str [5],.str [10]] (.ret (.tup [.str [],.str [5],.bool true])):=bT (rP [5] [10] (by decide) (by decide) (by decide)) (by kernel_rfl)
theorem aqm:CO 127 [.str [5]] (.ret (.str [53])):=cK (.c k77 (.c aql (.c WP (.c k76 .nil))))
theorem UC:CO 118 [.str [1],.str [1]] (.ret (.int .i64 0)):=cK (.c k61 (.c k61 .nil))
theorem aj0:CO 95 [.agg [.bool false,.str [5],.str [1]]] (.ret (.str [53])):=cK (.c UC (.c UG (.c aqm (.c k75 .nil))))
theorem aqn:CO 126 [.str [53]] (.ret (.tup [.agg [.bool false,.str [5],.str [1]],.bool true])):=cK (.c aj0 (.c aqk (.c NE (.c aqg .nil))))
theorem aqo:au prog ap 91 [.ptr 0 0 0] (rA WG 2) (.ret (.agg [.bool false,.str [5],.str [1]])) (rA Su 2):=cK (.c aqn (.c aqc .nil))
theorem aj1:aI prog ap (rA zs9 1) 206 (uB 5 (af f56)) ⟨([(0,.ptr 0 0 0),(2,.bool true)]++dE [3,4,5,6,7,8,9,10,11,12,13,14,15]++ [(41,.bool false),(47,.bool true)]++dE [65,70,100,102,117,122,128,133,139,145,158,166,170,175,184,188,192]),[(0,⟨[.str WG,.nilS,.int .i64 2,.bool false],0,false,0,0,true⟩)],.dead,[]⟩ (.normal) ⟨([(0,.ptr 0 0 0),(2,.bool true)]++dE [3,4,5,6,7,8,9,10,11,12,13,14,15]++ [(41,.bool false),(47,.bool true)]++dE [65,70,100,102,117,122,128,133,139,145,158,166,170,175,184,188,192]),[(0,⟨[.str Su,.ref 1 0 0 1,.int .i64 2,.bool false],0,false,0,0,false⟩),(1,⟨lX,0,false,0,5,true⟩)],.dead,[]⟩:=fun nt a=>BC IC (keep:=uj ap 56) (i:=4) (b:=0) (d:=52) (nt0:=206) (ans:= [(.ret (.agg [.bool false,.str [5],.str [1]]),(rA Su 2))]) (.cons (rfl:(.nilS:AV)=(.nilS:AV)) (.cons (rfl:(.nilS:AV)=(.nilS:AV)) (.cons aqo .nil))) a (by kernel_rfl)
theorem aqp:au prog ap 56 [.ptr 0 0 0] (rA zs9 1) (.ret (.tup [])) (rB Su 1 2 lX):=pK [1005] 4 8 (.n 9 .nil) (.l aj1 (.c aqb .nil))
theorem aqr:au prog ap 90 [.ptr 0 0 0,.str [44,32]] (rB Su 1 2 lX) (.ret (.bool true)) (rB Sv 1 2 lX):=cK (.nil)
theorem aqs:au prog ap 90 [.ptr 0 0 0,.str [36]] (rB Sv 1 3 lX) (.ret (.bool false)) (rB Sv 1 3 lX):=cK (.nil)
theorem aqt:au prog ap 92 [.ptr 0 0 0,.str o_] (rB Sv 1 3 lX) (.ret (.str [109,117,108])) (rB ZR 1 3 lX):=bT (jP Sv o_ (3) false 1 lX (by decide) (by decide)) (by kernel_rfl)
theorem aqu:au prog ap 90 [.ptr 0 0 0,.str [46]] (rB ZR 1 3 lX) (.ret (.bool false)) (rB ZR 1 3 lX):=cK (.nil)
theorem X3:CO 32 [.int .i64 11] (.ret (.bool false)):=cK (.nil)
theorem UD:CO 34 [.int .i64 11] (.ret (.bool false)):=cK (.nil)
theorem AC:CO 30 [.int .i64 11] (.ret (.int .i64 2)):=cK (.nil)
theorem aqv:au prog ap 90 [.ptr 0 0 0,.str [40]] (rB ZR 1 3 lX) (.ret (.bool true)) (rB OH 1 3 lX):=cK (.nil)
theorem aqw:au prog ap 90 [.ptr 0 0 0,.str [36]] (rB OH 1 4 lX) (.ret (.bool false)) (rB OH 1 4 lX):=cK (.nil)
theorem aqx:au prog ap 92 [.ptr 0 0 0,.str AU] (rB OH 1 4 lX) (.ret (.str adV)) (rB SI 1 4 lX):=bT (jP OH AU (4) false 1 lX (by decide) (by decide)) (by kernel_rfl)
theorem aj2:CO 49 [.int .i64 2] (.ret (.str [2])):=bT (dn 2 (by decide)) (by kernel_rfl)
theorem X4:CO 76 [.str [2]] (.ret (.str [2])):=cK (.nil)
theorem aj3:CO 107 [.str [2]] (.ret (.tup [.int .i64 2,.bool true])):=cK (.c X4 .nil)
theorem aqy:CO 77 [.str [2],.int .i64 7] (.ret (.tup [.int .i64 2,.bool true])):=cK (.c aj3 (.c X4 .nil))
theorem aqz:CO 61 [.str [],.str [2]] (.ret (.str [2])):=cK (.c aj2 (.c aqy (.c QK .nil)))
theorem aj6:CO 157 [.str [50]] (.ret (.tup [.str [2],.bool true])):=cK (.c aqz (.c aj2 (.c UB (.c WP .nil))))
theorem aj7:CO 128 [.str [2]] (.ret (.bool true)):=bT (xh [2]) (by kernel_rfl)
theorem aqA:CO 51 [.bool true,.str [1],.str [2]] (.ret (.agg [.bool true,.str [1],.str [2]])):=bT (dP true 1 2 (aW (by decide)) (aW (by decide)) (by decide)) (by kernel_rfl)
theorem aqB:CO 96 [.bool true,.str [1],.str [2]] (.ret (.tup [.agg [.bool true,.str [1],.str [2]],.bool true])):=cK (.c aqA (.c aj7 (.c NF .nil)))
theorem aqC:CO 70 [.agg [.bool true,.str [1],.str [2]]] (.ret (.agg [.bool true,.str [1],.str [2]])):=bT (bV true [1] [2] (by decide) (by decide)) (by kernel_rfl)
theorem aqD:CO 81 [.str [1],.str [10]] (.ret (.tup [.str [],.str [1],.bool true])):=bT (rP [1] [10] (by decide) (by decide) (by decide)) (by kernel_rfl)
theorem aj8:CO 127 [.str [1]] (.ret (.str [49])):=cK (.c k62 (.c aqD (.c WP (.c k61 .nil))))
theorem aqE:CO 118 [.str [2],.str [1]] (.ret (.int .i64 1)):=cK (.c k61 (.c X4 .nil))
theorem aqF:CO 81 [.str [2],.str [10]] (.ret (.tup [.str [],.str [2],.bool true])):=bT (rP [2] [10] (by decide) (by decide) (by decide)) (by kernel_rfl)
theorem aj9:CO 127 [.str [2]] (.ret (.str [50])):=cK (.c aj3 (.c aqF (.c WP (.c X4 .nil))))
theorem aj_:CO 95 [.agg [.bool true,.str [1],.str [2]]] (.ret (.str adV)):=cK (.c aj9 (.c aqE (.c UG (.c aj8 (.c aqC .nil)))))
theorem aqG:CO 126 [.str adV] (.ret (.tup [.agg [.bool true,.str [1],.str [2]],.bool true])):=cK (.c aj_ (.c aqB (.c aj6 (.c NE .nil))))
theorem aqH:au prog ap 91 [.ptr 0 0 0] (rB OH 1 4 lX) (.ret (.agg [.bool true,.str [1],.str [2]])) (rB SI 1 4 lX):=cK (.c aqG (.c aqx .nil))
theorem aqI:au prog ap 90 [.ptr 0 0 0,.str [100]] (rB SI 1 4 lX) (.ret (.bool false)) (rB SI 1 4 lX):=cK (.nil)
theorem aqJ:au prog ap 56 [.ptr 0 0 0] (rB OH 1 3 lX) (.ret (.tup [])) [⟨[.str SI,.ref 1 1 0 2,.int .i64 4,.bool false],0,false,0,0,false⟩,⟨yN,1,false,0,5,true⟩]:=cK (.c aqI (.c aqH (.c aqw .nil)))
theorem aqK:au prog ap 90 [.ptr 0 0 0,.str [44,32]] (rB SI 2 4 yN) (.ret (.bool true)) (rB SK 2 4 yN):=cK (.nil)
theorem aqL:au prog ap 90 [.ptr 0 0 0,.str [36]] (rB SK 2 5 yN) (.ret (.bool false)) (rB SK 2 5 yN):=cK (.nil)
theorem aqM:au prog ap 92 [.ptr 0 0 0,.str o_] (rB SK 2 5 yN) (.ret (.str [111,119,110])) (rB anL 2 5 yN):=bT (jP SK o_ (5) false 2 yN (by decide) (by decide)) (by kernel_rfl)
theorem aqN:au prog ap 90 [.ptr 0 0 0,.str [46]] (rB anL 2 5 yN) (.ret (.bool true)) (rB [97,41,41] 2 5 yN):=cK (.nil)
theorem aqO:au prog ap 92 [.ptr 0 0 0,.str BK] (rB [97,41,41] 2 5 yN) (.ret (.str [97])) (rB [41,41] 2 5 yN):=bT (jP [97,41,41] BK (5) false 2 yN (by decide) (by decide)) (by kernel_rfl)
theorem aqP:au prog ap 56 [.ptr 0 0 0] (rB SK 2 4 yN) (.ret (.tup [])) [⟨[.str [41,41],.ref 1 1 0 3,.int .i64 5,.bool false],0,false,0,0,false⟩,⟨zo3,1,false,0,5,true⟩]:=cK (.c qO (.c qO (.c Fp (.c aqO (.c GG (.c Dx (.c Fj (.c Fh (.c Fg (.c Ff (.c Fe (.c Fb (.c Fa (.c Dw (.c Dv (.c E_ (.c E9 (.c Bh (.c k9 (.c k8 (.c k7 (.c k6 (.c k5 (.c k4 (.c k3 (.c aqN (.c aqM (.c aqL .nil))))))))))))))))))))))))))))
theorem aqQ:au prog ap 90 [.ptr 0 0 0,.str [41]] (rB [41,41] 3 5 zo3) (.ret (.bool true)) (rB [41] 3 5 zo3):=cK (.nil)
theorem aqR:au prog ap 56 [.ptr 0 0 0] (rB Sv 1 2 lX) (.ret (.tup [])) [⟨[.str [41],.ref 1 3 0 4,.int .i64 5,.bool false],0,false,0,0,false⟩,⟨zo2,3,false,0,5,true⟩]:=cK (.c aqQ (.c AC (.c AC (.c aqP (.c aqK (.c AC (.c aqJ (.c aqv (.c AC (.c UD (.c X3 (.c Dx (.c Fj (.c Fh (.c Fg (.c Ff (.c Fe (.c Fb (.c Fa (.c Dw (.c Dv (.c E_ (.c E9 (.c Bh (.c k9 (.c k8 (.c k7 (.c k6 (.c k5 (.c k4 (.c k3 (.c aqu (.c aqt (.c aqs .nil))))))))))))))))))))))))))))))))))
theorem aqS:au prog ap 90 [.ptr 0 0 0,.str [41]] (rB [41] 4 5 zo2) (.ret (.bool true)) (rB [] 4 5 zo2):=cK (.nil)
theorem aqT:au prog ap 56 [.ptr 0 0 0] (rA zs5 0) (.ret (.tup [])) [⟨[.str [],.ref 1 0 0 5,.int .i64 5,.bool false],0,false,0,0,false⟩,⟨(aH EE),0,false,0,5,true⟩]:=cK (.c aqS (.c SV (.c SV (.c aqR (.c aqr (.c SV (.c aqp (.c aqa (.c SV (.c k93 (.c k92 (.c Dx (.c Fj (.c Fh (.c Fg (.c Ff (.c Fe (.c Fb (.c Fa (.c Dw (.c Dv (.c E_ (.c E9 (.c Bh (.c k9 (.c k8 (.c k7 (.c k6 (.c k5 (.c k4 (.c k3 (.c ap_ (.c ap9 (.c ap8 .nil))))))))))))))))))))))))))))))))))
theorem X5:CO 32 [.int .i64 1] (.ret (.bool false)):=cK (.nil)
theorem Kw:CO 94 [.int .i64 1] (.ret (.bool true)):=cK (.nil)
theorem aqU:CO 105 [.agg [.bool false,.str [5],.str [1]]] (.ret (.bool true)):=bT (iU false [5] [1] (by decide) (by decide)) (by kernel_rfl)
theorem aqV:CO 74 [.agg lX] (.ret (.bool true)):=cK (.c aqU (.c Kw .nil))
theorem Ky:CO 30 [.int .i64 1] (.ret (.int .i64 0)):=cK (.nil)
theorem aka:CO 32 [.int .i64 3] (.ret (.bool false)):=cK (.nil)
theorem X6:CO 94 [.int .i64 3] (.ret (.bool true)):=cK (.nil)
theorem aqW:CO 105 [.agg [.bool true,.str [1],.str [2]]] (.ret (.bool true)):=bT (iU true [1] [2] (by decide) (by decide)) (by kernel_rfl)
theorem aqX:CO 74 [.agg [.int .i64 3,.bool true,.str [1],.str [2],.str []]] (.ret (.bool true)):=cK (.c aqW (.c X6 .nil))
theorem X7:CO 30 [.int .i64 3] (.ret (.int .i64 0)):=cK (.nil)
theorem abO:CO 94 [.int .i64 11] (.ret (.bool false)):=cK (.nil)
theorem akb:CO 74 [.agg [.int .i64 11,.bool false,.str [],.str [],.str []]] (.ret (.bool true)):=cK (.c UD (.c abO .nil))
theorem aqY:CO 48 [.sl (aH EE) 5 true] (.ret (.int .i64 0)):=cK (.c SV (.c NH (.c ajX (.c k92 (.c AC (.c NH (.c akb (.c X3 (.c qO (.c WO (.c X_ (.c GG (.c X7 (.c NH (.c aqX (.c aka (.c Ky (.c NH (.c aqV (.c X5 .nil))))))))))))))))))))
theorem X8:CO 93 [.int .i64 1] (.ret (.str [36])):=cK (.nil)
theorem akc:CO 93 [.int .i64 3] (.ret (.str [])):=cK (.nil)
theorem aqZ:CO 57 [.sl (aH EE) 5 true] (.ret (.tup [.str zs5,.int .i64 0])):=cK (.c k93 (.c abN (.c k8 (.c SV (.c UD (.c abO (.c k9 (.c AC (.c Fp (.c SS (.c k4 (.c qO (.c aj_ (.c X6 (.c akc (.c X7 (.c aj0 (.c Kw (.c X8 (.c Ky (.c aqY .nil)))))))))))))))))))))
theorem aq0:CO 27 [.str zs5] (.ret (.tup [.sl (aH EE) 5 true,.int .i64 0])):=cK (.c aqZ (.c aqT .nil))
theorem aq1:CO 14 [.sl (aH EE) 5 true,.sl [.str [120],.int .i64 0,.int .i64 0,.sl zcc4_2 2 true] 1 true,.int .i64 6,.str [97]] (.ret (.int .i64 1)):=au.args (args:= [.sl (aH EE) 5 true,.sl [.str [120],.int .i64 0,.int .i64 0,.sl zcc4_2 2 false] 1 true,.int .i64 6,.str [97]]) (.cons (aT.refl _) (.cons (aT.slP (.same (.same (.same (.sl .nil))))) (.cons (aT.refl _) (.cons (aT.refl _) .nil)))) (bT (bU EE true sO true jo 6 [97] (jG (by kernel_rfl)) (by decide) (by decide) (gQ)) (by kernel_rfl))
theorem aq2:CO 26 [.str zs5,.str [97],.int .i64 1] (.ret (.bool true)):=cK (.c aq1 (.c UH (.c aq0 .nil)))
theorem aq3:au prog ap 90 [.ptr 0 0 0,.str [36]] (rA L9 1) (.ret (.bool false)) (rA L9 1):=cK (.nil)
theorem aq4:au prog ap 92 [.ptr 0 0 0,.str o_] (rA L9 1) (.ret (.str [109,117,108])) (rA ZO 1):=bT (gu L9 o_ (1) false (by decide) (by decide)) (by kernel_rfl)
theorem aq5:au prog ap 90 [.ptr 0 0 0,.str [46]] (rA ZO 1) (.ret (.bool false)) (rA ZO 1):=cK (.nil)
theorem aq6:au prog ap 90 [.ptr 0 0 0,.str [40]] (rA ZO 1) (.ret (.bool true)) (rA SA 1):=cK (.nil)
theorem aq7:au prog ap 90 [.ptr 0 0 0,.str [36]] (rA SA 2) (.ret (.bool false)) (rA SA 2):=cK (.nil)
theorem aq8:au prog ap 92 [.ptr 0 0 0,.str o_] (rA SA 2) (.ret (.str [111,119,110])) (rA anD 2):=bT (gu SA o_ (2) false (by decide) (by decide)) (by kernel_rfl)
theorem aq9:au prog ap 90 [.ptr 0 0 0,.str [46]] (rA anD 2) (.ret (.bool true)) (rA adM 2):=cK (.nil)
theorem aq_:au prog ap 92 [.ptr 0 0 0,.str BK] (rA adM 2) (.ret (.str [97])) (rA adP 2):=bT (gu adM BK (2) false (by decide) (by decide)) (by kernel_rfl)
theorem ara:au prog ap 56 [.ptr 0 0 0] (rA SA 1) (.ret (.tup [])) (rB adP 1 2 dR):=cK (.c qO (.c qO (.c Fp (.c aq_ (.c GG (.c Dx (.c Fj (.c Fh (.c Fg (.c Ff (.c Fe (.c Fb (.c Fa (.c Dw (.c Dv (.c E_ (.c E9 (.c Bh (.c k9 (.c k8 (.c k7 (.c k6 (.c k5 (.c k4 (.c k3 (.c aq9 (.c aq8 (.c aq7 .nil))))))))))))))))))))))))))))
theorem arb:au prog ap 90 [.ptr 0 0 0,.str [44,32]] (rB adP 1 2 dR) (.ret (.bool true)) (rB SN 1 2 dR):=cK (.nil)
theorem arc:au prog ap 90 [.ptr 0 0 0,.str [36]] (rB SN 1 3 dR) (.ret (.bool false)) (rB SN 1 3 dR):=cK (.nil)
theorem ard:au prog ap 92 [.ptr 0 0 0,.str o_] (rB SN 1 3 dR) (.ret (.str anK)) (rB [46,98,41] 1 3 dR):=bT (jP SN o_ (3) false 1 dR (by decide) (by decide)) (by kernel_rfl)
theorem arf:au prog ap 90 [.ptr 0 0 0,.str [46]] (rB [46,98,41] 1 3 dR) (.ret (.bool true)) (rB [98,41] 1 3 dR):=cK (.nil)
theorem arh:au prog ap 92 [.ptr 0 0 0,.str BK] (rB [98,41] 1 3 dR) (.ret (.str [98])) (rB [41] 1 3 dR):=bT (jP [98,41] BK (3) false 1 dR (by decide) (by decide)) (by kernel_rfl)
theorem ari:au prog ap 56 [.ptr 0 0 0] (rB SN 1 2 dR) (.ret (.tup [])) [⟨[.str [41],.ref 1 1 0 2,.int .i64 3,.bool false],0,false,0,0,false⟩,⟨zo7,1,false,0,5,true⟩]:=cK (.c k42 (.c k42 (.c k41 (.c arh (.c k39 (.c Dx (.c Fj (.c Fh (.c Fg (.c Ff (.c Fe (.c Fb (.c Fa (.c Dw (.c Dv (.c E_ (.c E9 (.c Bh (.c k9 (.c k8 (.c k7 (.c k6 (.c k5 (.c k4 (.c k3 (.c arf (.c ard (.c arc .nil))))))))))))))))))))))))))))
theorem arj:au prog ap 90 [.ptr 0 0 0,.str [41]] (rB [41] 2 3 zo7) (.ret (.bool true)) (rB [] 2 3 zo7):=cK (.nil)
theorem ark:au prog ap 56 [.ptr 0 0 0] (rA L9 0) (.ret (.tup [])) [⟨[.str [],.ref 1 0 0 3,.int .i64 3,.bool false],0,false,0,0,false⟩,⟨(aH l_),0,false,0,5,true⟩]:=cK (.c arj (.c AC (.c AC (.c ari (.c arb (.c AC (.c ara (.c aq6 (.c AC (.c UD (.c X3 (.c Dx (.c Fj (.c Fh (.c Fg (.c Ff (.c Fe (.c Fb (.c Fa (.c Dw (.c Dv (.c E_ (.c E9 (.c Bh (.c k9 (.c k8 (.c k7 (.c k6 (.c k5 (.c k4 (.c k3 (.c aq5 (.c aq4 (.c aq3 .nil))))))))))))))))))))))))))))))))))
theorem arl:CO 74 [.agg [.int .i64 5,.bool false,.str [],.str [],.str [98]]] (.ret (.bool true)):=cK (.c k41 (.c k49 .nil))
theorem akd:CO 75 [.str [98]] (.ret (.bool true)):=cK (.nil)
theorem arn:CO 48 [.sl (aH l_) 3 true] (.ret (.int .i64 0)):=cK (.c AC (.c NH (.c akb (.c X3 (.c k42 (.c akd (.c arl (.c k39 (.c qO (.c WO (.c X_ (.c GG .nil))))))))))))
theorem aro:CO 57 [.sl (aH l_) 3 true] (.ret (.tup [.str L9,.int .i64 0])):=cK (.c UD (.c abO (.c k9 (.c AC (.c k41 (.c k49 (.c k3 (.c k42 (.c Fp (.c SS (.c k4 (.c qO (.c arn .nil)))))))))))))
theorem ake:CO 27 [.str L9] (.ret (.tup [.sl (aH l_) 3 true,.int .i64 0])):=cK (.c aro (.c ark .nil))
theorem arp:CO 14 [.sl (aH l_) 3 true,.sl [.str [120],.int .i64 0,.int .i64 0,.sl zcc4_2 2 true] 1 true,.int .i64 6,.str [97]] (.ret (.int .i64 3)):=au.args (args:= [.sl (aH l_) 3 true,.sl [.str [120],.int .i64 0,.int .i64 0,.sl zcc4_2 2 false] 1 true,.int .i64 6,.str [97]]) (.cons (aT.refl _) (.cons (aT.slP (.same (.same (.same (.sl .nil))))) (.cons (aT.refl _) (.cons (aT.refl _) .nil)))) (bT (bU l_ true sO true jo 6 [97] (jG (by kernel_rfl)) (by decide) (by decide) (gQ)) (by kernel_rfl))
theorem arq:CO 26 [.str L9,.str [97],.int .i64 3] (.ret (.bool true)):=cK (.c arp (.c UH (.c ake .nil)))
theorem ars:au prog ap 90 [.ptr 0 0 0,.str [36]] (rA Mc 1) (.ret (.bool false)) (rA Mc 1):=cK (.nil)
theorem art:au prog ap 92 [.ptr 0 0 0,.str o_] (rA Mc 1) (.ret (.str [100,105,118])) (rA ZT 1):=bT (gu Mc o_ (1) false (by decide) (by decide)) (by kernel_rfl)
theorem aru:au prog ap 90 [.ptr 0 0 0,.str [46]] (rA ZT 1) (.ret (.bool false)) (rA ZT 1):=cK (.nil)
theorem X9:CO 32 [.int .i64 12] (.ret (.bool false)):=cK (.nil)
theorem UE:CO 34 [.int .i64 12] (.ret (.bool false)):=cK (.nil)
theorem AL:CO 30 [.int .i64 12] (.ret (.int .i64 2)):=cK (.nil)
theorem arv:au prog ap 90 [.ptr 0 0 0,.str [40]] (rA ZT 1) (.ret (.bool true)) (rA ZV 1):=cK (.nil)
theorem arw:au prog ap 90 [.ptr 0 0 0,.str [36]] (rA ZV 2) (.ret (.bool true)) (rA WI 2):=cK (.nil)
theorem arx:au prog ap 92 [.ptr 0 0 0,.str AU] (rA WI 2) (.ret (.str [49])) (rA Jq 2):=bT (gu WI AU (2) false (by decide) (by decide)) (by kernel_rfl)
theorem ary:CO 51 [.bool false,.str [1],.str [1]] (.ret (.agg [.bool false,.str [1],.str [1]])):=bT (dP false 1 1 (aW (by decide)) (aW (by decide)) (by decide)) (by kernel_rfl)
theorem arz:CO 96 [.bool false,.str [1],.str [1]] (.ret (.tup [.agg [.bool false,.str [1],.str [1]],.bool true])):=cK (.c ary (.c NF (.c NF .nil)))
theorem akf:CO 95 [.agg [.bool false,.str [1],.str [1]]] (.ret (.str [49])):=cK (.c UC (.c UG (.c aj8 (.c k59 .nil))))
theorem arA:CO 126 [.str [49]] (.ret (.tup [.agg [.bool false,.str [1],.str [1]],.bool true])):=cK (.c akf (.c arz (.c NE (.c NE .nil))))
theorem arB:au prog ap 91 [.ptr 0 0 0] (rA WI 2) (.ret (.agg [.bool false,.str [1],.str [1]])) (rA Jq 2):=cK (.c arA (.c arx .nil))
theorem akg:aI prog ap (rA ZV 1) 206 (uB 5 (af f56)) ⟨([(0,.ptr 0 0 0),(2,.bool true)]++dE [3,4,5,6,7,8,9,10,11,12,13,14,15]++ [(41,.bool false),(47,.bool true)]++dE [65,70,100,102,117,122,128,133,139,145,158,166,170,175,184,188,192]),[(0,⟨[.str WI,.nilS,.int .i64 2,.bool false],0,false,0,0,true⟩)],.dead,[]⟩ (.normal) ⟨([(0,.ptr 0 0 0),(2,.bool true)]++dE [3,4,5,6,7,8,9,10,11,12,13,14,15]++ [(41,.bool false),(47,.bool true)]++dE [65,70,100,102,117,122,128,133,139,145,158,166,170,175,184,188,192]),[(0,⟨[.str Jq,.ref 1 0 0 1,.int .i64 2,.bool false],0,false,0,0,false⟩),(1,⟨vS,0,false,0,5,true⟩)],.dead,[]⟩:=fun nt a=>BC IC (keep:=uj ap 56) (i:=4) (b:=0) (d:=52) (nt0:=206) (ans:= [(.ret (.agg [.bool false,.str [1],.str [1]]),(rA Jq 2))]) (.cons (rfl:(.nilS:AV)=(.nilS:AV)) (.cons (rfl:(.nilS:AV)=(.nilS:AV)) (.cons arB .nil))) a (by kernel_rfl)
theorem arC:au prog ap 56 [.ptr 0 0 0] (rA ZV 1) (.ret (.tup [])) (rB Jq 1 2 vS):=pK [1005] 4 8 (.n 9 .nil) (.l akg (.c arw .nil))
theorem arD:au prog ap 90 [.ptr 0 0 0,.str [44,32]] (rB Jq 1 2 vS) (.ret (.bool true)) (rB sV 1 2 vS):=cK (.nil)
theorem arE:au prog ap 90 [.ptr 0 0 0,.str [36]] (rB sV 1 3 vS) (.ret (.bool false)) (rB sV 1 3 vS):=cK (.nil)
theorem arF:au prog ap 92 [.ptr 0 0 0,.str o_] (rB sV 1 3 vS) (.ret (.str [111,119,110])) (rB [46,97,41] 1 3 vS):=bT (jP sV o_ (3) false 1 vS (by decide) (by decide)) (by kernel_rfl)
theorem arG:au prog ap 90 [.ptr 0 0 0,.str [46]] (rB [46,97,41] 1 3 vS) (.ret (.bool true)) (rB [97,41] 1 3 vS):=cK (.nil)
theorem arH:au prog ap 92 [.ptr 0 0 0,.str BK] (rB [97,41] 1 3 vS) (.ret (.str [97])) (rB [41] 1 3 vS):=bT (jP [97,41] BK (3) false 1 vS (by decide) (by decide)) (by kernel_rfl)
theorem arJ:au prog ap 56 [.ptr 0 0 0] (rB sV 1 2 vS) (.ret (.tup [])) [⟨[.str [41],.ref 1 1 0 2,.int .i64 3,.bool false],0,false,0,0,false⟩,⟨zo8,1,false,0,5,true⟩]:=cK (.c qO (.c qO (.c Fp (.c arH (.c GG (.c Dx (.c Fj (.c Fh (.c Fg (.c Ff (.c Fe (.c Fb (.c Fa (.c Dw (.c Dv (.c E_ (.c E9 (.c Bh (.c k9 (.c k8 (.c k7 (.c k6 (.c k5 (.c k4 (.c k3 (.c arG (.c arF (.c arE .nil))))))))))))))))))))))))))))
theorem arK:au prog ap 90 [.ptr 0 0 0,.str [41]] (rB [41] 2 3 zo8) (.ret (.bool true)) (rB [] 2 3 zo8):=cK (.nil)
theorem arL:au prog ap 56 [.ptr 0 0 0] (rA Mc 0) (.ret (.tup [])) [⟨[.str [],.ref 1 0 0 3,.int .i64 3,.bool false],0,false,0,0,false⟩,⟨(aH EF),0,false,0,5,true⟩]:=cK (.c arK (.c AL (.c AL (.c arJ (.c arD (.c AL (.c arC (.c arv (.c AL (.c UE (.c X9 (.c Dx (.c Fj (.c Fh (.c Fg (.c Ff (.c Fe (.c Fb (.c Fa (.c Dw (.c Dv (.c E_ (.c E9 (.c Bh (.c k9 (.c k8 (.c k7 (.c k6 (.c k5 (.c k4 (.c k3 (.c aru (.c art (.c ars .nil))))))))))))))))))))))))))))))))))
theorem arM:CO 105 [.agg [.bool false,.str [1],.str [1]]] (.ret (.bool true)):=bT (iU false [1] [1] (by decide) (by decide)) (by kernel_rfl)
theorem arN:CO 74 [.agg vS] (.ret (.bool true)):=cK (.c arM (.c Kw .nil))
theorem abP:CO 94 [.int .i64 12] (.ret (.bool false)):=cK (.nil)
theorem akh:CO 74 [.agg [.int .i64 12,.bool false,.str [],.str [],.str []]] (.ret (.bool true)):=cK (.c UE (.c abP .nil))
theorem arO:CO 48 [.sl (aH EF) 3 true] (.ret (.int .i64 0)):=cK (.c AL (.c NH (.c akh (.c X9 (.c qO (.c WO (.c X_ (.c GG (.c Ky (.c NH (.c arN (.c X5 .nil))))))))))))
theorem arP:CO 57 [.sl (aH EF) 3 true] (.ret (.tup [.str Mc,.int .i64 0])):=cK (.c UE (.c abP (.c Bh (.c AL (.c Fp (.c SS (.c k4 (.c qO (.c akf (.c Kw (.c X8 (.c Ky (.c arO .nil)))))))))))))
theorem arQ:CO 27 [.str Mc] (.ret (.tup [.sl (aH EF) 3 true,.int .i64 0])):=cK (.c arP (.c arL .nil))
theorem arR:CO 14 [.sl (aH EF) 3 true,.sl [.str [120],.int .i64 0,.int .i64 0,.sl zcc4_2 2 true] 1 true,.int .i64 6,.str [97]] (.ret (.int .i64 3)):=au.args (args:= [.sl (aH EF) 3 true,.sl [.str [120],.int .i64 0,.int .i64 0,.sl zcc4_2 2 false] 1 true,.int .i64 6,.str [97]]) (.cons (aT.refl _) (.cons (aT.slP (.same (.same (.same (.sl .nil))))) (.cons (aT.refl _) (.cons (aT.refl _) .nil)))) (bT (bU EF true sO true jo 6 [97] (jG (by kernel_rfl)) (by decide) (by decide) (gQ)) (by kernel_rfl))
theorem arS:CO 26 [.str Mc,.str [97],.int .i64 3] (.ret (.bool true)):=cK (.c arR (.c UH (.c arQ .nil)))
theorem arT:au prog ap 90 [.ptr 0 0 0,.str [36]] (rA Md 1) (.ret (.bool false)) (rA Md 1):=cK (.nil)
theorem arU:au prog ap 92 [.ptr 0 0 0,.str o_] (rA Md 1) (.ret (.str [100,105,118])) (rA ZU 1):=bT (gu Md o_ (1) false (by decide) (by decide)) (by kernel_rfl)
theorem arV:au prog ap 90 [.ptr 0 0 0,.str [46]] (rA ZU 1) (.ret (.bool false)) (rA ZU 1):=cK (.nil)
theorem arW:au prog ap 90 [.ptr 0 0 0,.str [40]] (rA ZU 1) (.ret (.bool true)) (rA SG 1):=cK (.nil)
theorem arX:au prog ap 90 [.ptr 0 0 0,.str [36]] (rA SG 2) (.ret (.bool false)) (rA SG 2):=cK (.nil)
theorem arY:au prog ap 92 [.ptr 0 0 0,.str o_] (rA SG 2) (.ret (.str [111,119,110])) (rA anH 2):=bT (gu SG o_ (2) false (by decide) (by decide)) (by kernel_rfl)
theorem arZ:au prog ap 90 [.ptr 0 0 0,.str [46]] (rA anH 2) (.ret (.bool true)) (rA adR 2):=cK (.nil)
theorem ar0:au prog ap 92 [.ptr 0 0 0,.str BK] (rA adR 2) (.ret (.str [97])) (rA adT 2):=bT (gu adR BK (2) false (by decide) (by decide)) (by kernel_rfl)
theorem ar4:au prog ap 56 [.ptr 0 0 0] (rA SG 1) (.ret (.tup [])) (rB adT 1 2 dR):=cK (.c qO (.c qO (.c Fp (.c ar0 (.c GG (.c Dx (.c Fj (.c Fh (.c Fg (.c Ff (.c Fe (.c Fb (.c Fa (.c Dw (.c Dv (.c E_ (.c E9 (.c Bh (.c k9 (.c k8 (.c k7 (.c k6 (.c k5 (.c k4 (.c k3 (.c arZ (.c arY (.c arX .nil))))))))))))))))))))))))))))
theorem ar5:au prog ap 90 [.ptr 0 0 0,.str [44,32]] (rB adT 1 2 dR) (.ret (.bool true)) (rB [45,50,41] 1 2 dR):=cK (.nil)
theorem ar6:au prog ap 90 [.ptr 0 0 0,.str [36]] (rB [45,50,41] 1 3 dR) (.ret (.bool false)) (rB [45,50,41] 1 3 dR):=cK (.nil)
theorem ar7:au prog ap 92 [.ptr 0 0 0,.str AU] (rB [45,50,41] 1 3 dR) (.ret (.str [45,50])) (rB [41] 1 3 dR):=bT (jP [45,50,41] AU (3) false 1 dR (by decide) (by decide)) (by kernel_rfl)
theorem ar8:CO 51 [.bool true,.str [2],.str [1]] (.ret (.agg [.bool true,.str [2],.str [1]])):=bT (dP true 2 1 (aW (by decide)) (aW (by decide)) (by decide)) (by kernel_rfl)
theorem ar9:CO 96 [.bool true,.str [2],.str [1]] (.ret (.tup [.agg [.bool true,.str [2],.str [1]],.bool true])):=cK (.c ar8 (.c NF (.c aj7 .nil)))
theorem ar_:CO 70 [.agg [.bool true,.str [2],.str [1]]] (.ret (.agg [.bool true,.str [2],.str [1]])):=bT (bV true [2] [1] (by decide) (by decide)) (by kernel_rfl)
theorem aki:CO 95 [.agg [.bool true,.str [2],.str [1]]] (.ret (.str [45,50])):=cK (.c UC (.c UG (.c aj9 (.c ar_ .nil))))
theorem asa:CO 126 [.str [45,50]] (.ret (.tup [.agg [.bool true,.str [2],.str [1]],.bool true])):=cK (.c aki (.c ar9 (.c NE (.c aj6 .nil))))
theorem asb:au prog ap 91 [.ptr 0 0 0] (rB [45,50,41] 1 3 dR) (.ret (.agg [.bool true,.str [2],.str [1]])) (rB [41] 1 3 dR):=cK (.c asa (.c ar7 .nil))
theorem ase:au prog ap 90 [.ptr 0 0 0,.str [100]] (rB [41] 1 3 dR) (.ret (.bool false)) (rB [41] 1 3 dR):=cK (.nil)
theorem asf:au prog ap 56 [.ptr 0 0 0] (rB [45,50,41] 1 2 dR) (.ret (.tup [])) [⟨[.str [41],.ref 1 1 0 2,.int .i64 3,.bool false],0,false,0,0,false⟩,⟨adH,1,false,0,5,true⟩]:=cK (.c ase (.c asb (.c ar6 .nil)))
theorem asg:au prog ap 90 [.ptr 0 0 0,.str [41]] (rB [41] 2 3 adH) (.ret (.bool true)) (rB [] 2 3 adH):=cK (.nil)
theorem ash:au prog ap 56 [.ptr 0 0 0] (rA Md 0) (.ret (.tup [])) [⟨[.str [],.ref 1 0 0 3,.int .i64 3,.bool false],0,false,0,0,false⟩,⟨(aH EG),0,false,0,5,true⟩]:=cK (.c asg (.c AL (.c AL (.c asf (.c ar5 (.c AL (.c ar4 (.c arW (.c AL (.c UE (.c X9 (.c Dx (.c Fj (.c Fh (.c Fg (.c Ff (.c Fe (.c Fb (.c Fa (.c Dw (.c Dv (.c E_ (.c E9 (.c Bh (.c k9 (.c k8 (.c k7 (.c k6 (.c k5 (.c k4 (.c k3 (.c arV (.c arU (.c arT .nil))))))))))))))))))))))))))))))))))
theorem asi:CO 105 [.agg [.bool true,.str [2],.str [1]]] (.ret (.bool true)):=bT (iU true [2] [1] (by decide) (by decide)) (by kernel_rfl)
theorem asj:CO 74 [.agg [.int .i64 3,.bool true,.str [2],.str [1],.str []]] (.ret (.bool true)):=cK (.c asi (.c X6 .nil))
theorem asl:CO 48 [.sl (aH EG) 3 true] (.ret (.int .i64 0)):=cK (.c AL (.c NH (.c akh (.c X9 (.c X7 (.c NH (.c asj (.c aka (.c qO (.c WO (.c X_ (.c GG .nil))))))))))))
theorem asn:CO 57 [.sl (aH EG) 3 true] (.ret (.tup [.str Md,.int .i64 0])):=cK (.c UE (.c abP (.c Bh (.c AL (.c aki (.c X6 (.c akc (.c X7 (.c Fp (.c SS (.c k4 (.c qO (.c asl .nil)))))))))))))
theorem aso:CO 27 [.str Md] (.ret (.tup [.sl (aH EG) 3 true,.int .i64 0])):=cK (.c asn (.c ash .nil))
theorem asq:CO 14 [.sl (aH EG) 3 true,.sl [.str [120],.int .i64 0,.int .i64 0,.sl zcc4_2 2 true] 1 true,.int .i64 6,.str [97]] (.ret (.int .i64 2)):=au.args (args:= [.sl (aH EG) 3 true,.sl [.str [120],.int .i64 0,.int .i64 0,.sl zcc4_2 2 false] 1 true,.int .i64 6,.str [97]]) (.cons (aT.refl _) (.cons (aT.slP (.same (.same (.same (.sl .nil))))) (.cons (aT.refl _) (.cons (aT.refl _) .nil)))) (bT (bU EG true sO true jo 6 [97] (jG (by kernel_rfl)) (by decide) (by decide) (gQ)) (by kernel_rfl))
theorem asr:CO 26 [.str Md,.str [97],.int .i64 2] (.ret (.bool true)):=cK (.c asq (.c UH (.c aso .nil)))
theorem ass:au prog ap 90 [.ptr 0 0 0,.str [36]] (rA ZM 1) (.ret (.bool false)) (rA ZM 1):=cK (.nil)
theorem ast:au prog ap 92 [.ptr 0 0 0,.str o_] (rA ZM 1) (.ret (.str [105,102])) (rA zs3 1):=bT (gu ZM o_ (1) false (by decide) (by decide)) (by kernel_rfl)
theorem asu:au prog ap 90 [.ptr 0 0 0,.str [46]] (rA zs3 1) (.ret (.bool false)) (rA zs3 1):=cK (.nil)
theorem akj:CO 32 [.int .i64 15] (.ret (.bool false)):=cK (.nil)
theorem abQ:CO 34 [.int .i64 15] (.ret (.bool false)):=cK (.nil)
theorem NG:CO 30 [.int .i64 15] (.ret (.int .i64 3)):=cK (.nil)
theorem asv:au prog ap 90 [.ptr 0 0 0,.str [40]] (rA zs3 1) (.ret (.bool true)) (rA zs4 1):=cK (.nil)
theorem asw:au prog ap 90 [.ptr 0 0 0,.str [36]] (rA zs4 2) (.ret (.bool false)) (rA zs4 2):=cK (.nil)
theorem asx:au prog ap 92 [.ptr 0 0 0,.str o_] (rA zs4 2) (.ret (.str anJ)) (rA zs6 2):=bT (gu zs4 o_ (2) false (by decide) (by decide)) (by kernel_rfl)
theorem asy:au prog ap 90 [.ptr 0 0 0,.str [46]] (rA zs6 2) (.ret (.bool false)) (rA zs6 2):=cK (.nil)
theorem akk:CO 32 [.int .i64 16] (.ret (.bool false)):=cK (.nil)
theorem abR:CO 34 [.int .i64 16] (.ret (.bool false)):=cK (.nil)
theorem QL:CO 30 [.int .i64 16] (.ret (.int .i64 2)):=cK (.nil)
theorem asz:au prog ap 90 [.ptr 0 0 0,.str [40]] (rA zs6 2) (.ret (.bool true)) (rA zs8 2):=cK (.nil)
theorem asA:au prog ap 90 [.ptr 0 0 0,.str [36]] (rA zs8 3) (.ret (.bool false)) (rA zs8 3):=cK (.nil)
theorem asB:au prog ap 92 [.ptr 0 0 0,.str o_] (rA zs8 3) (.ret (.str [111,119,110])) (rA anB 3):=bT (gu zs8 o_ (3) false (by decide) (by decide)) (by kernel_rfl)
theorem asC:au prog ap 90 [.ptr 0 0 0,.str [46]] (rA anB 3) (.ret (.bool true)) (rA adI 3):=cK (.nil)
theorem asD:au prog ap 92 [.ptr 0 0 0,.str BK] (rA adI 3) (.ret (.str [97])) (rA adJ 3):=bT (gu adI BK (3) false (by decide) (by decide)) (by kernel_rfl)
theorem asE:au prog ap 56 [.ptr 0 0 0] (rA zs8 2) (.ret (.tup [])) (rB adJ 1 3 dR):=cK (.c qO (.c qO (.c Fp (.c asD (.c GG (.c Dx (.c Fj (.c Fh (.c Fg (.c Ff (.c Fe (.c Fb (.c Fa (.c Dw (.c Dv (.c E_ (.c E9 (.c Bh (.c k9 (.c k8 (.c k7 (.c k6 (.c k5 (.c k4 (.c k3 (.c asC (.c asB (.c asA .nil))))))))))))))))))))))))))))
theorem asF:au prog ap 90 [.ptr 0 0 0,.str [44,32]] (rB adJ 1 3 dR) (.ret (.bool true)) (rB ZP 1 3 dR):=cK (.nil)
theorem asG:au prog ap 90 [.ptr 0 0 0,.str [36]] (rB ZP 1 4 dR) (.ret (.bool true)) (rB WH 1 4 dR):=cK (.nil)
theorem asH:au prog ap 92 [.ptr 0 0 0,.str AU] (rB WH 1 4 dR) (.ret (.str [51])) (rB SE 1 4 dR):=bT (jP WH AU (4) false 1 dR (by decide) (by decide)) (by kernel_rfl)
theorem akl:CO 49 [.int .i64 3] (.ret (.str [3])):=bT (dn 3 (by decide)) (by kernel_rfl)
theorem abS:CO 76 [.str [3]] (.ret (.str [3])):=cK (.nil)
theorem akm:CO 107 [.str [3]] (.ret (.tup [.int .i64 3,.bool true])):=cK (.c abS .nil)
theorem asI:CO 77 [.str [3],.int .i64 7] (.ret (.tup [.int .i64 3,.bool true])):=cK (.c akm (.c abS .nil))
theorem asJ:CO 61 [.str [],.str [3]] (.ret (.str [3])):=cK (.c akl (.c asI (.c QK .nil)))
theorem asK:CO 157 [.str [51]] (.ret (.tup [.str [3],.bool true])):=cK (.c asJ (.c akl (.c UB (.c WP .nil))))
theorem asL:CO 128 [.str [3]] (.ret (.bool true)):=bT (xh [3]) (by kernel_rfl)
theorem asM:CO 51 [.bool false,.str [3],.str [1]] (.ret (.agg [.bool false,.str [3],.str [1]])):=bT (dP false 3 1 (aW (by decide)) (aW (by decide)) (by decide)) (by kernel_rfl)
theorem asN:CO 96 [.bool false,.str [3],.str [1]] (.ret (.tup [.agg [.bool false,.str [3],.str [1]],.bool true])):=cK (.c asM (.c NF (.c asL .nil)))
theorem asO:CO 70 [.agg [.bool false,.str [3],.str [1]]] (.ret (.agg [.bool false,.str [3],.str [1]])):=bT (bV false [3] [1] (by decide) (by decide)) (by kernel_rfl)
theorem asP:CO 81 [.str [3],.str [10]] (.ret (.tup [.str [],.str [3],.bool true])):=bT (rP [3] [10] (by decide) (by decide) (by decide)) (by kernel_rfl)
theorem asQ:CO 127 [.str [3]] (.ret (.str [51])):=cK (.c akm (.c asP (.c WP (.c abS .nil))))
theorem akn:CO 95 [.agg [.bool false,.str [3],.str [1]]] (.ret (.str [51])):=cK (.c UC (.c UG (.c asQ (.c asO .nil))))
theorem asR:CO 126 [.str [51]] (.ret (.tup [.agg [.bool false,.str [3],.str [1]],.bool true])):=cK (.c akn (.c asN (.c NE (.c asK .nil))))
theorem asT:au prog ap 91 [.ptr 0 0 0] (rB WH 1 4 dR) (.ret (.agg [.bool false,.str [3],.str [1]])) (rB SE 1 4 dR):=cK (.c asR (.c asH .nil))
theorem ako:aI prog ap (rB ZP 1 3 dR) 206 (uB 5 (af f56)) ⟨([(0,.ptr 0 0 0),(2,.bool true)]++dE [3,4,5,6,7,8,9,10,11,12,13,14,15]++ [(41,.bool false),(47,.bool true)]++dE [65,70,100,102,117,122,128,133,139,145,158,166,170,175,184,188,192]),[(0,⟨[.str WH,.ref 1 0 0 1,.int .i64 4,.bool false],0,false,0,0,false⟩),(1,⟨dR,0,false,0,5,true⟩)],.dead,[]⟩ (.normal) ⟨([(0,.ptr 0 0 0),(2,.bool true)]++dE [3,4,5,6,7,8,9,10,11,12,13,14,15]++ [(41,.bool false),(47,.bool true)]++dE [65,70,100,102,117,122,128,133,139,145,158,166,170,175,184,188,192]),[(0,⟨[.str SE,.ref 1 1 0 2,.int .i64 4,.bool false],0,false,0,0,false⟩),(1,⟨zo9,1,false,0,5,true⟩)],.dead,[]⟩:=fun nt a=>BC IC (keep:=uj ap 56) (i:=4) (b:=0) (d:=52) (nt0:=206) (ans:= [(.ret (.agg [.bool false,.str [3],.str [1]]),(rB SE 1 4 dR))]) (.cons (rfl:(.ref 1 0 0 1:AV)=(.ref 1 0 0 1:AV)) (.cons (rfl:(.ref 1 0 0 1:AV)=(.ref 1 0 0 1:AV)) (.cons asT .nil))) a (by kernel_rfl)
theorem asU:au prog ap 56 [.ptr 0 0 0] (rB ZP 1 3 dR) (.ret (.tup [])) [⟨[.str SE,.ref 1 1 0 2,.int .i64 4,.bool false],0,false,0,0,false⟩,⟨zo9,1,false,0,5,true⟩]:=pK [1005] 4 8 (.n 9 .nil) (.l ako (.c asG .nil))
theorem asV:au prog ap 90 [.ptr 0 0 0,.str [41]] (rB SE 2 4 zo9) (.ret (.bool true)) (rB adK 2 4 zo9):=cK (.nil)
theorem asW:au prog ap 56 [.ptr 0 0 0] (rA zs4 1) (.ret (.tup [])) (rB adK 3 4 Qb):=cK (.c asV (.c QL (.c QL (.c asU (.c asF (.c QL (.c asE (.c asz (.c QL (.c abR (.c akk (.c Dx (.c Fj (.c Fh (.c Fg (.c Ff (.c Fe (.c Fb (.c Fa (.c Dw (.c Dv (.c E_ (.c E9 (.c Bh (.c k9 (.c k8 (.c k7 (.c k6 (.c k5 (.c k4 (.c k3 (.c asy (.c asx (.c asw .nil))))))))))))))))))))))))))))))))))
theorem asX:au prog ap 90 [.ptr 0 0 0,.str [44,32]] (rB adK 3 4 Qb) (.ret (.bool true)) (rB SH 3 4 Qb):=cK (.nil)
theorem asY:au prog ap 90 [.ptr 0 0 0,.str [36]] (rB SH 3 5 Qb) (.ret (.bool false)) (rB SH 3 5 Qb):=cK (.nil)
theorem asZ:au prog ap 92 [.ptr 0 0 0,.str o_] (rB SH 3 5 Qb) (.ret (.str [111,119,110])) (rB anI 3 5 Qb):=bT (jP SH o_ (5) false 3 Qb (by decide) (by decide)) (by kernel_rfl)
theorem as1:au prog ap 90 [.ptr 0 0 0,.str [46]] (rB anI 3 5 Qb) (.ret (.bool true)) (rB adS 3 5 Qb):=cK (.nil)
theorem as2:au prog ap 92 [.ptr 0 0 0,.str BK] (rB adS 3 5 Qb) (.ret (.str [98])) (rB adU 3 5 Qb):=bT (jP adS BK (5) false 3 Qb (by decide) (by decide)) (by kernel_rfl)
theorem as3:au prog ap 56 [.ptr 0 0 0] (rB SH 3 4 Qb) (.ret (.tup [])) [⟨[.str adU,.ref 1 1 0 4,.int .i64 5,.bool false],0,false,0,0,false⟩,⟨Qa,1,false,0,5,true⟩]:=cK (.c qO (.c qO (.c Fp (.c as2 (.c GG (.c Dx (.c Fj (.c Fh (.c Fg (.c Ff (.c Fe (.c Fb (.c Fa (.c Dw (.c Dv (.c E_ (.c E9 (.c Bh (.c k9 (.c k8 (.c k7 (.c k6 (.c k5 (.c k4 (.c k3 (.c as1 (.c asZ (.c asY .nil))))))))))))))))))))))))))))
theorem as4:au prog ap 90 [.ptr 0 0 0,.str [44,32]] (rB adU 4 5 Qa) (.ret (.bool true)) (rB [36,48,41] 4 5 Qa):=cK (.nil)
theorem as5:au prog ap 90 [.ptr 0 0 0,.str [36]] (rB [36,48,41] 4 6 Qa) (.ret (.bool true)) (rB [48,41] 4 6 Qa):=cK (.nil)
theorem as6:au prog ap 92 [.ptr 0 0 0,.str AU] (rB [48,41] 4 6 Qa) (.ret (.str [48])) (rB [41] 4 6 Qa):=bT (jP [48,41] AU (6) false 4 Qa (by decide) (by decide)) (by kernel_rfl)
theorem as7:CO 61 [.str [],.str []] (.ret (.str [])):=cK (.c X0 (.c QK (.c QK .nil)))
theorem as8:CO 157 [.str [48]] (.ret (.tup [.str [],.bool true])):=cK (.c as7 (.c X0 (.c UB (.c WP .nil))))
theorem as9:CO 128 [.str []] (.ret (.bool true)):=bT (xh []) (by kernel_rfl)
theorem ata:CO 51 [.bool false,.str [],.str [1]] (.ret (.agg [.bool false,.str [],.str [1]])):=bT (dP false 0 1 (aW (by decide)) (aW (by decide)) (by decide)) (by kernel_rfl)
theorem atb:CO 96 [.bool false,.str [],.str [1]] (.ret (.tup [.agg [.bool false,.str [],.str [1]],.bool true])):=cK (.c ata (.c NF (.c as9 .nil)))
theorem atc:CO 70 [.agg [.bool false,.str [],.str [1]]] (.ret (.agg [.bool false,.str [],.str [1]])):=bT (bV false [] [1] (by decide) (by decide)) (by kernel_rfl)
theorem atd:CO 127 [.str []] (.ret (.str [48])):=cK (.c XZ .nil)
theorem akp:CO 95 [.agg [.bool false,.str [],.str [1]]] (.ret (.str [48])):=cK (.c UC (.c UG (.c atd (.c atc .nil))))
theorem ate:CO 126 [.str [48]] (.ret (.tup [.agg [.bool false,.str [],.str [1]],.bool true])):=cK (.c akp (.c atb (.c NE (.c as8 .nil))))
theorem atf:au prog ap 91 [.ptr 0 0 0] (rB [48,41] 4 6 Qa) (.ret (.agg [.bool false,.str [],.str [1]])) (rB [41] 4 6 Qa):=cK (.c ate (.c as6 .nil))
theorem akq:aI prog ap (rB [36,48,41] 4 5 Qa) 206 (uB 5 (af f56)) ⟨([(0,.ptr 0 0 0),(2,.bool true)]++dE [3,4,5,6,7,8,9,10,11,12,13,14,15]++ [(41,.bool false),(47,.bool true)]++dE [65,70,100,102,117,122,128,133,139,145,158,166,170,175,184,188,192]),[(0,⟨[.str [48,41],.ref 1 0 0 4,.int .i64 6,.bool false],0,false,0,0,false⟩),(1,⟨Qa,0,false,0,5,true⟩)],.dead,[]⟩ (.normal) ⟨([(0,.ptr 0 0 0),(2,.bool true)]++dE [3,4,5,6,7,8,9,10,11,12,13,14,15]++ [(41,.bool false),(47,.bool true)]++dE [65,70,100,102,117,122,128,133,139,145,158,166,170,175,184,188,192]),[(0,⟨[.str [41],.ref 1 1 0 5,.int .i64 6,.bool false],0,false,0,0,false⟩),(1,⟨zo0,1,false,0,5,true⟩)],.dead,[]⟩:=fun nt a=>BC IC (keep:=uj ap 56) (i:=4) (b:=0) (d:=52) (nt0:=206) (ans:= [(.ret (.agg [.bool false,.str [],.str [1]]),(rB [41] 4 6 Qa))]) (.cons (rfl:(.ref 1 0 0 4:AV)=(.ref 1 0 0 4:AV)) (.cons (rfl:(.ref 1 0 0 4:AV)=(.ref 1 0 0 4:AV)) (.cons atf .nil))) a (by kernel_rfl)
theorem atg:au prog ap 56 [.ptr 0 0 0] (rB [36,48,41] 4 5 Qa) (.ret (.tup [])) [⟨[.str [41],.ref 1 1 0 5,.int .i64 6,.bool false],0,false,0,0,false⟩,⟨zo0,1,false,0,5,true⟩]:=pK [1005] 4 8 (.n 9 .nil) (.l akq (.c as5 .nil))
theorem ath:au prog ap 90 [.ptr 0 0 0,.str [41]] (rB [41] 5 6 zo0) (.ret (.bool true)) (rB [] 5 6 zo0):=cK (.nil)
theorem ati:au prog ap 56 [.ptr 0 0 0] (rA ZM 0) (.ret (.tup [])) [⟨[.str [],.ref 1 0 0 6,.int .i64 6,.bool false],0,false,0,0,false⟩,⟨(aH wF),0,false,0,5,true⟩]:=cK (.c ath (.c NG (.c NG (.c atg (.c as4 (.c NG (.c as3 (.c asX (.c NG (.c asW (.c asv (.c NG (.c abQ (.c akj (.c Dx (.c Fj (.c Fh (.c Fg (.c Ff (.c Fe (.c Fb (.c Fa (.c Dw (.c Dv (.c E_ (.c E9 (.c Bh (.c k9 (.c k8 (.c k7 (.c k6 (.c k5 (.c k4 (.c k3 (.c asu (.c ast (.c ass .nil)))))))))))))))))))))))))))))))))))))
theorem atj:CO 105 [.agg [.bool false,.str [3],.str [1]]] (.ret (.bool true)):=bT (iU false [3] [1] (by decide) (by decide)) (by kernel_rfl)
theorem atl:CO 74 [.agg [.int .i64 1,.bool false,.str [3],.str [1],.str []]] (.ret (.bool true)):=cK (.c atj (.c Kw .nil))
theorem akr:CO 94 [.int .i64 16] (.ret (.bool false)):=cK (.nil)
theorem atm:CO 74 [.agg [.int .i64 16,.bool false,.str [],.str [],.str []]] (.ret (.bool true)):=cK (.c abR (.c akr .nil))
theorem atn:CO 74 [.agg [.int .i64 6,.bool false,.str [],.str [],.str [98]]] (.ret (.bool true)):=cK (.c Fp (.c SS .nil))
theorem ato:CO 105 [.agg [.bool false,.str [],.str [1]]] (.ret (.bool true)):=bT (iU false [] [1] (by decide) (by decide)) (by kernel_rfl)
theorem atp:CO 74 [.agg [.int .i64 1,.bool false,.str [],.str [1],.str []]] (.ret (.bool true)):=cK (.c ato (.c Kw .nil))
theorem aks:CO 94 [.int .i64 15] (.ret (.bool false)):=cK (.nil)
theorem atq:CO 74 [.agg [.int .i64 15,.bool false,.str [],.str [],.str []]] (.ret (.bool true)):=cK (.c abQ (.c aks .nil))
theorem atr:CO 48 [.sl (aH wF) 6 true] (.ret (.int .i64 0)):=cK (.c NG (.c NH (.c atq (.c akj (.c Ky (.c NH (.c atp (.c X5 (.c qO (.c akd (.c atn (.c GG (.c QL (.c NH (.c atm (.c akk (.c Ky (.c NH (.c atl (.c X5 (.c qO (.c WO (.c X_ (.c GG .nil))))))))))))))))))))))))
theorem att:CO 57 [.sl (aH wF) 6 true] (.ret (.tup [.str ZM,.int .i64 0])):=cK (.c abQ (.c aks (.c Dv (.c NG (.c akp (.c Kw (.c X8 (.c Ky (.c Fp (.c SS (.c k4 (.c qO (.c abR (.c akr (.c Dw (.c QL (.c akn (.c Kw (.c X8 (.c Ky (.c Fp (.c SS (.c k4 (.c qO (.c atr .nil)))))))))))))))))))))))))
theorem akt:CO 27 [.str ZM] (.ret (.tup [.sl (aH wF) 6 true,.int .i64 0])):=cK (.c att (.c ati .nil))
theorem atu:CO 14 [.sl (aH wF) 6 true,.sl [.str [120],.int .i64 0,.int .i64 0,.sl zcc4_2 2 true] 1 true,.int .i64 6,.str [97]] (.ret (.int .i64 3)):=au.args (args:= [.sl (aH wF) 6 true,.sl [.str [120],.int .i64 0,.int .i64 0,.sl zcc4_2 2 false] 1 true,.int .i64 6,.str [97]]) (.cons (aT.refl _) (.cons (aT.slP (.same (.same (.same (.sl .nil))))) (.cons (aT.refl _) (.cons (aT.refl _) .nil)))) (bT (bU wF true sO true jo 6 [97] (jG (by kernel_rfl)) (by decide) (by decide) (gQ)) (by kernel_rfl))
theorem atv:CO 26 [.str ZM,.str [97],.int .i64 3] (.ret (.bool true)):=cK (.c atu (.c UH (.c akt .nil)))
theorem atw:CO 14 [.sl (aH wF) 6 true,.sl [.str [120],.int .i64 0,.int .i64 0,.sl zcc4_2 2 true] 1 true,.int .i64 6,.str [98]] (.ret (.int .i64 1)):=au.args (args:= [.sl (aH wF) 6 true,.sl [.str [120],.int .i64 0,.int .i64 0,.sl zcc4_2 2 false] 1 true,.int .i64 6,.str [98]]) (.cons (aT.refl _) (.cons (aT.slP (.same (.same (.same (.sl .nil))))) (.cons (aT.refl _) (.cons (aT.refl _) .nil)))) (bT (bU wF true sO true jo 6 [98] (jG (by kernel_rfl)) (by decide) (by decide) (gQ)) (by kernel_rfl))
theorem atx:CO 26 [.str ZM,.str [98],.int .i64 1] (.ret (.bool true)):=cK (.c atw (.c UH (.c akt .nil)))
theorem aty:au prog ap 90 [.ptr 0 0 0,.str [36]] (rA Me 1) (.ret (.bool false)) (rA Me 1):=cK (.nil)
theorem atz:au prog ap 92 [.ptr 0 0 0,.str o_] (rA Me 1) (.ret (.str [114,97,116,101])) (rA anF 1):=bT (gu Me o_ (1) false (by decide) (by decide)) (by kernel_rfl)
theorem atA:au prog ap 90 [.ptr 0 0 0,.str [46]] (rA anF 1) (.ret (.bool true)) (rA adQ 1):=cK (.nil)
theorem aku:CO 32 [.int .i64 24] (.ret (.bool true)):=cK (.nil)
theorem atB:au prog ap 92 [.ptr 0 0 0,.str BK] (rA adQ 1) (.ret (.str [120])) (rA anG 1):=bT (gu adQ BK (1) false (by decide) (by decide)) (by kernel_rfl)
theorem abT:CO 34 [.int .i64 24] (.ret (.bool false)):=cK (.nil)
theorem UF:CO 30 [.int .i64 24] (.ret (.int .i64 1)):=cK (.nil)
theorem atC:au prog ap 90 [.ptr 0 0 0,.str [40]] (rA anG 1) (.ret (.bool true)) (rA sV 1):=cK (.nil)
theorem atD:au prog ap 90 [.ptr 0 0 0,.str [36]] (rA sV 2) (.ret (.bool false)) (rA sV 2):=cK (.nil)
theorem atE:au prog ap 92 [.ptr 0 0 0,.str o_] (rA sV 2) (.ret (.str [111,119,110])) (rA [46,97,41] 2):=bT (gu sV o_ (2) false (by decide) (by decide)) (by kernel_rfl)
theorem atF:au prog ap 90 [.ptr 0 0 0,.str [46]] (rA [46,97,41] 2) (.ret (.bool true)) (rA [97,41] 2):=cK (.nil)
theorem atG:au prog ap 92 [.ptr 0 0 0,.str BK] (rA [97,41] 2) (.ret (.str [97])) (rA [41] 2):=bT (gu [97,41] BK (2) false (by decide) (by decide)) (by kernel_rfl)
theorem atH:au prog ap 56 [.ptr 0 0 0] (rA sV 1) (.ret (.tup [])) (rB [41] 1 2 dR):=cK (.c qO (.c qO (.c Fp (.c atG (.c GG (.c Dx (.c Fj (.c Fh (.c Fg (.c Ff (.c Fe (.c Fb (.c Fa (.c Dw (.c Dv (.c E_ (.c E9 (.c Bh (.c k9 (.c k8 (.c k7 (.c k6 (.c k5 (.c k4 (.c k3 (.c atF (.c atE (.c atD .nil))))))))))))))))))))))))))))
theorem atI:au prog ap 90 [.ptr 0 0 0,.str [41]] (rB [41] 1 2 dR) (.ret (.bool true)) (rB [] 1 2 dR):=cK (.nil)
theorem atJ:au prog ap 56 [.ptr 0 0 0] (rA Me 0) (.ret (.tup [])) [⟨[.str [],.ref 1 0 0 2,.int .i64 2,.bool false],0,false,0,0,false⟩,⟨(aH mf),0,false,0,5,true⟩]:=cK (.c atI (.c UF (.c UF (.c atH (.c atC (.c UF (.c abT (.c atB (.c aku (.c Dx (.c Fj (.c Fh (.c Fg (.c Ff (.c Fe (.c Fb (.c Fa (.c Dw (.c Dv (.c E_ (.c E9 (.c Bh (.c k9 (.c k8 (.c k7 (.c k6 (.c k5 (.c k4 (.c k3 (.c atA (.c atz (.c aty .nil))))))))))))))))))))))))))))))))
theorem akv:CO 94 [.int .i64 24] (.ret (.bool false)):=cK (.nil)
theorem atK:CO 74 [.agg [.int .i64 24,.bool false,.str [],.str [],.str [120]]] (.ret (.bool true)):=cK (.c abT (.c akv .nil))
theorem atL:CO 75 [.str [120]] (.ret (.bool true)):=cK (.nil)
theorem atM:CO 48 [.sl (aH mf) 2 true] (.ret (.int .i64 0)):=cK (.c UF (.c atL (.c atK (.c aku (.c qO (.c WO (.c X_ (.c GG .nil))))))))
theorem atN:CO 57 [.sl (aH mf) 2 true] (.ret (.tup [.str Me,.int .i64 0])):=cK (.c abT (.c akv (.c Dx (.c UF (.c Fp (.c SS (.c k4 (.c qO (.c atM .nil)))))))))
theorem akw:CO 27 [.str Me] (.ret (.tup [.sl (aH mf) 2 true,.int .i64 0])):=cK (.c atN (.c atJ .nil))
theorem atO:CO 14 [.sl (aH mf) 2 true,.sl [.str [120],.int .i64 0,.int .i64 0,.sl zcc4_2 2 true] 1 true,.int .i64 6,.str [97]] (.ret (.int .i64 1)):=au.args (args:= [.sl (aH mf) 2 true,.sl [.str [120],.int .i64 0,.int .i64 0,.sl zcc4_2 2 false] 1 true,.int .i64 6,.str [97]]) (.cons (aT.refl _) (.cons (aT.slP (.same (.same (.same (.sl .nil))))) (.cons (aT.refl _) (.cons (aT.refl _) .nil)))) (bT (bU mf true sO true jo 6 [97] (jG (by kernel_rfl)) (by decide) (by decide) (gQ)) (by kernel_rfl))
theorem atP:CO 26 [.str Me,.str [97],.int .i64 1] (.ret (.bool true)):=cK (.c atO (.c UH (.c akw .nil)))
theorem atQ:CO 36 [.int .i64 (-1)] (.ret (.agg [.bool true,.str [1],.str [1]])):=cK (.c UG (.c ajZ (.c UG (.c X0 .nil))))
theorem atS:CO 70 [.agg [.bool true,.str [1],.str [1]]] (.ret (.agg [.bool true,.str [1],.str [1]])):=bT (bV true [1] [1] (by decide) (by decide)) (by kernel_rfl)
theorem atT:CO 51 [.bool true,.str [1],.str [5]] (.ret (.agg [.bool true,.str [1],.str [5]])):=bT (dP true 1 5 (aW (by decide)) (aW (by decide)) (by decide)) (by kernel_rfl)
theorem atU:CO 58 [.agg [.bool true,.str [1],.str [1]],.agg [.bool false,.str [5],.str [1]]] (.ret (.tup [.agg [.bool true,.str [1],.str [5]],.bool true])):=cK (.c atT (.c k80 (.c k66 (.c k75 (.c atS .nil)))))
theorem atV:CO 28 [.int .i64 (-1)] (.ret (.sl [.str [120],.int .i64 0,.int .i64 0,.sl zcc4_3 2 true] 1 true)):=cK (.c k74 (.c k83 (.c atU (.c k74 (.c atQ (.c k73 (.c k58 (.c k57 .nil))))))))
theorem atW:CO 14 [.sl (aH mf) 2 true,.sl [.str [120],.int .i64 0,.int .i64 0,.sl zcc4_3 2 true] 1 true,.int .i64 6,.str [97]] (.ret (.int .i64 3)):=au.args (args:= [.sl (aH mf) 2 true,.sl [.str [120],.int .i64 0,.int .i64 0,.sl zcc4_3 2 false] 1 true,.int .i64 6,.str [97]]) (.cons (aT.refl _) (.cons (aT.slP (.same (.same (.same (.sl .nil))))) (.cons (aT.refl _) (.cons (aT.refl _) .nil)))) (bT (bU mf true aaA true jo 6 [97] (jG (by kernel_rfl)) (by decide) (by decide) (Oq)) (by kernel_rfl))
theorem atX:CO 14 [.sl (aH mf) 2 true,.nilS,.int .i64 6,.str [97]] (.ret (.int .i64 3)):=au.args (args:= [.sl (aH mf) 2 true,.sl [] 0 false,.int .i64 6,.str [97]]) (.cons (aT.refl _) (.cons (aT.nilS false rfl) (.cons (aT.refl _) (.cons (aT.refl _) .nil)))) (bT (bU mf true [] false jo 6 [97] (jG (by kernel_rfl)) (by decide) (by decide) (uG)) (by kernel_rfl))
theorem atY:CO 14 [.sl (aH l_) 3 true,.nilS,.int .i64 5,.str [98]] (.ret (.int .i64 3)):=au.args (args:= [.sl (aH l_) 3 true,.sl [] 0 false,.int .i64 5,.str [98]]) (.cons (aT.refl _) (.cons (aT.nilS false rfl) (.cons (aT.refl _) (.cons (aT.refl _) .nil)))) (bT (bU l_ true [] false jo 5 [98] (jG (by kernel_rfl)) (by decide) (by decide) (uG)) (by kernel_rfl))
theorem atZ:CO 17 [.sl (aH mf) 2 true,.sl [.str [120],.int .i64 0,.int .i64 0,.sl zcc4_2 2 true] 1 true,.sl [.str [97],.str [98]] 2 true] (.ret (.bool true)):=au.args (args:= [.sl (aH mf) 2 true,.sl [.str [120],.int .i64 0,.int .i64 0,.sl zcc4_2 2 false] 1 true,.sl [.str [97],.str [98]] 2 true]) (.cons (aT.refl _) (.cons (aT.slP (.same (.same (.same (.sl .nil))))) (.cons (aT.refl _) .nil))) (bT (iJ mf true sO true jo [[97],[98]] true (jG (by kernel_rfl)) (by decide) (by decide) (gQ) (by decide)) (by kernel_rfl))
theorem at1:CO 17 [.sl (aH l_) 3 true,.nilS,.sl [.str [97]] 1 true] (.ret (.bool false)):=au.args (args:= [.sl (aH l_) 3 true,.sl [] 0 false,.sl [.str [97]] 1 true]) (.cons (aT.refl _) (.cons (aT.nilS false rfl) (.cons (aT.refl _) .nil))) (bT (iJ l_ true [] false jo [[97]] true (jG (by kernel_rfl)) (by decide) (by decide) (uG) (by decide)) (by kernel_rfl))
theorem at6:CO 17 [.sl (aH l_) 3 true,.nilS,.sl [.str [98]] 1 true] (.ret (.bool true)):=au.args (args:= [.sl (aH l_) 3 true,.sl [] 0 false,.sl [.str [98]] 1 true]) (.cons (aT.refl _) (.cons (aT.nilS false rfl) (.cons (aT.refl _) .nil))) (bT (iJ l_ true [] false jo [[98]] true (jG (by kernel_rfl)) (by decide) (by decide) (uG) (by decide)) (by kernel_rfl))
theorem at7:CO 17 [.nilS,.nilS,.nilS] (.ret (.bool false)):=au.args (args:= [.sl [] 0 false,.sl [] 0 false,.sl [] 0 false]) (.cons (aT.nilS false rfl) (.cons (aT.nilS false rfl) (.cons (aT.nilS false rfl) .nil))) (bT (iJ [] false [] false jo [] false (jG (by kernel_rfl)) (by decide) (by decide) (uG) (by decide)) (by kernel_rfl))
theorem aua:CO 10 [] (.ret (.bool true)):=cK (.c at7 (.c at6 (.c at1 (.c atZ (.c UH (.c atY (.c atX (.c atW (.c atV (.c ake (.c akw (.c atP (.c atx (.c atv (.c asr (.c arS (.c arq (.c aq2 (.c ap7 (.c k88 (.c k86 .nil)))))))))))))))))))))
theorem mP:CO 10 [] (.ret (.bool true)):=aua
def aN (a:Int) (n:Nat):Nat:=(a % (n:Int)).toNat
theorem eU {a:Int} {n:Nat} (h:0<n):aN a n<n:=by
 unfold aN
 have d:=Int.emod_nonneg a (b:=(n:Int)) (by omega)
 have c:=Int.emod_lt_of_pos a (b:=(n:Int)) (by omega)
 omega
theorem Hu {k:Nat} (h:k<4611686018427387904):AV.int .i64 (IntKind.wrap .i64 (((1:Nat):Int)+(k:Int)))= .int .i64 ((1+k:Nat):Int):=by
 have e:IntKind.wrap .i64 (((1:Nat):Int)+(k:Int))=((1+k:Nat):Int):=by rw [dC]<;>omega
 rw [e]
theorem akK (a n:Int) (h0:lit true (decide ((Int.tmod a n)<((0:Nat):Int)))=true) (b:(!(n==((0:Nat):Int)))=true):CO 29 [.int .i64 a,.int .i64 n] (.ret (.int .i64 (IntKind.wrap .i64 ((Int.tmod a n)+n)))):=pK [] 1 1 (.c h0 (.c b .nil)) (.nil)
theorem akL (a n:Int) (h0:lit false (decide ((Int.tmod a n)<((0:Nat):Int)))=true) (b:(!(n==((0:Nat):Int)))=true):CO 29 [.int .i64 a,.int .i64 n] (.ret (.int .i64 (Int.tmod a n))):=pK [] 1 0 (.c h0 (.c b .nil)) (.nil)
theorem dZ (a:Int) (n:Nat) (j:0<n) (g:n≤4611686018427387904):CO 29 [.int .i64 a,.int .i64 (n:Int)] (.ret (.int .i64 ((aN a n:Nat):Int))):=by
 have c:(!((n:Int)==((0:Nat):Int)))=true:=by
  rw [beq_eq_false_iff_ne.2 (by omega)];rfl
 have l:=Int.tmod_lt_of_pos a (b:=(n:Int)) (by omega)
 have k: -(n:Int)<Int.tmod a n:=by
  have:=Int.tmod_lt_of_pos (-a) (b:=(n:Int)) (by omega)
  rw [Int.neg_tmod] at this
  omega
 have i:=Int.emod_nonneg a (b:=(n:Int)) (by omega)
 have m:=Int.emod_lt_of_pos a (b:=(n:Int)) (by omega)
 have d:Int.tmod a n % (n:Int)=a % (n:Int):=by
  have e:=Int.mul_tdiv_add_tmod a (n:Int)
  have:a=Int.tmod a n+(n:Int)*(Int.tdiv a n):=by omega
  conv=>rhs;rw [this,Int.add_mul_emod_self_left]
 have f:((aN a n:Nat):Int)=a % (n:Int):=Int.toNat_of_nonneg i
 rw [f]
 by_cases h:Int.tmod a n<0
 ·have hp:=akK a n (by simpa [lit] using h) c
  have e:IntKind.wrap .i64 (Int.tmod a n+(n:Int))=a % (n:Int):=by
   rw [dC (by omega) (by omega)]
   rw [← d,← Int.add_emod_right,Int.emod_eq_of_lt (by omega) (by omega)]
  rw [e] at hp
  exact hp
 ·have hp:=akL a n (by simp only [lit,Bool.not_eq_true',decide_eq_false_iff_not];exact h) c
  have e:Int.tmod a n=a % (n:Int):=by rw [← d,Int.emod_eq_of_lt (by omega) (by omega)]
  rw [e] at hp
  exact hp
theorem zx (a:Int) (k:Nat) (h0:(gW .str (List.headD (List.drop ((0+(Int.toNat (k:Int)))*1) [.str [97],.str [98],.str [116,97,120],.str [119,97,103,101],.str [120,95,49],.str zcc4_0]) .dead))=true) (d:(decide (((0:Nat):Int)≤(k:Int)))=true) (c:(decide ((k:Int)<((6:Nat):Int)))=true) (b:CO 29 [.int .i64 a,.int .i64 6] (.ret (.int .i64 (k:Int)))):CO 33 [.int .i64 a] (.ret (.str (AV.toStr (List.headD (List.drop ((0+(Int.toNat (k:Int)))*1) [.str [97],.str [98],.str [116,97,120],.str [119,97,103,101],.str [120,95,49],.str zcc4_0]) .dead)))):=pK [] 0 0 (.c h0 (.c d (.c c .nil))) (.c b .nil)
def KW (k:Nat):List UInt8:= [[97],[98],[116,97,120],[119,97,103,101],[120,95,49],zcc4_0].getD k []
theorem I_ (a:Int):CO 33 [.int .i64 a] (.ret (.str (KW (aN a 6)))):=by
 have b:=dZ a 6 (by omega) (by omega)
 have c:=eU (a:=a) (n:=6) (by omega)
 generalize aN a 6=k at*
 match k,c,b with
 |0,_,b=>exact zx a 0 rfl rfl rfl b
 |1,_,b=>exact zx a 1 rfl rfl rfl b
 |2,_,b=>exact zx a 2 rfl rfl rfl b
 |3,_,b=>exact zx a 3 rfl rfl rfl b
 |4,_,b=>exact zx a 4 rfl rfl rfl b
 |5,_,b=>exact zx a 5 rfl rfl rfl b
theorem GZ (k:Nat) (h:k<6):qG (KW k)=true:=by
 match k,h with
 |0,_=>decide
 |1,_=>decide
 |2,_=>decide
 |3,_=>decide
 |4,_=>decide
 |5,_=>decide
theorem Yj (q0 o s:Int) (d c f a b A y z:Nat) (w:RQ) (v:d<4611686018427387904) (q:c<4611686018427387904) (u:f<4611686018427387904) (B:a<4611686018427387904) (k:b<4611686018427387904) (x:A<4611686018427387904) (C:y<4611686018427387904) (t:z<4611686018427387904) (h0:lit true ((f:Int)==((1:Nat):Int))=true) (l:CO 29 [.int .i64 q0,.int .i64 1000] (.ret (.int .i64 (d:Int)))) (p:CO 49 [.int .i64 (d:Int)] (.ret (.str (ag d)))) (g:CO 29 [.int .i64 o,.int .i64 60] (.ret (.int .i64 (c:Int)))) (h:CO 49 [.int .i64 (((1+c):Nat):Int)] (.ret (.str (ag (1+c))))) (e:CO 29 [.int .i64 s,.int .i64 4] (.ret (.int .i64 (f:Int)))) (i:CO 29 [.int .i64 q0,.int .i64 4611686018427387904] (.ret (.int .i64 (a:Int)))) (m:CO 49 [.int .i64 (a:Int)] (.ret (.str (ag a)))) (n:CO 29 [.int .i64 o,.int .i64 4611686018427387904] (.ret (.int .i64 (b:Int)))) (j:CO 49 [.int .i64 (((1+b):Nat):Int)] (.ret (.str (ag (1+b))))) (r:CO 51 [.bool (decide (q0<((0:Nat):Int))),.str (ag a),.str (ag (1+b))] (.ret (.agg [.bool w.neg,.str (ag w.n),.str (ag w.d)]))):CO 19 [.agg [.int .i64 q0,.int .i64 o,.int .i64 s]] (.ret (.agg [.bool w.neg,.str (ag w.n),.str (ag w.d)])):=pK [] 1 1 (.k 13 h0 (.n 9 .nil)) (.c r (.c j (.v 26 (.eq (Hu k)) (.c n (.c m (.c i (.c e (.c h (.v 12 (.eq (Hu q)) (.c g (.c p (.c l .nil))))))))))))
theorem Yk (q0 m B:Int) (l j k b a H G c:Nat) (w:RQ) (D:l<4611686018427387904) (z:j<4611686018427387904) (C:k<4611686018427387904) (I:b<4611686018427387904) (t:a<4611686018427387904) (F:H<4611686018427387904) (J:G<4611686018427387904) (n:c<4611686018427387904) (h0:lit true ((k:Int)==((2:Nat):Int))=true) (E:lit false ((k:Int)==((1:Nat):Int))=true) (u:CO 29 [.int .i64 q0,.int .i64 1000] (.ret (.int .i64 (l:Int)))) (y:CO 49 [.int .i64 (l:Int)] (.ret (.str (ag l)))) (p:CO 29 [.int .i64 m,.int .i64 60] (.ret (.int .i64 (j:Int)))) (q:CO 49 [.int .i64 (((1+j):Nat):Int)] (.ret (.str (ag (1+j))))) (o:CO 29 [.int .i64 B,.int .i64 4] (.ret (.int .i64 (k:Int)))) (r:CO 29 [.int .i64 q0,.int .i64 4611686018427387904] (.ret (.int .i64 (b:Int)))) (v:CO 49 [.int .i64 (b:Int)] (.ret (.str (ag b)))) (x:CO 29 [.int .i64 m,.int .i64 4611686018427387904] (.ret (.int .i64 (a:Int)))) (s:CO 49 [.int .i64 (a:Int)] (.ret (.str (ag a)))) (A:CO 50 [.str (ag b),.str (ag a)] (.ret (.str (ag (b*a))))) (g:CO 29 [.int .i64 m,.int .i64 4611686018427387904] (.ret (.int .i64 (a:Int)))) (f:CO 49 [.int .i64 (((1+a):Nat):Int)] (.ret (.str (ag (1+a))))) (h:CO 29 [.int .i64 q0,.int .i64 2147483648] (.ret (.int .i64 (c:Int)))) (e:CO 49 [.int .i64 (((1+c):Nat):Int)] (.ret (.str (ag (1+c))))) (i:CO 50 [.str (ag (1+a)),.str (ag (1+c))] (.ret (.str (ag ((1+a)*(1+c)))))) (d:CO 51 [.bool (decide (q0<((0:Nat):Int))),.str (ag (b*a)),.str (ag ((1+a)*(1+c)))] (.ret (.agg [.bool w.neg,.str (ag w.n),.str (ag w.d)]))):CO 19 [.agg [.int .i64 q0,.int .i64 m,.int .i64 B]] (.ret (.agg [.bool w.neg,.str (ag w.n),.str (ag w.d)])):=pK [] 2 2 (.k 19 h0 (.c E (.n 9 .nil))) (.c d (.c i (.c e (.v 47 (.eq (Hu n)) (.c h (.c f (.v 42 (.eq (Hu t)) (.c g (.c A (.c s (.c x (.c v (.c r (.c o (.c q (.v 12 (.eq (Hu z)) (.c p (.c y (.c u .nil)))))))))))))))))))
theorem Yl (q0 n s:Int) (e d a t D c b B:Nat) (w:RQ) (x:e<4611686018427387904) (q:d<4611686018427387904) (v:a<4611686018427387904) (C:t<4611686018427387904) (A:D<4611686018427387904) (z:c<4611686018427387904) (o:b<4611686018427387904) (u:B<4611686018427387904) (h0:lit true ((a:Int)==((3:Nat):Int))=true) (y:lit false ((a:Int)==((2:Nat):Int))=true) (E:lit false ((a:Int)==((1:Nat):Int))=true) (k:CO 29 [.int .i64 q0,.int .i64 1000] (.ret (.int .i64 (e:Int)))) (p:CO 49 [.int .i64 (e:Int)] (.ret (.str (ag e)))) (g:CO 29 [.int .i64 n,.int .i64 60] (.ret (.int .i64 (d:Int)))) (h:CO 49 [.int .i64 (((1+d):Nat):Int)] (.ret (.str (ag (1+d))))) (f:CO 29 [.int .i64 s,.int .i64 4] (.ret (.int .i64 (a:Int)))) (i:CO 29 [.int .i64 q0,.int .i64 7] (.ret (.int .i64 (c:Int)))) (l:CO 49 [.int .i64 (c:Int)] (.ret (.str (ag c)))) (m:CO 29 [.int .i64 n,.int .i64 7] (.ret (.int .i64 (b:Int)))) (j:CO 49 [.int .i64 (((1+b):Nat):Int)] (.ret (.str (ag (1+b))))) (r:CO 51 [.bool (decide (q0<((0:Nat):Int))),.str (ag c),.str (ag (1+b))] (.ret (.agg [.bool w.neg,.str (ag w.n),.str (ag w.d)]))):CO 19 [.agg [.int .i64 q0,.int .i64 n,.int .i64 s]] (.ret (.agg [.bool w.neg,.str (ag w.n),.str (ag w.d)])):=pK [] 3 4 (.k 13 h0 (.c y (.c E (.n 9 .nil)))) (.c r (.c j (.v 59 (.eq (Hu o)) (.c m (.c l (.c i (.c f (.c h (.v 12 (.eq (Hu q)) (.c g (.c p (.c k .nil))))))))))))
theorem Ym (q0 l k:Int) (c a b m z v s u:Nat) (w:RQ) (p:c<4611686018427387904) (j:a<4611686018427387904) (o:b<4611686018427387904) (x:m<4611686018427387904) (t:z<4611686018427387904) (r:v<4611686018427387904) (y:s<4611686018427387904) (n:u<4611686018427387904) (h0:lit false ((b:Int)==((3:Nat):Int))=true) (q:lit false ((b:Int)==((2:Nat):Int))=true) (A:lit false ((b:Int)==((1:Nat):Int))=true) (h:CO 29 [.int .i64 q0,.int .i64 1000] (.ret (.int .i64 (c:Int)))) (i:CO 49 [.int .i64 (c:Int)] (.ret (.str (ag c)))) (e:CO 29 [.int .i64 l,.int .i64 60] (.ret (.int .i64 (a:Int)))) (f:CO 49 [.int .i64 (((1+a):Nat):Int)] (.ret (.str (ag (1+a))))) (d:CO 29 [.int .i64 k,.int .i64 4] (.ret (.int .i64 (b:Int)))) (g:CO 51 [.bool (decide (q0<((0:Nat):Int))),.str (ag c),.str (ag (1+a))] (.ret (.agg [.bool w.neg,.str (ag w.n),.str (ag w.d)]))):CO 19 [.agg [.int .i64 q0,.int .i64 l,.int .i64 k]] (.ret (.agg [.bool w.neg,.str (ag w.n),.str (ag w.d)])):=pK [] 3 0 (.k 7 h0 (.c q (.c A (.n 9 .nil)))) (.c g (.c d (.c f (.v 12 (.eq (Hu j)) (.c e (.c i (.c h .nil)))))))
def mdN (q0 q1 q2:Int):Nat:=if aN q2 4=1 then (aN q0 4611686018427387904) else if aN q2 4=2 then ((aN q0 4611686018427387904)*(aN q1 4611686018427387904)) else if aN q2 4=3 then (aN q0 7) else (aN q0 1000)
def Yn (q0 q1 q2:Int):Nat:=if aN q2 4=1 then (1+(aN q1 4611686018427387904)) else if aN q2 4=2 then ((1+(aN q1 4611686018427387904))*(1+(aN q0 2147483648))) else if aN q2 4=3 then (1+(aN q1 7)) else (1+(aN q1 60))
theorem F5 {a b:Nat} (h:a=b):(((a:Int))==(b:Int))=true:=by subst h;simp
theorem oJ {a b:Nat} (h:a ≠ b):(((a:Int))==(b:Int))=false:=beq_eq_false_iff_ne.2 (by omega)
theorem DN (q0 a e:Int) (h:aN e 4=2→∀ x y:Nat,x<9223372036854775808→y<9223372036854775808→CO 50 [.str (ag x),.str (ag y)] (.ret (.str (ag (x*y))))):CO 19 [.agg [.int .i64 q0,.int .i64 a,.int .i64 e]] (.ret (qA (wX (decide (q0<((0:Nat):Int))) (mdN q0 a e) (Yn q0 a e)))):=by
 have f:(aN q0 1000)<4611686018427387904:=Nat.lt_of_lt_of_le (eU (by omega)) (by omega)
 have g:(aN a 60)<4611686018427387904:=Nat.lt_of_lt_of_le (eU (by omega)) (by omega)
 have l:(aN e 4)<4611686018427387904:=Nat.lt_of_lt_of_le (eU (by omega)) (by omega)
 have c:(aN q0 4611686018427387904)<4611686018427387904:=Nat.lt_of_lt_of_le (eU (by omega)) (by omega)
 have b:(aN a 4611686018427387904)<4611686018427387904:=Nat.lt_of_lt_of_le (eU (by omega)) (by omega)
 have j:(aN q0 7)<4611686018427387904:=Nat.lt_of_lt_of_le (eU (by omega)) (by omega)
 have i:(aN a 7)<4611686018427387904:=Nat.lt_of_lt_of_le (eU (by omega)) (by omega)
 have d:(aN q0 2147483648)<4611686018427387904:=Nat.lt_of_lt_of_le (eU (by omega)) (by omega)
 have m:aN e 4<4:=eU (by omega)
 unfold mdN Yn
 by_cases e1:aN e 4=1
 ·rw [if_pos e1,if_pos e1]
  exact Yj q0 a e (aN q0 1000) (aN a 60) (aN e 4) (aN q0 4611686018427387904) (aN a 4611686018427387904) (aN q0 7) (aN a 7) (aN q0 2147483648) (wX (decide (q0<((0:Nat):Int))) (aN q0 4611686018427387904) (1+(aN a 4611686018427387904))) f g l c b j i d (aC (F5 (by omega))) (dZ q0 1000 (by omega) (by omega)) (dn (aN q0 1000) (by have:=f;omega)) (dZ a 60 (by omega) (by omega)) (dn (1+(aN a 60)) (by have:=g;omega)) (dZ e 4 (by omega) (by omega)) (dZ q0 4611686018427387904 (by omega) (by omega)) (dn (aN q0 4611686018427387904) (by have:=c;omega)) (dZ a 4611686018427387904 (by omega) (by omega)) (dn (1+(aN a 4611686018427387904)) (by have:=b;omega)) (dP _ _ _ (Nat.lt_of_le_of_lt (iC (k:=8) (by have:=c;omega)) (by decide)) (Nat.lt_of_le_of_lt (iC (k:=8) (by have:=b;omega)) (by decide)) (by omega))
 ·rw [if_neg e1,if_neg e1]
  by_cases e2:aN e 4=2
  ·rw [if_pos e2,if_pos e2]
   have h:=h e2
   exact Yk q0 a e (aN q0 1000) (aN a 60) (aN e 4) (aN q0 4611686018427387904) (aN a 4611686018427387904) (aN q0 7) (aN a 7) (aN q0 2147483648) (wX (decide (q0<((0:Nat):Int))) ((aN q0 4611686018427387904)*(aN a 4611686018427387904)) ((1+(aN a 4611686018427387904))*(1+(aN q0 2147483648)))) f g l c b j i d (aC (F5 (by omega))) (aB (oJ (by omega))) (dZ q0 1000 (by omega) (by omega)) (dn (aN q0 1000) (by have:=f;omega)) (dZ a 60 (by omega) (by omega)) (dn (1+(aN a 60)) (by have:=g;omega)) (dZ e 4 (by omega) (by omega)) (dZ q0 4611686018427387904 (by omega) (by omega)) (dn (aN q0 4611686018427387904) (by have:=c;omega)) (dZ a 4611686018427387904 (by omega) (by omega)) (dn (aN a 4611686018427387904) (by have:=b;omega)) (h (aN q0 4611686018427387904) (aN a 4611686018427387904) (by have:=c;have:=b;have:=d;omega) (by have:=c;have:=b;have:=d;omega)) (dZ a 4611686018427387904 (by omega) (by omega)) (dn (1+(aN a 4611686018427387904)) (by have:=b;omega)) (dZ q0 2147483648 (by omega) (by omega)) (dn (1+(aN q0 2147483648)) (by have:=d;omega)) (h (1+(aN a 4611686018427387904)) (1+(aN q0 2147483648)) (by have:=c;have:=b;have:=d;omega) (by have:=c;have:=b;have:=d;omega)) (dP _ _ _ (Nat.lt_of_le_of_lt (iC (k:=16) (by exact Nat.lt_of_le_of_lt (Nat.mul_le_mul (Nat.le_of_lt c) (Nat.le_of_lt b)) (by decide))) (by decide)) (Nat.lt_of_le_of_lt (iC (k:=16) (by exact Nat.lt_of_le_of_lt (Nat.mul_le_mul (Nat.le_of_lt (show 1+_<4611686018427387905 by have:=b;omega)) (Nat.le_of_lt (show 1+_<4611686018427387905 by have:=d;omega))) (by decide))) (by decide)) (Nat.mul_pos (by omega) (by omega)))
  ·rw [if_neg e2,if_neg e2]
   by_cases e3:aN e 4=3
   ·rw [if_pos e3,if_pos e3]
    exact Yl q0 a e (aN q0 1000) (aN a 60) (aN e 4) (aN q0 4611686018427387904) (aN a 4611686018427387904) (aN q0 7) (aN a 7) (aN q0 2147483648) (wX (decide (q0<((0:Nat):Int))) (aN q0 7) (1+(aN a 7))) f g l c b j i d (aC (F5 (by omega))) (aB (oJ (by omega))) (aB (oJ (by omega))) (dZ q0 1000 (by omega) (by omega)) (dn (aN q0 1000) (by have:=f;omega)) (dZ a 60 (by omega) (by omega)) (dn (1+(aN a 60)) (by have:=g;omega)) (dZ e 4 (by omega) (by omega)) (dZ q0 7 (by omega) (by omega)) (dn (aN q0 7) (by have:=j;omega)) (dZ a 7 (by omega) (by omega)) (dn (1+(aN a 7)) (by have:=i;omega)) (dP _ _ _ (Nat.lt_of_le_of_lt (iC (k:=8) (by have:=j;omega)) (by decide)) (Nat.lt_of_le_of_lt (iC (k:=8) (by have:=i;omega)) (by decide)) (by omega))
   ·rw [if_neg e3,if_neg e3]
    exact Ym q0 a e (aN q0 1000) (aN a 60) (aN e 4) (aN q0 4611686018427387904) (aN a 4611686018427387904) (aN q0 7) (aN a 7) (aN q0 2147483648) (wX (decide (q0<((0:Nat):Int))) (aN q0 1000) (1+(aN a 60))) f g l c b j i d (aB (oJ (by omega))) (aB (oJ (by omega))) (aB (oJ (by omega))) (dZ q0 1000 (by omega) (by omega)) (dn (aN q0 1000) (by have:=f;omega)) (dZ a 60 (by omega) (by omega)) (dn (1+(aN a 60)) (by have:=g;omega)) (dZ e 4 (by omega) (by omega)) (dP _ _ _ (Nat.lt_of_le_of_lt (iC (k:=8) (by have:=f;omega)) (by decide)) (Nat.lt_of_le_of_lt (iC (k:=8) (by have:=g;omega)) (by decide)) (by omega))
theorem Ph (q0 a b:Int):0<Yn q0 a b:=by
 unfold Yn
 split
 ·omega
 ·split
  ·exact Nat.mul_pos (by omega) (by omega)
  ·split<;>omega
theorem UV (q0 b a:Int):mdN q0 b a<2^128∧Yn q0 b a<2^128:=by
 have f:(aN q0 1000)<4611686018427387904:=Nat.lt_of_lt_of_le (eU (by omega)) (by omega)
 have i:(aN b 60)<4611686018427387904:=Nat.lt_of_lt_of_le (eU (by omega)) (by omega)
 have j:(aN a 4)<4611686018427387904:=Nat.lt_of_lt_of_le (eU (by omega)) (by omega)
 have e:(aN q0 4611686018427387904)<4611686018427387904:=Nat.lt_of_lt_of_le (eU (by omega)) (by omega)
 have c:(aN b 4611686018427387904)<4611686018427387904:=Nat.lt_of_lt_of_le (eU (by omega)) (by omega)
 have h:(aN q0 7)<4611686018427387904:=Nat.lt_of_lt_of_le (eU (by omega)) (by omega)
 have g:(aN b 7)<4611686018427387904:=Nat.lt_of_lt_of_le (eU (by omega)) (by omega)
 have d:(aN q0 2147483648)<4611686018427387904:=Nat.lt_of_lt_of_le (eU (by omega)) (by omega)
 unfold mdN Yn
 by_cases e1:aN a 4=1
 ·rw [if_pos e1,if_pos e1];omega
 ·rw [if_neg e1,if_neg e1]
  by_cases e2:aN a 4=2
  ·rw [if_pos e2,if_pos e2]
   exact ⟨by exact Nat.lt_of_le_of_lt (Nat.mul_le_mul (Nat.le_of_lt e) (Nat.le_of_lt c)) (by decide),by exact Nat.lt_of_le_of_lt (Nat.mul_le_mul (Nat.le_of_lt (show 1+_<4611686018427387905 by have:=c;omega)) (Nat.le_of_lt (show 1+_<4611686018427387905 by have:=d;omega))) (by decide)⟩
  ·rw [if_neg e2,if_neg e2]
   by_cases e3:aN a 4=3
   ·rw [if_pos e3,if_pos e3];omega
   ·rw [if_neg e3,if_neg e3];omega
theorem akX (w:RQ) (h0:lit true (!((ag w.n)== []))=true) (a:CO 70 [.agg [.bool w.neg,.str (ag w.n),.str (ag w.d)]] (.ret (.agg [.bool w.neg,.str (ag w.n),.str (ag w.d)]))):CO 59 [.agg [.bool w.neg,.str (ag w.n),.str (ag w.d)]] (.ret (.agg [.bool (!w.neg),.str (ag w.n),.str (ag w.d)])):=pK [] 1 1 (.k 9 h0 (.n 5 .nil)) (.c a .nil)
theorem adu (q0 b a:Int) (w:RQ) (c:Int) (h0:lit false (c==((0:Nat):Int))=true) (g:lit true w.neg=true) (d:CO 19 [.agg [.int .i64 q0,.int .i64 b,.int .i64 a]] (.ret (.agg [.bool w.neg,.str (ag w.n),.str (ag w.d)]))) (e:CO 59 [.agg [.bool w.neg,.str (ag w.n),.str (ag w.d)]] (.ret (.agg [.bool false,.str (ag w.n),.str (ag w.d)]))) (f:CO 45 [.agg [.bool false,.str (ag w.n),.str (ag w.d)]] (.ret (.int .i64 c))):CO 35 [.agg [.int .i64 q0,.int .i64 b,.int .i64 a]] (.ret (.agg [.bool false,.str (ag w.n),.str (ag w.d)])):=pK [] 2 1 (.k 7 h0 (.k 7 g (.n 5 .nil))) (.c f (.c e (.c d .nil)))
theorem adv (q0 b a:Int) (w:RQ) (c:Int) (h0:lit true (c==((0:Nat):Int))=true) (g:lit false w.neg=true) (d:CO 19 [.agg [.int .i64 q0,.int .i64 b,.int .i64 a]] (.ret (.agg [.bool w.neg,.str (ag w.n),.str (ag w.d)]))) (e:CO 45 [.agg [.bool w.neg,.str (ag w.n),.str (ag w.d)]] (.ret (.int .i64 c))) (f:CO 60 [] (.ret (.agg [.bool false,.str [1],.str [100]]))):CO 35 [.agg [.int .i64 q0,.int .i64 b,.int .i64 a]] (.ret (.agg [.bool false,.str [1],.str [100]])):=pK [] 2 2 (.k 4 h0 (.k 3 g (.n 5 .nil))) (.c f (.c e (.c d .nil)))
theorem adw (q0 b a:Int) (w:RQ) (c:Int) (h0:lit false (c==((0:Nat):Int))=true) (f:lit false w.neg=true) (d:CO 19 [.agg [.int .i64 q0,.int .i64 b,.int .i64 a]] (.ret (.agg [.bool w.neg,.str (ag w.n),.str (ag w.d)]))) (e:CO 45 [.agg [.bool w.neg,.str (ag w.n),.str (ag w.d)]] (.ret (.int .i64 c))):CO 35 [.agg [.int .i64 q0,.int .i64 b,.int .i64 a]] (.ret (.agg [.bool w.neg,.str (ag w.n),.str (ag w.d)])):=pK [] 2 0 (.k 7 h0 (.k 3 f (.n 5 .nil))) (.c e (.c d .nil))
theorem abU (n:Int) (k8 k2:Nat) (w:RQ) (a:Bool) (i:List UInt8) (b:k8<4611686018427387904) (h0:lit false a=true) (d:lit true ((((1+k8):Nat):Int)==((4:Nat):Int))=true) (c:CO 29 [.int .i64 n,.int .i64 8] (.ret (.int .i64 (k8:Int)))) (e:CO 19 [.agg [.int .i64 (IntKind.wrap .i64 (Int.tdiv n ((8:Nat):Int))),.int .i64 (IntKind.wrap .i64 (Int.tdiv n ((24:Nat):Int))),.int .i64 (IntKind.wrap .i64 (((3:Nat):Int)*(Int.tmod (IntKind.wrap .i64 (Int.tdiv n ((8:Nat):Int))) ((2:Nat):Int))))]] (.ret (.agg [.bool w.neg,.str (ag w.n),.str (ag w.d)]))) (f:CO 29 [.int .i64 (IntKind.wrap .i64 (Int.tdiv n ((8:Nat):Int))),.int .i64 2] (.ret (.int .i64 (k2:Int)))) (h:CO 36 [.int .i64 (k2:Int)] (.ret (.agg [.bool false,.str (ag k2),.str (ag 1)]))) (g:CO 32 [.int .i64 (((1+k8):Nat):Int)] (.ret (.bool a))):CO 31 [.int .i64 n] (.ret (.agg [.int .i64 (((1+k8):Nat):Int),.bool false,.str (ag k2),.str (ag 1),.str []])):=pK [] 2 1 (.k 9 h0 (.k 2 d (.n 5 .nil))) (.c g (.c h (.c f (.c e (.v 7 (.eq (Hu b)) (.c c .nil))))))
theorem abV (n:Int) (k8 k2:Nat) (w:RQ) (a:Bool) (c:List UInt8) (b:k8<4611686018427387904) (h0:lit true a=true) (e:lit false ((((1+k8):Nat):Int)==((4:Nat):Int))=true) (d:CO 29 [.int .i64 n,.int .i64 8] (.ret (.int .i64 (k8:Int)))) (f:CO 19 [.agg [.int .i64 (IntKind.wrap .i64 (Int.tdiv n ((8:Nat):Int))),.int .i64 (IntKind.wrap .i64 (Int.tdiv n ((24:Nat):Int))),.int .i64 (IntKind.wrap .i64 (((3:Nat):Int)*(Int.tmod (IntKind.wrap .i64 (Int.tdiv n ((8:Nat):Int))) ((2:Nat):Int))))]] (.ret (.agg [.bool w.neg,.str (ag w.n),.str (ag w.d)]))) (g:CO 32 [.int .i64 (((1+k8):Nat):Int)] (.ret (.bool a))) (h:CO 33 [.int .i64 (IntKind.wrap .i64 (Int.tdiv n ((8:Nat):Int)))] (.ret (.str c))):CO 31 [.int .i64 n] (.ret (.agg [.int .i64 (((1+k8):Nat):Int),.bool false,.str [],.str [],.str c])):=pK [] 2 2 (.k 7 h0 (.c e (.n 5 .nil))) (.c h (.c g (.c f (.v 7 (.eq (Hu b)) (.c d .nil)))))
theorem abW (n:Int) (k8 k2:Nat) (w:RQ) (a:Bool) (g:List UInt8) (b:k8<4611686018427387904) (h0:lit false a=true) (d:lit false ((((1+k8):Nat):Int)==((4:Nat):Int))=true) (c:CO 29 [.int .i64 n,.int .i64 8] (.ret (.int .i64 (k8:Int)))) (e:CO 19 [.agg [.int .i64 (IntKind.wrap .i64 (Int.tdiv n ((8:Nat):Int))),.int .i64 (IntKind.wrap .i64 (Int.tdiv n ((24:Nat):Int))),.int .i64 (IntKind.wrap .i64 (((3:Nat):Int)*(Int.tmod (IntKind.wrap .i64 (Int.tdiv n ((8:Nat):Int))) ((2:Nat):Int))))]] (.ret (.agg [.bool w.neg,.str (ag w.n),.str (ag w.d)]))) (f:CO 32 [.int .i64 (((1+k8):Nat):Int)] (.ret (.bool a))):CO 31 [.int .i64 n] (.ret (.agg [.int .i64 (((1+k8):Nat):Int),.bool w.neg,.str (ag w.n),.str (ag w.d),.str []])):=pK [] 2 0 (.k 9 h0 (.c d (.n 5 .nil))) (.c f (.c e (.v 7 (.eq (Hu b)) (.c c .nil))))
theorem ce0:CO 76 [.str [0,0,0,0,0,0,0,1]] (.ret (.str [1])):=cK (.nil)
theorem ce1:CO 49 [.int .i64 1] (.ret (.str [1])):=cK (.c ce0 .nil)
theorem ce2:CO 76 [.str [0,0,0,0,0,0,0,100]] (.ret (.str [100])):=cK (.nil)
theorem ce3:CO 49 [.int .i64 100] (.ret (.str [100])):=cK (.c ce2 .nil)
theorem ce4:CO 128 [.str [1]] (.ret (.bool true)):=cK (.nil)
theorem ce5:CO 128 [.str [100]] (.ret (.bool true)):=cK (.nil)
theorem ce6:CO 76 [.str [1]] (.ret (.str [1])):=cK (.nil)
theorem ce7:CO 76 [.str [100]] (.ret (.str [100])):=cK (.nil)
theorem ce8:CO 107 [.str [1]] (.ret (.tup [.int .i64 1,.bool true])):=cK (.c ce6 .nil)
theorem ce9:CO 77 [.str [1],.int .i64 7] (.ret (.tup [.int .i64 1,.bool true])):=cK (.c ce8 (.c ce6 .nil))
theorem aol:CO 107 [.str [100]] (.ret (.tup [.int .i64 100,.bool true])):=cK (.c ce7 .nil)
theorem aeD:CO 77 [.str [100],.int .i64 7] (.ret (.tup [.int .i64 100,.bool true])):=cK (.c aol (.c ce7 .nil))
theorem aom:CO 76 [.str []] (.ret (.str [])):=cK (.nil)
theorem aba:CO 49 [.int .i64 0] (.ret (.str [])):=cK (.c aom .nil)
theorem aon:CO 81 [.str [1],.str [100]] (.ret (.tup [.str [],.str [1],.bool true])):=cK (.c ce1 (.c aba (.c aeD (.c ce9 (.c ce7 .nil)))))
theorem aeE:CO 81 [.str [100],.str [1]] (.ret (.tup [.str [100],.str [],.bool true])):=cK (.c aba (.c ce3 (.c ce9 (.c aeD (.c ce6 .nil)))))
theorem aoo:CO 80 [.str [1],.str [100]] (.ret (.str [1])):=cK (.c aeE (.c aon (.c ce7 (.c ce6 .nil))))
theorem aop:CO 81 [.str [1],.str [1]] (.ret (.tup [.str [1],.str [],.bool true])):=cK (.c aba (.c ce1 (.c ce9 (.c ce9 (.c ce6 .nil)))))
theorem aoq:CO 51 [.bool false,.str [1],.str [100]] (.ret (.agg [.bool false,.str [1],.str [100]])):=cK (.c aeE (.c aop (.c aoo .nil)))
theorem aor:CO 96 [.bool false,.str [1],.str [100]] (.ret (.tup [.agg [.bool false,.str [1],.str [100]],.bool true])):=cK (.c aoq (.c ce5 (.c ce4 .nil)))
theorem aos:CO 60 [] (.ret (.agg [.bool false,.str [1],.str [100]])):=cK (.c aor (.c ce3 (.c ce1 .nil)))
theorem nS {s:List UInt8} (h:nR s=true):ag (ai s)=s:=by
 rw [yw]
 cases s with
 |nil=>rfl
 |cons c r=>
  have:(c==0)=false:=by simpa [nR] using h
  rw [List.dropWhile_cons,if_neg (by rw [this];decide)]
theorem di {x:Nat} (h:x<2^128):(ag x).length<2^33:=Nat.lt_of_le_of_lt (iC (k:=16) h) (by decide)
theorem O4 {w:RQ} (c:w.ok) (b:w.n<2^128) (a:w.d<2^128):iY w.neg (ag w.n) (ag w.d)=true:=by
 have e:=lw b
 have d:=lw a
 unfold iY
 rw [ND w c,bD,bD,decide_eq_true (by omega),decide_eq_true (by omega)]
 rfl
theorem Oj {w:RQ} (c:w.ok) (a:w.neg=false) (b:0<w.n):fZ w.neg (ag w.n) (ag w.d)=1:=by
 unfold fZ
 rw [if_pos ⟨ND w c,by rw [bD];exact b⟩,a]
 rfl
theorem Zm {w:RQ} (a:w.n=0):fZ w.neg (ag w.n) (ag w.d)=0:=by
 unfold fZ
 rw [if_neg]
 rw [bD];omega
theorem NP (neg:Bool) (n d:Nat) (a:n<2^128) (b:d<2^128):(wX neg n d).n<2^128∧(wX neg n d).d<2^128:=
 ⟨Nat.lt_of_le_of_lt (Nat.div_le_self _ _) a,Nat.lt_of_le_of_lt (Nat.div_le_self _ _) b⟩
theorem V6 (q0 a:Int):∃ w:RQ,w.ok∧w.neg=false∧0<w.n∧w.n<2^128∧w.d<2^128∧CO 35 [.agg [.int .i64 q0,.int .i64 a,.int .i64 3]] (.ret (qA w)):=by
 have h:=DN q0 a 3 (fun h=>absurd h (by decide))
 obtain ⟨n,l⟩:=UV q0 a 3
 obtain ⟨g,d⟩:=NP (decide (q0<((0:Nat):Int))) _ _ n l
 have c:(wX (decide (q0<((0:Nat):Int))) (mdN q0 a 3) (Yn q0 a 3)).ok:=Pg (Ph _ _ _)
 generalize wX (decide (q0<((0:Nat):Int))) (mdN q0 a 3) (Yn q0 a 3)=w at*
 have e:qA ⟨false,1,100⟩= .agg [.bool false,.str [1],.str [100]]:=by
  unfold qA
  rw [show ag 1= [1] from nS (s:= [1]) rfl,show ag 100= [100] from nS (s:= [100]) rfl]
 have m:(⟨false,1,100⟩:RQ).ok:=⟨by decide,by decide,by simp⟩
 rcases tf w.neg with b0|b0
 ·have hp:=c.2.2 b0
  have i:(!((ag w.n)== []))=true:=by
   have:ag w.n ≠ []:=fun h=>by have:=kH.1 h;omega
   simpa using this
  have j:=bV w.neg (ag w.n) (ag w.d) (di g) (di d)
  rw [show vQ w.neg (ag w.n) (ag w.d)=w by unfold vQ;rw [if_pos (ND w c),bD,bD]] at j
  have k:=akX w (aC i) j
  rw [show (!w.neg)=false by rw [b0];rfl] at k
  have f:(⟨false,w.n,w.d⟩:RQ).ok:=⟨c.1,c.2.1,by simp⟩
  have b:=fM false (ag w.n) (ag w.d) (di g) (di d)
  rw [Oj (w:=⟨false,w.n,w.d⟩) f rfl hp] at b
  exact ⟨⟨false,w.n,w.d⟩,f,rfl,hp,g,d,adu q0 a 3 w 1 (aB (by decide)) (aC b0) h k b⟩
 ·have b:=fM w.neg (ag w.n) (ag w.d) (di g) (di d)
  rcases Nat.eq_zero_or_pos w.n with hz|hp
  ·rw [Zm hz] at b
   have:=adv q0 a 3 w 0 (aC (by decide)) (aB b0) h b aos
   exact ⟨⟨false,1,100⟩,m,rfl,by decide,by decide,by decide,by rw [e];exact this⟩
  ·rw [Oj c b0 hp] at b
   exact ⟨w,c,b0,hp,g,d,adw q0 a 3 w 1 (aB (by decide)) (aB b0) h b⟩
theorem Hy {a:Int} (h:a=1∨a=2∨a=3) {w:RQ} (e:w.ok) (c:w.n<2^128) (d:w.d<2^128):aJ ⟨a,w.neg,ag w.n,ag w.d,[]⟩=0:=by
 have b:=O4 e c d
 rcases h with rfl|rfl|rfl<;>simp [aJ,f_,Jr,gI,vM,pW,b]
theorem OE {b:Int} (h:b=21∨b=22∨b=23) {w:RQ} (c:w.ok) (a:w.neg=false) (hp:0<w.n) (e:w.n<2^128) (f:w.d<2^128):aJ ⟨b,w.neg,ag w.n,ag w.d,[]⟩=0:=by
 have d:=O4 c e f
 have hs:=Oj c a hp
 rcases h with rfl|rfl|rfl<;>simp [aJ,f_,Jr,gI,vM,pW,d,hs]
theorem L6 {k:Nat} (h:k<2):aJ ⟨4,false,ag k,ag 1,[]⟩=0:=by
 have:k=0∨k=1:=by omega
 rcases this with rfl|rfl<;>simp [aJ,f_,Jr,gI,sW]
theorem EX {a:Int} (h:a=5∨a=6∨a=7∨a=8∨a=24) {b:List UInt8} (c:qG b=true):aJ ⟨a,false,[],[],b⟩=0:=by
 rcases h with rfl|rfl|rfl|rfl|rfl<;>simp [aJ,f_,Jr,gI,vM,pW,c]
theorem LZ {a:Int} (h:9≤a∧a≤20):aJ ⟨a,false,[],[],[]⟩=0:=by
 have f:Jr a=true:=decide_eq_true (by omega)
 have e:gI a=false:=decide_eq_false (by omega)
 have b:vM a=false:=decide_eq_false (by omega)
 have d:pW a=false:=decide_eq_false (by omega)
 have c:(a==((4:Nat):Int))=false:=beq_eq_false_iff_ne.2 (by omega)
 unfold aJ f_
 rw [f,e,b,d,c];rfl
theorem Ya (n:Int):∃ x:Nd,x.sm∧aJ x=0∧dM x.op=0∧CO 31 [.int .i64 n] (.ret (.agg (iZ x))):=by
 have f:=dZ n 8 (by omega) (by omega)
 have v:aN n 8<8:=eU (by omega)
 generalize aN n 8=k8 at*
 generalize l:(IntKind.wrap .i64 (Int.tdiv n ((8:Nat):Int)))=q at*
 have u: -2<Int.tmod q 2∧Int.tmod q 2<2:=by
  have y:=Int.tmod_lt_of_pos q (b:=2) (by omega)
  have e:=Int.tmod_lt_of_pos (-q) (b:=2) (by omega)
  rw [Int.neg_tmod] at e
  omega
 have d:aN (IntKind.wrap .i64 (((3:Nat):Int)*(Int.tmod q ((2:Nat):Int)))) 4 ≠ 2:=by
  rw [show ((2:Nat):Int)=2 from rfl]
  rw [dC (by omega) (by omega)]
  have:Int.tmod q 2= -1∨Int.tmod q 2=0∨Int.tmod q 2=1:=by omega
  rcases this with h|h|h<;>rw [h]<;>decide
 have c:=DN q (IntKind.wrap .i64 (Int.tdiv n ((24:Nat):Int))) (IntKind.wrap .i64 (((3:Nat):Int)*(Int.tmod q ((2:Nat):Int)))) (fun h=>absurd h d)
 obtain ⟨k,m⟩:=UV q (IntKind.wrap .i64 (Int.tdiv n ((24:Nat):Int))) (IntKind.wrap .i64 (((3:Nat):Int)*(Int.tmod q ((2:Nat):Int))))
 obtain ⟨i,g⟩:=NP (decide (q<((0:Nat):Int))) _ _ k m
 have o:=Pg (neg:=decide (q<((0:Nat):Int))) (n:=mdN q (IntKind.wrap .i64 (Int.tdiv n ((24:Nat):Int))) (IntKind.wrap .i64 (((3:Nat):Int)*(Int.tmod q ((2:Nat):Int))))) (Ph q (IntKind.wrap .i64 (Int.tdiv n ((24:Nat):Int))) (IntKind.wrap .i64 (((3:Nat):Int)*(Int.tmod q ((2:Nat):Int)))))
 generalize wX (decide (q<((0:Nat):Int))) (mdN q (IntKind.wrap .i64 (Int.tdiv n ((24:Nat):Int))) (IntKind.wrap .i64 (((3:Nat):Int)*(Int.tmod q ((2:Nat):Int))))) (Yn q (IntKind.wrap .i64 (Int.tdiv n ((24:Nat):Int))) (IntKind.wrap .i64 (((3:Nat):Int)*(Int.tmod q ((2:Nat):Int)))))=w at*
 have a:=IV (((1+k8:Nat):Int))
 have j:=I_ q
 have hp:=GZ (aN q 6) (eU (by omega))
 generalize KW (aN q 6)=nm at*
 have s:=dZ q 2 (by omega) (by omega)
 have e:aN q 2<2:=eU (by omega)
 generalize aN q 2=k2 at*
 have r:=yA k2 (by omega)
 have t:(ag k2).length<2^33:=di (by omega)
 have p:(ag 1).length<2^33:=di (by decide)
 subst l
 by_cases e4:k8=3
 ·rw [show gI ((1+k8:Nat):Int)=false by subst e4;rfl] at a
  refine ⟨⟨((1+k8:Nat):Int),false,ag k2,ag 1,[]⟩,⟨t,p⟩, ?_,by subst e4;rfl,abU n k8 k2 w false nm (by omega) (aB rfl) (aC (F5 (by omega))) f c s r a⟩
  subst e4
  exact L6 e
 ·by_cases e5:k8<3
  ·rw [show gI ((1+k8:Nat):Int)=false from decide_eq_false (by omega)] at a
   exact ⟨⟨((1+k8:Nat):Int),w.neg,ag w.n,ag w.d,[]⟩,⟨di i,di g⟩,Hy (by omega) o i g,by unfold dM;simp only;(repeat' split)<;>omega,abW n k8 k2 w false nm (by omega) (aB rfl) (aB (oJ (by omega))) f c a⟩
  ·rw [show gI ((1+k8:Nat):Int)=true from decide_eq_true (by omega)] at a
   exact ⟨⟨((1+k8:Nat):Int),false,[],[],nm⟩,⟨by simp,by simp⟩,EX (by omega) hp,by unfold dM;simp only;(repeat' split)<;>omega,abV n k8 k2 w true nm (by omega) (aC rfl) (aB (oJ (by omega))) f c a j⟩
def iL (l:List Int):List AV:=l.map fun a=> .int .i64 a
theorem XV {a:List Int} {i:Nat} (h:i<a.length):List.drop (Int.toNat (i:Int)*1) (iL a)= [AV.int .i64 (a.getD i 0)]++iL (a.drop (i+1)):=by
 unfold iL
 rw [aA,Nat.mul_one,← List.map_drop,List.drop_eq_getElem_cons h,List.getD_eq_getElem?_getD,List.getElem?_eq_getElem h]
 rfl
theorem Au {k:Nat} (h:k<2^62):AV.int .i64 (IntKind.wrap .i64 ((k:Int)+((1:Nat):Int)))= .int .i64 ((k+1:Nat):Int):=by
 have e:IntKind.wrap .i64 ((k:Int)+((1:Nat):Int))=((k+1:Nat):Int):=by rw [dC]<;>omega
 rw [e]
theorem wms {a b:Nat} (h:a≤b) (c:b<2^62):AV.int .i64 (IntKind.wrap .i64 ((b:Int) - (a:Int)))= .int .i64 ((b - a:Nat):Int):=by
 have e:IntKind.wrap .i64 ((b:Int) - (a:Int))=((b - a:Nat):Int):=by rw [dC]<;>omega
 rw [e]
theorem lms {a b:Nat} (h:b<2^62):b - a<2^62:=Nat.lt_of_le_of_lt (Nat.sub_le _ _) h
theorem akT {nt:Nat} (g:85≤nt) (a:List Int) (f:Bool) (k d qN e:Nat) (y:Nd) (x:Int) (j:List AV) (o:k<2^62) (c:d<2^62) (b:qN<4611686018427387904) (p:(List.drop ((Int.toNat (k:Int))*1) (iL a))= [AV.int .i64 x]++j) (h0:lit true ((e:Int)==((0:Nat):Int))=true) (m:(decide (((0:Nat):Int)≤(k:Int)))=true) (q:(decide ((k:Int)<(a.length:Int)))=true) (n:lit true (decide ((k:Int)<((30:Nat):Int)))=true) (i:lit true (decide ((k:Int)<(a.length:Int)))=true) (h:CO 29 [.int .i64 x,.int .i64 24] (.ret (.int .i64 (qN:Int)))) (r:CO 30 [.int .i64 (((1+qN):Nat):Int)] (.ret (.int .i64 (e:Int)))) (l:CO 31 [.int .i64 (IntKind.wrap .i64 (Int.tdiv x ((24:Nat):Int)))] (.ret (.agg [.int .i64 y.op,.bool y.neg,.str y.num,.str y.den,.str y.name]))):ah prog ap [] nt (ae 0 (af f11)) ⟨[(0,.sl (iL a) a.length f),(3,.nilS),(4,.int .i64 (d:Int)),(5,.int .i64 (k:Int))],[],.dead,[]⟩ (.normal) ⟨[(0,.sl (iL a) a.length f),(3,.ref 0 0 0 1),(4,.int .i64 (((d+1):Nat):Int)),(5,.int .i64 (((k+1):Nat):Int))],[(0,⟨[.int .i64 y.op,.bool y.neg,.str y.num,.str y.den,.str y.name],0,false,0,5,true⟩)],.dead,[]⟩:=pN 11 [] 5 15 (.k 5 h0 (.k 1 m (.c q (.c n (.c i .nil))))) (.v 19 (.eq (Au o)) (.v 43 (.eq (Au c)) (.c l (.c r (.v 26 (.eq (Hu b)) (.c h (.v 22 (.ppt p) .nil))))))) g
theorem akU {nt:Nat} (g:85≤nt) (a:List Int) (f:Bool) (k c qN e:Nat) (y:Nd) (x:Int) (l:List AV) (p:k<2^62) (d:c<2^62) (b:qN<4611686018427387904) (q:(List.drop ((Int.toNat (k:Int))*1) (iL a))= [AV.int .i64 x]++l) (h0:lit true (decide ((c:Int)<(e:Int)))=true) (n:lit false ((e:Int)==((0:Nat):Int))=true) (r:(decide (((0:Nat):Int)≤(k:Int)))=true) (o:(decide ((k:Int)<(a.length:Int)))=true) (j:lit true (decide ((k:Int)<((30:Nat):Int)))=true) (i:lit true (decide ((k:Int)<(a.length:Int)))=true) (h:CO 29 [.int .i64 x,.int .i64 24] (.ret (.int .i64 (qN:Int)))) (s:CO 30 [.int .i64 (((1+qN):Nat):Int)] (.ret (.int .i64 (e:Int)))) (m:CO 31 [.int .i64 (IntKind.wrap .i64 (Int.tdiv x ((24:Nat):Int)))] (.ret (.agg [.int .i64 y.op,.bool y.neg,.str y.num,.str y.den,.str y.name]))):ah prog ap [] nt (ae 0 (af f11)) ⟨[(0,.sl (iL a) a.length f),(3,.nilS),(4,.int .i64 (c:Int)),(5,.int .i64 (k:Int))],[],.dead,[]⟩ (.normal) ⟨[(0,.sl (iL a) a.length f),(3,.ref 0 0 0 1),(4,.int .i64 (((c+1):Nat):Int)),(5,.int .i64 (((k+1):Nat):Int))],[(0,⟨[.int .i64 y.op,.bool y.neg,.str y.num,.str y.den,.str y.name],0,false,0,5,true⟩)],.dead,[]⟩:=pN 11 [] 5 11 (.k 4 h0 (.c n (.k 1 r (.c o (.c j (.c i .nil)))))) (.v 19 (.eq (Au p)) (.v 43 (.eq (Au d)) (.c m (.c s (.v 26 (.eq (Hu b)) (.c h (.v 22 (.ppt q) .nil))))))) g
theorem akV {nt:Nat} (c:85≤nt) (a:List Int) (d:Bool) (k b:Nat) (h0:lit false (decide ((k:Int)<(a.length:Int)))=true):ah prog ap [] nt (ae 0 (af f11)) ⟨[(0,.sl (iL a) a.length d),(3,.nilS),(4,.int .i64 (b:Int)),(5,.int .i64 (k:Int))],[],.dead,[]⟩ (.exit 0) ⟨[(3,.nilS),(4,.int .i64 (b:Int))],[],.dead,[]⟩:=pN 11 [] 2 0 (.k 1 h0 .nil) (.nil) c
theorem akM {nt:Nat} (h:85≤nt) (a:List Int) (g:Bool) (k e qN f:Nat) (y:Nd) (x:Int) (m:List AV) (d:List Nd) (r:k<2^62) (c:e<2^62) (b:qN<4611686018427387904) (s:(List.drop ((Int.toNat (k:Int))*1) (iL a))= [AV.int .i64 x]++m) (h0:(Nat.ble (k+1) 1099511627776)=true) (o:(Nat.ble (k*5) (List.length (aH d)))=true) (t:lit true ((f:Int)==((0:Nat):Int))=true) (p:(decide (((0:Nat):Int)≤(k:Int)))=true) (l:(decide ((k:Int)<(a.length:Int)))=true) (j:lit true (decide ((k:Int)<((30:Nat):Int)))=true) (q:lit true (decide ((k:Int)<(a.length:Int)))=true) (i:CO 29 [.int .i64 x,.int .i64 24] (.ret (.int .i64 (qN:Int)))) (u:CO 30 [.int .i64 (((1+qN):Nat):Int)] (.ret (.int .i64 (f:Int)))) (n:CO 31 [.int .i64 (IntKind.wrap .i64 (Int.tdiv x ((24:Nat):Int)))] (.ret (.agg [.int .i64 y.op,.bool y.neg,.str y.num,.str y.den,.str y.name]))):ah prog ap [] nt (ae 0 (af f11)) ⟨[(0,.sl (iL a) a.length g),(3,.ref 0 0 0 k),(4,.int .i64 (e:Int)),(5,.int .i64 (k:Int))],[(0,⟨(aH d),0,false,0,5,true⟩)],.dead,[]⟩ (.normal) ⟨[(0,.sl (iL a) a.length g),(3,.ref 0 0 0 (k+1)),(4,.int .i64 (((e+1):Nat):Int)),(5,.int .i64 (((k+1):Nat):Int))],[(0,⟨((List.take (k*5) (aH d))++ [.int .i64 y.op,.bool y.neg,.str y.num,.str y.den,.str y.name]),0,false,0,5,true⟩)],.dead,[]⟩:=pN 11 [] 4 15 (.k 1 h0 (.c o (.k 3 t (.k 1 p (.c l (.c j (.c q .nil))))))) (.v 19 (.eq (Au r)) (.v 43 (.eq (Au c)) (.c n (.c u (.v 26 (.eq (Hu b)) (.c i (.v 22 (.ppt s) .nil))))))) h
theorem akN {nt:Nat} (h:85≤nt) (a:List Int) (g:Bool) (k c qN e:Nat) (y:Nd) (x:Int) (m:List AV) (f:List Nd) (r:k<2^62) (d:c<2^62) (b:qN<4611686018427387904) (s:(List.drop ((Int.toNat (k:Int))*1) (iL a))= [AV.int .i64 x]++m) (h0:(Nat.ble (k+1) 1099511627776)=true) (o:(Nat.ble (k*5) (List.length (aH f)))=true) (t:lit true (decide ((c:Int)<(e:Int)))=true) (p:lit false ((e:Int)==((0:Nat):Int))=true) (l:(decide (((0:Nat):Int)≤(k:Int)))=true) (j:(decide ((k:Int)<(a.length:Int)))=true) (q:lit true (decide ((k:Int)<((30:Nat):Int)))=true) (v:lit true (decide ((k:Int)<(a.length:Int)))=true) (i:CO 29 [.int .i64 x,.int .i64 24] (.ret (.int .i64 (qN:Int)))) (u:CO 30 [.int .i64 (((1+qN):Nat):Int)] (.ret (.int .i64 (e:Int)))) (n:CO 31 [.int .i64 (IntKind.wrap .i64 (Int.tdiv x ((24:Nat):Int)))] (.ret (.agg [.int .i64 y.op,.bool y.neg,.str y.num,.str y.den,.str y.name]))):ah prog ap [] nt (ae 0 (af f11)) ⟨[(0,.sl (iL a) a.length g),(3,.ref 0 0 0 k),(4,.int .i64 (c:Int)),(5,.int .i64 (k:Int))],[(0,⟨(aH f),0,false,0,5,true⟩)],.dead,[]⟩ (.normal) ⟨[(0,.sl (iL a) a.length g),(3,.ref 0 0 0 (k+1)),(4,.int .i64 (((c+1):Nat):Int)),(5,.int .i64 (((k+1):Nat):Int))],[(0,⟨((List.take (k*5) (aH f))++ [.int .i64 y.op,.bool y.neg,.str y.num,.str y.den,.str y.name]),0,false,0,5,true⟩)],.dead,[]⟩:=pN 11 [] 4 11 (.k 1 h0 (.c o (.k 2 t (.c p (.k 1 l (.c j (.c q (.c v .nil)))))))) (.v 19 (.eq (Au r)) (.v 43 (.eq (Au d)) (.c n (.c u (.v 26 (.eq (Hu b)) (.c i (.v 22 (.ppt s) .nil))))))) h
theorem akO {nt:Nat} (n:85≤nt) (b:List Int) (m:Bool) (k e qN c:Nat) (h g:Bool) (l:List UInt8) (x:Int) (r:List AV) (i:List Nd) (w:k<2^62) (d:e<2^62) (f:qN<4611686018427387904) (j:c≤e) (y:(List.drop ((Int.toNat (k:Int))*1) (iL b))= [AV.int .i64 x]++r) (h0:(Nat.ble (k+1) 1099511627776)=true) (t:(Nat.ble (k*5) (List.length (aH i)))=true) (C:lit false g=true) (u:lit true h=true) (q:lit false (decide ((e:Int)<(c:Int)))=true) (p:lit false ((c:Int)==((0:Nat):Int))=true) (v:(decide (((0:Nat):Int)≤(k:Int)))=true) (F:(decide ((k:Int)<(b.length:Int)))=true) (A:lit true (decide ((k:Int)<((30:Nat):Int)))=true) (B:lit true (decide ((k:Int)<(b.length:Int)))=true) (o:CO 29 [.int .i64 x,.int .i64 24] (.ret (.int .i64 (qN:Int)))) (D:CO 30 [.int .i64 (((1+qN):Nat):Int)] (.ret (.int .i64 (c:Int)))) (s:CO 32 [.int .i64 (((1+qN):Nat):Int)] (.ret (.bool h))) (z:CO 33 [.int .i64 (IntKind.wrap .i64 (Int.tdiv x ((24:Nat):Int)))] (.ret (.str l))) (E:CO 34 [.int .i64 (((1+qN):Nat):Int)] (.ret (.bool g))):ah prog ap [] nt (ae 0 (af f11)) ⟨[(0,.sl (iL b) b.length m),(3,.ref 0 0 0 k),(4,.int .i64 (e:Int)),(5,.int .i64 (k:Int))],[(0,⟨(aH i),0,false,0,5,true⟩)],.dead,[]⟩ (.normal) ⟨[(0,.sl (iL b) b.length m),(3,.ref 0 0 0 (k+1)),(4,.int .i64 (((e - c+1):Nat):Int)),(5,.int .i64 (((k+1):Nat):Int))],[(0,⟨((List.take (k*5) (aH i))++ [.int .i64 (((1+qN):Nat):Int),.bool false,.str [],.str [],.str l]),0,false,0,5,true⟩)],.dead,[]⟩:=pN 11 [] 6 19 (.k 1 h0 (.c t (.k 6 C (.k 2 u (.k 1 q (.c p (.k 1 v (.c F (.c A (.c B .nil)))))))))) (.v 19 (.eq (Au w)) (.v 68 (.eq (Au (lms (a:=c) d))) (.v 67 (.eq (wms j d)) (.c E (.c z (.c s (.c D (.v 26 (.eq (Hu f)) (.c o (.v 22 (.ppt y) .nil)))))))))) n
theorem akP {nt:Nat} (m:85≤nt) (b:List Int) (l:Bool) (k e qN c:Nat) (h g:Bool) (w:RQ) (x:Int) (q:List AV) (i:List Nd) (v:k<2^62) (d:e<2^62) (f:qN<4611686018427387904) (j:c≤e) (y:(List.drop ((Int.toNat (k:Int))*1) (iL b))= [AV.int .i64 x]++q) (h0:(Nat.ble (k+1) 1099511627776)=true) (s:(Nat.ble (k*5) (List.length (aH i)))=true) (C:lit true g=true) (t:lit false h=true) (p:lit false (decide ((e:Int)<(c:Int)))=true) (o:lit false ((c:Int)==((0:Nat):Int))=true) (u:(decide (((0:Nat):Int)≤(k:Int)))=true) (F:(decide ((k:Int)<(b.length:Int)))=true) (A:lit true (decide ((k:Int)<((30:Nat):Int)))=true) (B:lit true (decide ((k:Int)<(b.length:Int)))=true) (n:CO 29 [.int .i64 x,.int .i64 24] (.ret (.int .i64 (qN:Int)))) (D:CO 30 [.int .i64 (((1+qN):Nat):Int)] (.ret (.int .i64 (c:Int)))) (r:CO 32 [.int .i64 (((1+qN):Nat):Int)] (.ret (.bool h))) (z:CO 34 [.int .i64 (((1+qN):Nat):Int)] (.ret (.bool g))) (E:CO 35 [.agg [.int .i64 (IntKind.wrap .i64 (Int.tdiv x ((24:Nat):Int))),.int .i64 (IntKind.wrap .i64 (Int.tdiv x ((48:Nat):Int))),.int .i64 3]] (.ret (.agg [.bool w.neg,.str (ag w.n),.str (ag w.d)]))):ah prog ap [] nt (ae 0 (af f11)) ⟨[(0,.sl (iL b) b.length l),(3,.ref 0 0 0 k),(4,.int .i64 (e:Int)),(5,.int .i64 (k:Int))],[(0,⟨(aH i),0,false,0,5,true⟩)],.dead,[]⟩ (.normal) ⟨[(0,.sl (iL b) b.length l),(3,.ref 0 0 0 (k+1)),(4,.int .i64 (((e - c+1):Nat):Int)),(5,.int .i64 (((k+1):Nat):Int))],[(0,⟨((List.take (k*5) (aH i))++ [.int .i64 (((1+qN):Nat):Int),.bool w.neg,.str (ag w.n),.str (ag w.d),.str []]),0,false,0,5,true⟩)],.dead,[]⟩:=pN 11 [] 6 35 (.k 1 h0 (.c s (.k 9 C (.c t (.k 1 p (.c o (.k 1 u (.c F (.c A (.c B .nil)))))))))) (.v 19 (.eq (Au v)) (.v 68 (.eq (Au (lms (a:=c) d))) (.v 67 (.eq (wms j d)) (.c E (.c z (.c r (.c D (.v 26 (.eq (Hu f)) (.c n (.v 22 (.ppt y) .nil)))))))))) m
theorem akQ {nt:Nat} (m:85≤nt) (b:List Int) (l:Bool) (k e qN c:Nat) (h g:Bool) (x:Int) (q:List AV) (i:List Nd) (v:k<2^62) (d:e<2^62) (f:qN<4611686018427387904) (j:c≤e) (w:(List.drop ((Int.toNat (k:Int))*1) (iL b))= [AV.int .i64 x]++q) (h0:(Nat.ble (k+1) 1099511627776)=true) (s:(Nat.ble (k*5) (List.length (aH i)))=true) (B:lit false g=true) (t:lit false h=true) (p:lit false (decide ((e:Int)<(c:Int)))=true) (o:lit false ((c:Int)==((0:Nat):Int))=true) (u:(decide (((0:Nat):Int)≤(k:Int)))=true) (D:(decide ((k:Int)<(b.length:Int)))=true) (z:lit true (decide ((k:Int)<((30:Nat):Int)))=true) (A:lit true (decide ((k:Int)<(b.length:Int)))=true) (n:CO 29 [.int .i64 x,.int .i64 24] (.ret (.int .i64 (qN:Int)))) (C:CO 30 [.int .i64 (((1+qN):Nat):Int)] (.ret (.int .i64 (c:Int)))) (r:CO 32 [.int .i64 (((1+qN):Nat):Int)] (.ret (.bool h))) (y:CO 34 [.int .i64 (((1+qN):Nat):Int)] (.ret (.bool g))):ah prog ap [] nt (ae 0 (af f11)) ⟨[(0,.sl (iL b) b.length l),(3,.ref 0 0 0 k),(4,.int .i64 (e:Int)),(5,.int .i64 (k:Int))],[(0,⟨(aH i),0,false,0,5,true⟩)],.dead,[]⟩ (.normal) ⟨[(0,.sl (iL b) b.length l),(3,.ref 0 0 0 (k+1)),(4,.int .i64 (((e - c+1):Nat):Int)),(5,.int .i64 (((k+1):Nat):Int))],[(0,⟨((List.take (k*5) (aH i))++ [.int .i64 (((1+qN):Nat):Int),.bool false,.str [],.str [],.str []]),0,false,0,5,true⟩)],.dead,[]⟩:=pN 11 [] 6 3 (.k 1 h0 (.c s (.k 6 B (.c t (.k 1 p (.c o (.k 1 u (.c D (.c z (.c A .nil)))))))))) (.v 19 (.eq (Au v)) (.v 68 (.eq (Au (lms (a:=c) d))) (.v 67 (.eq (wms j d)) (.c y (.c r (.c C (.v 26 (.eq (Hu f)) (.c n (.v 22 (.ppt w) .nil))))))))) m
theorem akR {nt:Nat} (d:85≤nt) (a:List Int) (e:Bool) (k b:Nat) (c:List Nd) (h0:lit false (decide ((k:Int)<((30:Nat):Int)))=true) (f:lit true (decide ((k:Int)<(a.length:Int)))=true):ah prog ap [] nt (ae 0 (af f11)) ⟨[(0,.sl (iL a) a.length e),(3,.ref 0 0 0 k),(4,.int .i64 (b:Int)),(5,.int .i64 (k:Int))],[(0,⟨(aH c),0,false,0,5,true⟩)],.dead,[]⟩ (.exit 0) ⟨[(3,.ref 0 0 0 k),(4,.int .i64 (b:Int))],[(0,⟨(aH c),0,false,0,5,true⟩)],.dead,[]⟩:=pN 11 [] 2 1 (.c h0 (.c f .nil)) (.nil) d
theorem akS {nt:Nat} (d:85≤nt) (a:List Int) (e:Bool) (k b:Nat) (c:List Nd) (h0:lit false (decide ((k:Int)<(a.length:Int)))=true):ah prog ap [] nt (ae 0 (af f11)) ⟨[(0,.sl (iL a) a.length e),(3,.ref 0 0 0 k),(4,.int .i64 (b:Int)),(5,.int .i64 (k:Int))],[(0,⟨(aH c),0,false,0,5,true⟩)],.dead,[]⟩ (.exit 0) ⟨[(3,.ref 0 0 0 k),(4,.int .i64 (b:Int))],[(0,⟨(aH c),0,false,0,5,true⟩)],.dead,[]⟩:=pN 11 [] 2 0 (.k 1 h0 .nil) (.nil) d
theorem CV {k n:Nat} (h:n≤k):decide ((k:Int)<(n:Int))=false:=decide_eq_false (by omega)
def apN (os:List Nd) (k:Nat):AV:=match os with| []=> .nilS|_::_=> .ref 0 0 0 k
def hpN (os:List Nd):Hp:=match os with| []=> []|a::r=> [(0,⟨aH (a::r),0,false,0,5,true⟩)]
def ab2 (xs:List Int) (nn:Bool) (p:Nat × List Nd × Nat):St:=⟨[(0,.sl (iL xs) xs.length nn),(3,apN p.2.1 p.1),(4,.int .i64 (p.2.2:Int)),(5,.int .i64 (p.1:Int))],hpN p.2.1,.dead,[]⟩
def akJ (p:Nat × List Nd × Nat):St:=⟨[(3,apN p.2.1 p.1),(4,.int .i64 (p.2.2:Int))],hpN p.2.1,.dead,[]⟩
structure Qd (os:List Nd) (dp:Nat):Prop where
 sm:∀ x ∈ os,x.sm
 ck:jm os 0= .inl dp
theorem JM {y:Nd} (a:aJ y=0):∀ (os:List Nd) (d e:Nat),jm os d= .inl e→dM y.op≤e→jm (os++ [y]) d= .inl (e - dM y.op+1)
 | [],d,e,h,ha=>by
  simp only [jm,Sum.inl.injEq] at h
  subst h
  simp only [List.nil_append,jm,if_pos a]
  rw [if_neg (by omega)]
 | x::r,d,e,h,ha=>by
  simp only [List.cons_append,jm] at h ⊢
  split at h
  ·rename_i c
   rw [if_pos c]
   split at h
   ·cases h
   ·rename_i b
    rw [if_neg b]
    exact JM a r _ e h ha
  ·cases h
theorem IU:∀ (a:List Nd) (d e:Nat),jm a d= .inl e→e≤d+a.length∧(a ≠ []→1≤e)
 | [],d,e,h=>by
  simp only [jm,Sum.inl.injEq] at h
  subst h
  exact ⟨by simp,by simp⟩
 | x::r,d,e,h=>by
  simp only [jm] at h
  split at h
  ·split at h
   ·cases h
   ·obtain ⟨c,b⟩:=IU r _ e h
    refine ⟨by simp only [List.length_cons];omega,fun _=> ?_⟩
    cases r with
    |nil=>simp only [jm,Sum.inl.injEq] at h;omega
    |cons _ _=>exact b (by simp)
  ·cases h
theorem Qd.snoc {c:List Nd} {b:Nat} (h:Qd c b) {y:Nd} (hs:y.sm) (e:aJ y=0) (d:dM y.op≤b):Qd (c++ [y]) (b - dM y.op+1):=by
 refine ⟨fun x a=> ?_,JM e c 0 b h.ck d⟩
 rcases List.mem_append.1 a with a|a
 ·exact h.sm x a
 ·rw [List.mem_singleton] at a;subst a;exact hs
theorem uY {a:List Nd} {k:Nat} (h:a.length=k) (y:Nd):List.take (k*5) (aH a)++ [AV.int .i64 y.op,.bool y.neg,.str y.num,.str y.den,.str y.name]=aH (a++ [y]):=by
 rw [List.take_of_length_le (by rw [lH];omega),Po]
 rfl
theorem UY (l:List Int) (p:Bool) (n:List Nd) (k c:Nat) (v:Qd n c) (m:n.length=k) (d:k<30) (b:k<l.length):
  ∃ (y:Nd) (dp':Nat),Qd (n++ [y]) dp'∧∀ nt,85≤nt→ah prog ap [] nt (ae 0 (af f11)) (ab2 l p (k,n,c)) .normal (ab2 l p (k+1,n++ [y],dp')):=by
 obtain ⟨J,_⟩:=IU n 0 c v.ck
 have f:c<2^62:=by omega
 have q:=XV b
 generalize l.getD k 0=x at q
 have e:=dZ x 24 (by omega) (by omega)
 have O:aN x 24<24:=eU (by omega)
 have g:=H_ ((1+aN x 24:Nat):Int)
 have s:=IV ((1+aN x 24:Nat):Int)
 have t:=BD ((1+aN x 24:Nat):Int)
 obtain ⟨y,B,A,D,cy⟩:=Ya (IntKind.wrap .i64 (Int.tdiv x ((24:Nat):Int)))
 have hleaf:Qd (n++ [y]) (c+1):=by
  have:=v.snoc B A (by omega)
  rwa [D,Nat.sub_zero] at this
 by_cases e0:dM ((1+aN x 24:Nat):Int)=0
 ·refine ⟨y,c+1,hleaf,fun nt j=> ?_⟩
  cases n with
  |nil=>
   simp only [List.length_nil] at m
   subst m
   exact akT j l p 0 c (aN x 24) (dM ((1+aN x 24:Nat):Int)) y x _ (by omega) f (by omega) q (aC (F5 e0)) (uu 0) (fV b) (aC (fV d)) (aC (fV b)) e g cy
  |cons a r=>
   have h:=uY m y
   have i:=akM j l p k c (aN x 24) (dM ((1+aN x 24:Nat):Int)) y x _ (a::r) (by omega) f (by omega) q (Nat.ble_eq_true_of_le (by omega)) (Nat.ble_eq_true_of_le (by rw [lH];omega)) (aC (F5 e0)) (uu k) (fV b) (aC (fV d)) (aC (fV b)) e g cy
   rw [h] at i
   exact i
 ·by_cases o:c<dM ((1+aN x 24:Nat):Int)
  ·refine ⟨y,c+1,hleaf,fun nt j=> ?_⟩
   cases n with
   |nil=>
    simp only [List.length_nil] at m
    subst m
    exact akU j l p 0 c (aN x 24) (dM ((1+aN x 24:Nat):Int)) y x _ (by omega) f (by omega) q (aC (fV o)) (aB (oJ e0)) (uu 0) (fV b) (aC (fV d)) (aC (fV b)) e g cy
   |cons a r=>
    have h:=uY m y
    have i:=akN j l p k c (aN x 24) (dM ((1+aN x 24:Nat):Int)) y x _ (a::r) (by omega) f (by omega) q (Nat.ble_eq_true_of_le (by omega)) (Nat.ble_eq_true_of_le (by rw [lH];omega)) (aC (fV o)) (aB (oJ e0)) (uu k) (fV b) (aC (fV d)) (aC (fV b)) e g cy
    rw [h] at i
    exact i
  ·have o:dM ((1+aN x 24:Nat):Int)≤c:=by omega
   cases n with
   |nil=>
    exfalso
    have:=v.ck
    simp only [jm,Sum.inl.injEq] at this
    omega
   | cons a r=>
    have m:=m
    rcases tf (gI ((1+aN x 24:Nat):Int)) with e2|e2
    ·have M:=I_ (IntKind.wrap .i64 (Int.tdiv x ((24:Nat):Int)))
     have hp:=GZ (aN (IntKind.wrap .i64 (Int.tdiv x ((24:Nat):Int))) 6) (eU (by omega))
     generalize KW (aN (IntKind.wrap .i64 (Int.tdiv x ((24:Nat):Int))) 6)=nm at*
     have E:=of_decide_eq_true e2
     have u:pW ((1+aN x 24:Nat):Int)=false:=decide_eq_false (by omega)
     refine ⟨⟨((1+aN x 24:Nat):Int),false,[],[],nm⟩,_,v.snoc ⟨by simp,by simp⟩ (EX (by omega) hp) o,fun nt j=> ?_⟩
     have h:=uY m ⟨((1+aN x 24:Nat):Int),false,[],[],nm⟩
     have i:=akO j l p k c (aN x 24) (dM ((1+aN x 24:Nat):Int)) (gI ((1+aN x 24:Nat):Int)) (pW ((1+aN x 24:Nat):Int)) nm x _ (a::r) (by omega) f (by omega) (by omega) q (Nat.ble_eq_true_of_le (by omega)) (Nat.ble_eq_true_of_le (by rw [lH];omega)) (aB u) (aC e2) (aB (CV o)) (aB (oJ e0)) (uu k) (fV b) (aC (fV d)) (aC (fV b)) e g s M t
     rw [h] at i
     exact i
    ·rcases tf (pW ((1+aN x 24:Nat):Int)) with u|u
     ·obtain ⟨w,L,I,H,F,G,N⟩:=V6 (IntKind.wrap .i64 (Int.tdiv x ((24:Nat):Int))) (IntKind.wrap .i64 (Int.tdiv x ((48:Nat):Int)))
      have z:=of_decide_eq_true u
      refine ⟨⟨((1+aN x 24:Nat):Int),w.neg,ag w.n,ag w.d,[]⟩,_,v.snoc ⟨di F,di G⟩ (OE (by omega) L I H F G) o,fun nt j=> ?_⟩
      have h:=uY m ⟨((1+aN x 24:Nat):Int),w.neg,ag w.n,ag w.d,[]⟩
      have i:=akP j l p k c (aN x 24) (dM ((1+aN x 24:Nat):Int)) (gI ((1+aN x 24:Nat):Int)) (pW ((1+aN x 24:Nat):Int)) w x _ (a::r) (by omega) f (by omega) (by omega) q (Nat.ble_eq_true_of_le (by omega)) (Nat.ble_eq_true_of_le (by rw [lH];omega)) (aC u) (aB e2) (aB (CV o)) (aB (oJ e0)) (uu k) (fV b) (aC (fV d)) (aC (fV b)) e g s t N
      rw [h] at i
      exact i
     ·have E:=of_decide_eq_false e2
      have z:=of_decide_eq_false u
      have C:9≤((1+aN x 24:Nat):Int)∧((1+aN x 24:Nat):Int)≤20:=by
       have:¬ ((1+aN x 24:Nat):Int)<9:=by
        intro K
        apply e0
        unfold dM
        rw [if_neg (by omega),if_neg (by omega),if_neg (by omega)]
       omega
      refine ⟨⟨((1+aN x 24:Nat):Int),false,[],[],[]⟩,_,v.snoc ⟨by simp,by simp⟩ (LZ C) o,fun nt j=> ?_⟩
      have h:=uY m ⟨((1+aN x 24:Nat):Int),false,[],[],[]⟩
      have i:=akQ j l p k c (aN x 24) (dM ((1+aN x 24:Nat):Int)) (gI ((1+aN x 24:Nat):Int)) (pW ((1+aN x 24:Nat):Int)) x _ (a::r) (by omega) f (by omega) (by omega) q (Nat.ble_eq_true_of_le (by omega)) (Nat.ble_eq_true_of_le (by rw [lH];omega)) (aB u) (aB e2) (aB (CV o)) (aB (oJ e0)) (uu k) (fV b) (aC (fV d)) (aC (fV b)) e g s t
      rw [h] at i
      exact i
theorem Yt (f:List Int) (l:Bool):∀ (d k:Nat) (e:List Nd) (c:Nat),k+d=min f.length 30→e.length=k→Qd e c→
  ∃ (b:List Nd) (h:Nat),Qd b h∧b.length=min f.length 30∧∀ nt,85≤nt→aF prog ap [] nt (ae 0 (af f11)) (fun _=> .exit 0) (ab2 f l) akJ (k,e,c) (b.length,b,h):=by
 intro d
 induction d with
 | zero=>
  intro k e c p j m
  refine ⟨e,c,m,by omega,fun nt i=> ?_⟩
  rw [j]
  refine .done ?_
  obtain ⟨t,_⟩:=IU e 0 c m.ck
  have u:c<2^62:=by omega
  by_cases g:f.length≤k
  ·cases e with
   |nil=>exact akV i f l k c (aB (CV g))
   |cons a r=>exact akS i f l k c (a::r) (aB (CV g))
  ·have n:30≤k:=by omega
   have g:k<f.length:=by omega
   cases e with
   |nil=>simp only [List.length_nil] at j;omega
   |cons a r=>exact akR i f l k c (a::r) (aB (CV n)) (aC (fV g))
 |succ d ih=>
  intro k e c p j m
  obtain ⟨y,o,w,v⟩:=UY f l e k c m j (by omega) (by omega)
  obtain ⟨b,h,x,s,q⟩:=ih (k+1) (e++ [y]) o (by omega) (by simp [j]) w
  exact ⟨b,h,x,s,fun nt i=> .next (v nt i) (q nt i)⟩
theorem aoc {nt:Nat} (e:85≤nt) (k a:Nat) (c:List Nd) (d:a<2^62) (b:1≤a) (h0:(Nat.ble (k+1) 1099511627776)=true) (g:(Nat.ble (k*5) (List.length (aH c)))=true) (f:lit true (decide (((1:Nat):Int)<(a:Int)))=true):ah prog ap [] nt (ae 2 (af f11)) ⟨[(3,.ref 0 0 0 k),(4,.int .i64 (a:Int))],[(0,⟨(aH c),0,false,0,5,true⟩)],.dead,[]⟩ (.normal) ⟨[(3,.ref 0 0 0 (k+1)),(4,.int .i64 (((a - 1):Nat):Int))],[(0,⟨((List.take (k*5) (aH c))++ [.int .i64 9,.bool false,.str [],.str [],.str []]),0,false,0,5,true⟩)],.dead,[]⟩:=pN 11 [] 1 1 (.k 1 h0 (.c g (.k 1 f .nil))) (.v 83 (.eq (wms b d)) .nil) e
theorem aod {nt:Nat} (c:85≤nt) (k a:Nat) (b:List Nd) (h0:lit false (decide (((1:Nat):Int)<(a:Int)))=true):ah prog ap [] nt (ae 2 (af f11)) ⟨[(3,.ref 0 0 0 k),(4,.int .i64 (a:Int))],[(0,⟨(aH b),0,false,0,5,true⟩)],.dead,[]⟩ (.exit 2) ⟨[(3,.ref 0 0 0 k)],[(0,⟨(aH b),0,false,0,5,true⟩)],.dead,[]⟩:=pN 11 [] 1 0 (.c h0 .nil) (.nil) c
theorem akI (a:List Int) (b:Bool) (c:aI prog ap [] 85 (.block 0 (.loop (ae 0 (af f11)))) ⟨[(0,.sl (iL a) a.length b),(2,.nilS),(3,.nilS),(4,.int .i64 0),(5,.int .i64 0),(6,.dead),(7,.dead),(8,.dead),(9,.dead),(17,.dead),(35,.dead),(47,.dead),(53,.dead),(70,.dead),(77,.dead)],[],.dead,[]⟩ (.normal) ⟨[(3,.nilS),(4,.int .i64 0)],[],.dead,[]⟩) (d:CO 36 [.int .i64 1] (.ret (.agg [.bool false,.str (ag 1),.str (ag 1)]))):CO 11 [.sl (iL a) a.length b] (.ret (.own [.int .i64 3,.bool false,.str (ag 1),.str (ag 1),.str []] 1 5)):=pK [0] 3 1 (.n 5 .nil) (.c d (.l c .nil))
theorem akH (a:List Int) (c:Bool) (k b k2:Nat) (e d:List Nd) (h0:((b:Int)==((0:Nat):Int))=false) (f:aI prog ap [] 85 (.block 0 (.loop (ae 0 (af f11)))) ⟨[(0,.sl (iL a) a.length c),(2,.nilS),(3,.nilS),(4,.int .i64 0),(5,.int .i64 0),(6,.dead),(7,.dead),(8,.dead),(9,.dead),(17,.dead),(35,.dead),(47,.dead),(53,.dead),(70,.dead),(77,.dead)],[],.dead,[]⟩ (.normal) ⟨[(3,.ref 0 0 0 k),(4,.int .i64 (b:Int))],[(0,⟨(aH e),0,false,0,5,true⟩)],.dead,[]⟩) (g:aI prog ap [] 85 (.block 2 (.loop (ae 2 (af f11)))) ⟨[(0,.dead),(2,.dead),(3,.ref 0 0 0 k),(4,.int .i64 (b:Int)),(5,.dead),(6,.dead),(7,.dead),(8,.dead),(9,.dead),(17,.dead),(35,.dead),(47,.dead),(53,.dead),(70,.bool ((b:Int)==((0:Nat):Int))),(77,.dead)],[(0,⟨(aH e),0,false,0,5,true⟩)],.dead,[]⟩ (.normal) ⟨[(3,.ref 0 0 0 k2)],[(0,⟨(aH d),0,false,0,5,true⟩)],.dead,[]⟩):CO 11 [.sl (iL a) a.length c] (.ret (.own (List.take (k2*5) (aH d)) k2 5)):=pK [0,2] 1 0 (.c (aB h0) .nil) (.l g (.l f .nil))
def aob (p:Nat × List Nd × Nat):St:=⟨[(3,.ref 0 0 0 p.1),(4,.int .i64 (p.2.2:Int))],[(0,⟨aH p.2.1,0,false,0,5,true⟩)],.dead,[]⟩
def aej (p:Nat × List Nd):St:=⟨[(3,.ref 0 0 0 p.1)],[(0,⟨aH p.2,0,false,0,5,true⟩)],.dead,[]⟩
def oG:Nd:=⟨9,false,[],[],[]⟩
theorem WU {nt:Nat} (c:85≤nt):∀ (j k:Nat) (a:List Nd),a.length=k→k+j<2^40→
  aF prog ap [] nt (ae 2 (af f11)) (fun _=> .exit 2) aob aej (k,a,j+1) (k+j,a++List.replicate j oG):=by
 intro j
 induction j with
 |zero=>
  intro k a b e
  rw [List.replicate_zero,List.append_nil]
  exact .done (aod c k 1 a (aB (CV (Nat.le_refl 1))))
 |succ j ih=>
  intro k a b e
  have h:=ih (k+1) (a++ [oG]) (by simp [b]) (by omega)
  rw [show k+1+j=k+(j+1) by omega,List.append_assoc,show [oG]++List.replicate j oG=List.replicate (j+1) oG from rfl] at h
  refine .next ?_ h
  have d:=aoc c k (j+1+1) a (by omega) (by omega) (Nat.ble_eq_true_of_le (by omega)) (Nat.ble_eq_true_of_le (by rw [lH];omega)) (aC (fV (by omega)))
  rw [show List.take (k*5) (aH a)++ [AV.int .i64 9,.bool false,.str [],.str [],.str []]=aH (a++ [oG]) from uY b oG,show j+1+1 - 1=j+1 from rfl] at d
  exact d
theorem Qd.adds:∀ (j:Nat),∀ {os:List Nd},Qd os (j+1)→Qd (os++List.replicate j oG) 1
 |0,os,h=>by rw [List.replicate_zero,List.append_nil];exact h
 |j+1,os,h=>by
  have b:=h.snoc (y:=oG) ⟨by simp [oG],by simp [oG]⟩ (LZ ⟨by decide,by decide⟩) (by show 2≤_;omega)
  have a:=Qd.adds j b
  rw [List.append_assoc] at a
  exact a
theorem GN (d:List Int) (k:Bool):∃ e:List Nd,e ≠ []∧e.length≤2*min d.length 30+1∧e.length<60∧dH e=0∧(∀ x ∈ e,x.sm)∧CO 11 [.sl (iL d) d.length k] (.ret (.own (aH e) e.length 5)):=by
 obtain ⟨b,i,m,u,o⟩:=Yt d k (min d.length 30) 0 [] 0 (by omega) rfl ⟨by simp,rfl⟩
 obtain ⟨s,g⟩:=IU b 0 i m.ck
 rcases Nat.eq_zero_or_pos b.length with h0|hp
 ·have:b= []:=List.length_eq_zero_iff.1 h0
  subst this
  have l:i=0:=by simpa using s
  subst l
  have h:=akI d k (aF.blk o (by simp) rfl (aK.of ⟨rfl,rfl,rfl,rfl,trivial⟩) (aK.of ⟨rfl,rfl,trivial⟩)) (yA 1 (by omega))
  refine ⟨[⟨3,false,ag 1,ag 1,[]⟩],by simp,by simp,by simp, ?_, ?_,h⟩
  ·have t:aJ ⟨3,false,ag 1,ag 1,[]⟩=0:=Hy (w:=⟨false,1,1⟩) (.inr (.inr rfl)) ⟨by decide,by decide,by simp⟩ (by decide) (by decide)
   unfold dH
   simp only [jm,t]
   rfl
  ·intro x n
   rw [List.mem_singleton] at n
   subst n
   exact ⟨di (by decide),di (by decide)⟩
 ·have f:b ≠ []:=fun h=>by subst h;simp at hp
  have g:=g f
  obtain ⟨j,rfl⟩:∃ j,i=j+1:=⟨i - 1,by omega⟩
  have p:=Qd.adds j m
  have c:(b++List.replicate j oG).length=b.length+j:=by simp
  have h:=akH d k b.length (j+1) (b.length+j) b (b++List.replicate j oG) (oJ (by omega))
   (aF.blk o (by simp) rfl (aK.of ⟨rfl,rfl,rfl,rfl,trivial⟩) (by
    cases b with
    |nil=>exact absurd rfl f
    |cons a r=>exact aK.of ⟨rfl,rfl,trivial⟩))
   (aF.blk (fun nt q=>WU q j b.length b rfl (by omega)) (by simp) rfl (aK.of ⟨rfl,rfl,trivial⟩) (aK.of ⟨rfl,trivial⟩))
  rw [List.take_of_length_le (by rw [lH,c];omega)] at h
  refine ⟨b++List.replicate j oG,by simp [f],by rw [c];omega,by rw [c];omega, ?_,p.sm,by rw [c];exact h⟩
  unfold dH
  rw [if_neg (by rw [c];omega),p.ck]
  rfl
def tL (l:List (Int × Int × Int)):List AV:=l.flatMap fun q=> [.int .i64 q.1,.int .i64 q.2.1,.int .i64 q.2.2]
theorem Zp {l:List (Int × Int × Int)} {k:Nat} (h:k<l.length):List.drop (Int.toNat (k:Int)*3) (tL l)= [AV.int .i64 (l.getD k (0,0,0)).1,.int .i64 (l.getD k (0,0,0)).2.1,.int .i64 (l.getD k (0,0,0)).2.2]++tL (l.drop (k+1)):=by
 rw [aA]
 induction l generalizing k with
 |nil=>simp at h
 | cons x r ih=>
  cases k with
  |zero=>simp [tL]
  |succ k=>
   have a:k<r.length:=by simpa using h
   have:=ih a
   show List.drop ((k+1)*3) ([AV.int .i64 x.1,.int .i64 x.2.1,.int .i64 x.2.2]++tL r)=_
   rw [show (k+1)*3=3+k*3 by omega,← List.drop_drop,show List.drop 3 ([AV.int .i64 x.1,.int .i64 x.2.1,.int .i64 x.2.2]++tL r)=tL r from rfl,this]
   simp
theorem am3 {nt:Nat} (f:77≤nt) (a:List (Int × Int × Int)) (e:Bool) (k:Nat) (c:List UInt8) (g d:List AV) (b:Nat):ah prog ap [] nt (uB 9 (af f12)) ⟨[(0,.sl (tL a) a.length e),(3,.nilS),(4,.int .i64 (k:Int)),(5,.ptr 0 0 0)],[(0,⟨[.str c,.int .i64 1,.int .i64 0,.sl d b false],0,false,0,0,true⟩)],.dead,[]⟩ (.normal) ⟨[(0,.sl (tL a) a.length e),(3,.ref 0 0 0 1),(4,.int .i64 (k:Int))],[(0,⟨[.str c,.int .i64 1,.int .i64 0,.sl d b false],0,false,0,4,true⟩)],.dead,[]⟩:=pN 12 [] 1 0 (.n 7 .nil) (.nil) f
theorem am2 {nt:Nat} (g:77≤nt) (a:List (Int × Int × Int)) (f:Bool) (k:Nat) (d:List UInt8) (b e:List AV) (c:Nat) (h0:(Nat.ble (k+1) 1099511627776)=true) (h:(Nat.ble (k*4) (List.length b))=true):ah prog ap [] nt (uB 9 (af f12)) ⟨[(0,.sl (tL a) a.length f),(3,.ref 0 0 0 k),(4,.int .i64 (k:Int)),(5,.ptr 1 0 0)],[(0,⟨b,0,false,0,4,true⟩),(1,⟨[.str d,.int .i64 1,.int .i64 0,.sl e c false],0,false,0,0,true⟩)],.dead,[]⟩ (.normal) ⟨[(0,.sl (tL a) a.length f),(3,.ref 0 0 0 (k+1)),(4,.int .i64 (k:Int))],[(0,⟨((List.take (k*4) b)++ [.str d,.int .i64 1,.int .i64 0,.sl e c false]),0,false,0,4,true⟩)],.dead,[]⟩:=pN 12 [] 0 0 (.k 1 h0 (.c h (.n 5 .nil))) (.nil) g
theorem am9 {nt:Nat} (i:77≤nt) (c:List (Int × Int × Int)) (g:Bool) (k k9:Nat) (b a:RQ) (f:List UInt8) (q:Int × Int × Int) (o:List AV) (s:k<2^62) (h:k9<4611686018427387904) (e:(List.drop ((Int.toNat (k:Int))*3) (tL c))= [AV.int .i64 q.1,.int .i64 q.2.1,.int .i64 q.2.2]++o) (h0:(decide (((0:Nat):Int)≤(k:Int)))=true) (d:(decide ((k:Int)<(c.length:Int)))=true) (u:lit true (!((Int.tmod q.2.2 ((3:Nat):Int))==((0:Nat):Int)))=true) (r:lit true (decide ((k:Int)<((6:Nat):Int)))=true) (l:lit true (decide ((k:Int)<(c.length:Int)))=true) (j:CO 33 [.int .i64 (k:Int)] (.ret (.str f))) (v:CO 36 [.int .i64 0] (.ret (.agg [.bool false,.str (ag 0),.str (ag 1)]))) (p:CO 19 [.agg [.int .i64 q.1,.int .i64 q.2.1,.int .i64 3]] (.ret (.agg [.bool b.neg,.str (ag b.n),.str (ag b.d)]))) (t:CO 29 [.int .i64 q.2.2,.int .i64 9] (.ret (.int .i64 (k9:Int)))) (w:CO 36 [.int .i64 (((1+k9):Nat):Int)] (.ret (.agg [.bool false,.str (ag (1+k9)),.str (ag 1)]))) (m:CO 19 [.agg [.int .i64 q.2.1,.int .i64 q.1,.int .i64 3]] (.ret (.agg [.bool a.neg,.str (ag a.n),.str (ag a.d)]))) (n:aI prog ap [] 77 (uB 9 (af f12)) ⟨[(0,.sl (tL c) c.length g),(2,.dead),(3,.nilS),(4,.int .i64 (k:Int)),(5,.ptr 0 0 0),(13,.bool (decide ((k:Int)<((6:Nat):Int)))),(45,.bool (!((Int.tmod q.2.2 ((3:Nat):Int))==((0:Nat):Int))))],[(0,⟨[.str f,.int .i64 1,.int .i64 0,.ref 1 0 0 2],0,false,0,0,false⟩),(1,⟨[.bool false,.str (ag 0),.str (ag 1),.bool b.neg,.str (ag b.n),.str (ag b.d),.bool false,.str (ag (1+k9)),.str (ag 1),.bool a.neg,.str (ag a.n),.str (ag a.d)],0,false,0,6,true⟩)],.dead,[]⟩ (.normal) ⟨[(0,.sl (tL c) c.length g),(3,.ref 0 0 0 1),(4,.int .i64 (k:Int))],[(0,⟨[.str f,.int .i64 1,.int .i64 0,.sl [.bool false,.str (ag 0),.str (ag 1),.bool b.neg,.str (ag b.n),.str (ag b.d),.bool false,.str (ag (1+k9)),.str (ag 1),.bool a.neg,.str (ag a.n),.str (ag a.d)] 2 false],0,false,0,4,true⟩)],.dead,[]⟩):ah prog ap [] nt (ae 0 (af f12)) ⟨[(0,.sl (tL c) c.length g),(3,.nilS),(4,.int .i64 (k:Int))],[],.dead,[]⟩ (.normal) ⟨[(0,.sl (tL c) c.length g),(3,.ref 0 0 0 1),(4,.int .i64 (((k+1):Nat):Int))],[(0,⟨[.str f,.int .i64 1,.int .i64 0,.sl [.bool false,.str (ag 0),.str (ag 1),.bool b.neg,.str (ag b.n),.str (ag b.d),.bool false,.str (ag (1+k9)),.str (ag 1),.bool a.neg,.str (ag a.n),.str (ag a.d)] 2 false],0,false,0,4,true⟩)],.dead,[]⟩:=pN 12 [1009] 4 11 (.k 8 h0 (.c d (.k 3 h0 (.c d (.k 3 h0 (.c d (.k 1 u (.k 4 h0 (.c d (.k 7 h0 (.c d (.k 3 h0 (.c d (.k 2 r (.c l .nil))))))))))))))) (.v 15 (.eq (Au s)) (.l n (.c m (.v 63 (.ppt e) (.v 58 (.ppt e) (.c w (.v 54 (.eq (Hu h)) (.c t (.v 50 (.ppt e) (.v 41 (.ppt e) (.c p (.v 30 (.ppt e) (.v 25 (.ppt e) (.c v (.c j .nil))))))))))))))) i
theorem am_ {nt:Nat} (h:77≤nt) (b:List (Int × Int × Int)) (d:Bool) (k:Nat) (a:RQ) (c:List UInt8) (q:Int × Int × Int) (m:List AV) (p:k<2^62) (f:(List.drop ((Int.toNat (k:Int))*3) (tL b))= [AV.int .i64 q.1,.int .i64 q.2.1,.int .i64 q.2.2]++m) (h0:lit false (!((Int.tmod q.2.2 ((3:Nat):Int))==((0:Nat):Int)))=true) (e:(decide (((0:Nat):Int)≤(k:Int)))=true) (g:(decide ((k:Int)<(b.length:Int)))=true) (o:lit true (decide ((k:Int)<((6:Nat):Int)))=true) (j:lit true (decide ((k:Int)<(b.length:Int)))=true) (i:CO 33 [.int .i64 (k:Int)] (.ret (.str c))) (r:CO 36 [.int .i64 0] (.ret (.agg [.bool false,.str (ag 0),.str (ag 1)]))) (n:CO 19 [.agg [.int .i64 q.1,.int .i64 q.2.1,.int .i64 3]] (.ret (.agg [.bool a.neg,.str (ag a.n),.str (ag a.d)]))) (l:aI prog ap [] 77 (uB 9 (af f12)) ⟨[(0,.sl (tL b) b.length d),(2,.dead),(3,.nilS),(4,.int .i64 (k:Int)),(5,.ptr 0 0 0),(13,.bool (decide ((k:Int)<((6:Nat):Int)))),(45,.bool (!((Int.tmod q.2.2 ((3:Nat):Int))==((0:Nat):Int))))],[(0,⟨[.str c,.int .i64 1,.int .i64 0,.ref 1 0 0 1],0,false,0,0,false⟩),(1,⟨[.bool false,.str (ag 0),.str (ag 1),.bool a.neg,.str (ag a.n),.str (ag a.d)],0,false,0,6,true⟩)],.dead,[]⟩ (.normal) ⟨[(0,.sl (tL b) b.length d),(3,.ref 0 0 0 1),(4,.int .i64 (k:Int))],[(0,⟨[.str c,.int .i64 1,.int .i64 0,.sl [.bool false,.str (ag 0),.str (ag 1),.bool a.neg,.str (ag a.n),.str (ag a.d)] 1 false],0,false,0,4,true⟩)],.dead,[]⟩):ah prog ap [] nt (ae 0 (af f12)) ⟨[(0,.sl (tL b) b.length d),(3,.nilS),(4,.int .i64 (k:Int))],[],.dead,[]⟩ (.normal) ⟨[(0,.sl (tL b) b.length d),(3,.ref 0 0 0 1),(4,.int .i64 (((k+1):Nat):Int))],[(0,⟨[.str c,.int .i64 1,.int .i64 0,.sl [.bool false,.str (ag 0),.str (ag 1),.bool a.neg,.str (ag a.n),.str (ag a.d)] 1 false],0,false,0,4,true⟩)],.dead,[]⟩:=pN 12 [1009] 4 3 (.c h0 (.k 4 e (.c g (.k 7 e (.c g (.k 3 e (.c g (.k 2 o (.c j .nil))))))))) (.v 15 (.eq (Au p)) (.l l (.v 41 (.ppt f) (.c n (.v 30 (.ppt f) (.v 25 (.ppt f) (.c r (.c i .nil)))))))) h
theorem ana {nt:Nat} (b:77≤nt) (a:List (Int × Int × Int)) (c:Bool) (k:Nat) (h0:lit false (decide ((k:Int)<(a.length:Int)))=true):ah prog ap [] nt (ae 0 (af f12)) ⟨[(0,.sl (tL a) a.length c),(3,.nilS),(4,.int .i64 (k:Int))],[],.dead,[]⟩ (.exit 0) ⟨[(3,.nilS)],[],.dead,[]⟩:=pN 12 [1009] 2 0 (.k 1 h0 .nil) (.nil) b
theorem am4 {nt:Nat} (j:77≤nt) (c:List (Int × Int × Int)) (h:Bool) (k k9:Nat) (b a:RQ) (f:List UInt8) (q:Int × Int × Int) (p:List AV) (g:List AV) (t:k<2^62) (i:k9<4611686018427387904) (e:(List.drop ((Int.toNat (k:Int))*3) (tL c))= [AV.int .i64 q.1,.int .i64 q.2.1,.int .i64 q.2.2]++p) (h0:(decide (((0:Nat):Int)≤(k:Int)))=true) (d:(decide ((k:Int)<(c.length:Int)))=true) (v:lit true (!((Int.tmod q.2.2 ((3:Nat):Int))==((0:Nat):Int)))=true) (s:lit true (decide ((k:Int)<((6:Nat):Int)))=true) (m:lit true (decide ((k:Int)<(c.length:Int)))=true) (l:CO 33 [.int .i64 (k:Int)] (.ret (.str f))) (w:CO 36 [.int .i64 0] (.ret (.agg [.bool false,.str (ag 0),.str (ag 1)]))) (r:CO 19 [.agg [.int .i64 q.1,.int .i64 q.2.1,.int .i64 3]] (.ret (.agg [.bool b.neg,.str (ag b.n),.str (ag b.d)]))) (u:CO 29 [.int .i64 q.2.2,.int .i64 9] (.ret (.int .i64 (k9:Int)))) (x:CO 36 [.int .i64 (((1+k9):Nat):Int)] (.ret (.agg [.bool false,.str (ag (1+k9)),.str (ag 1)]))) (n:CO 19 [.agg [.int .i64 q.2.1,.int .i64 q.1,.int .i64 3]] (.ret (.agg [.bool a.neg,.str (ag a.n),.str (ag a.d)]))) (o:aI prog ap [] 77 (uB 9 (af f12)) ⟨[(0,.sl (tL c) c.length h),(2,.dead),(3,.ref 0 0 0 k),(4,.int .i64 (k:Int)),(5,.ptr 1 0 0),(13,.bool (decide ((k:Int)<((6:Nat):Int)))),(45,.bool (!((Int.tmod q.2.2 ((3:Nat):Int))==((0:Nat):Int))))],[(0,⟨g,0,false,0,4,true⟩),(1,⟨[.str f,.int .i64 1,.int .i64 0,.ref 2 0 0 2],0,false,0,0,false⟩),(2,⟨[.bool false,.str (ag 0),.str (ag 1),.bool b.neg,.str (ag b.n),.str (ag b.d),.bool false,.str (ag (1+k9)),.str (ag 1),.bool a.neg,.str (ag a.n),.str (ag a.d)],0,false,0,6,true⟩)],.dead,[]⟩ (.normal) ⟨[(0,.sl (tL c) c.length h),(3,.ref 0 0 0 (k+1)),(4,.int .i64 (k:Int))],[(0,⟨((List.take (k*4) g)++ [.str f,.int .i64 1,.int .i64 0,.sl [.bool false,.str (ag 0),.str (ag 1),.bool b.neg,.str (ag b.n),.str (ag b.d),.bool false,.str (ag (1+k9)),.str (ag 1),.bool a.neg,.str (ag a.n),.str (ag a.d)] 2 false]),0,false,0,4,true⟩)],.dead,[]⟩):ah prog ap [] nt (ae 0 (af f12)) ⟨[(0,.sl (tL c) c.length h),(3,.ref 0 0 0 k),(4,.int .i64 (k:Int))],[(0,⟨g,0,false,0,4,true⟩)],.dead,[]⟩ (.normal) ⟨[(0,.sl (tL c) c.length h),(3,.ref 0 0 0 (k+1)),(4,.int .i64 (((k+1):Nat):Int))],[(0,⟨((List.take (k*4) g)++ [.str f,.int .i64 1,.int .i64 0,.sl [.bool false,.str (ag 0),.str (ag 1),.bool b.neg,.str (ag b.n),.str (ag b.d),.bool false,.str (ag (1+k9)),.str (ag 1),.bool a.neg,.str (ag a.n),.str (ag a.d)] 2 false]),0,false,0,4,true⟩)],.dead,[]⟩:=pN 12 [1009] 4 11 (.k 8 h0 (.c d (.k 3 h0 (.c d (.k 3 h0 (.c d (.k 1 v (.k 4 h0 (.c d (.k 7 h0 (.c d (.k 3 h0 (.c d (.k 2 s (.c m .nil))))))))))))))) (.v 15 (.eq (Au t)) (.l o (.c n (.v 63 (.ppt e) (.v 58 (.ppt e) (.c x (.v 54 (.eq (Hu i)) (.c u (.v 50 (.ppt e) (.v 41 (.ppt e) (.c r (.v 30 (.ppt e) (.v 25 (.ppt e) (.c w (.c l .nil))))))))))))))) j
theorem am5 {nt:Nat} (i:77≤nt) (b:List (Int × Int × Int)) (e:Bool) (k:Nat) (a:RQ) (c:List UInt8) (q:Int × Int × Int) (n:List AV) (d:List AV) (r:k<2^62) (g:(List.drop ((Int.toNat (k:Int))*3) (tL b))= [AV.int .i64 q.1,.int .i64 q.2.1,.int .i64 q.2.2]++n) (h0:lit false (!((Int.tmod q.2.2 ((3:Nat):Int))==((0:Nat):Int)))=true) (f:(decide (((0:Nat):Int)≤(k:Int)))=true) (h:(decide ((k:Int)<(b.length:Int)))=true) (p:lit true (decide ((k:Int)<((6:Nat):Int)))=true) (l:lit true (decide ((k:Int)<(b.length:Int)))=true) (j:CO 33 [.int .i64 (k:Int)] (.ret (.str c))) (s:CO 36 [.int .i64 0] (.ret (.agg [.bool false,.str (ag 0),.str (ag 1)]))) (o:CO 19 [.agg [.int .i64 q.1,.int .i64 q.2.1,.int .i64 3]] (.ret (.agg [.bool a.neg,.str (ag a.n),.str (ag a.d)]))) (m:aI prog ap [] 77 (uB 9 (af f12)) ⟨[(0,.sl (tL b) b.length e),(2,.dead),(3,.ref 0 0 0 k),(4,.int .i64 (k:Int)),(5,.ptr 1 0 0),(13,.bool (decide ((k:Int)<((6:Nat):Int)))),(45,.bool (!((Int.tmod q.2.2 ((3:Nat):Int))==((0:Nat):Int))))],[(0,⟨d,0,false,0,4,true⟩),(1,⟨[.str c,.int .i64 1,.int .i64 0,.ref 2 0 0 1],0,false,0,0,false⟩),(2,⟨[.bool false,.str (ag 0),.str (ag 1),.bool a.neg,.str (ag a.n),.str (ag a.d)],0,false,0,6,true⟩)],.dead,[]⟩ (.normal) ⟨[(0,.sl (tL b) b.length e),(3,.ref 0 0 0 (k+1)),(4,.int .i64 (k:Int))],[(0,⟨((List.take (k*4) d)++ [.str c,.int .i64 1,.int .i64 0,.sl [.bool false,.str (ag 0),.str (ag 1),.bool a.neg,.str (ag a.n),.str (ag a.d)] 1 false]),0,false,0,4,true⟩)],.dead,[]⟩):ah prog ap [] nt (ae 0 (af f12)) ⟨[(0,.sl (tL b) b.length e),(3,.ref 0 0 0 k),(4,.int .i64 (k:Int))],[(0,⟨d,0,false,0,4,true⟩)],.dead,[]⟩ (.normal) ⟨[(0,.sl (tL b) b.length e),(3,.ref 0 0 0 (k+1)),(4,.int .i64 (((k+1):Nat):Int))],[(0,⟨((List.take (k*4) d)++ [.str c,.int .i64 1,.int .i64 0,.sl [.bool false,.str (ag 0),.str (ag 1),.bool a.neg,.str (ag a.n),.str (ag a.d)] 1 false]),0,false,0,4,true⟩)],.dead,[]⟩:=pN 12 [1009] 4 3 (.c h0 (.k 4 f (.c h (.k 7 f (.c h (.k 3 f (.c h (.k 2 p (.c l .nil))))))))) (.v 15 (.eq (Au r)) (.l m (.v 41 (.ppt g) (.c o (.v 30 (.ppt g) (.v 25 (.ppt g) (.c s (.c j .nil)))))))) i
theorem am6 {nt:Nat} (c:77≤nt) (a:List (Int × Int × Int)) (d:Bool) (k:Nat) (b:List AV) (h0:lit false (decide ((k:Int)<((6:Nat):Int)))=true) (e:lit true (decide ((k:Int)<(a.length:Int)))=true):ah prog ap [] nt (ae 0 (af f12)) ⟨[(0,.sl (tL a) a.length d),(3,.ref 0 0 0 k),(4,.int .i64 (k:Int))],[(0,⟨b,0,false,0,4,true⟩)],.dead,[]⟩ (.exit 0) ⟨[(3,.ref 0 0 0 k)],[(0,⟨b,0,false,0,4,true⟩)],.dead,[]⟩:=pN 12 [1009] 2 1 (.c h0 (.c e .nil)) (.nil) c
theorem am7 {nt:Nat} (c:77≤nt) (a:List (Int × Int × Int)) (d:Bool) (k:Nat) (b:List AV) (h0:lit false (decide ((k:Int)<(a.length:Int)))=true):ah prog ap [] nt (ae 0 (af f12)) ⟨[(0,.sl (tL a) a.length d),(3,.ref 0 0 0 k),(4,.int .i64 (k:Int))],[(0,⟨b,0,false,0,4,true⟩)],.dead,[]⟩ (.exit 0) ⟨[(3,.ref 0 0 0 k)],[(0,⟨b,0,false,0,4,true⟩)],.dead,[]⟩:=pN 12 [1009] 2 0 (.k 1 h0 .nil) (.nil) c
def spN (os:List Sq) (k:Nat):AV:=match os with| []=> .nilS|_::_=> .ref 0 0 0 k
def shN (os:List Sq):Hp:=match os with| []=> []|a::r=> [(0,⟨bZ ((a::r).map Sq.c),0,false,0,4,true⟩)]
def adr (ts:List (Int × Int × Int)) (nn:Bool) (p:Nat × List Sq):St:=⟨[(0,.sl (tL ts) ts.length nn),(3,spN p.2 p.1),(4,.int .i64 (p.1:Int))],shN p.2,.dead,[]⟩
def anb (p:Nat × List Sq):St:=⟨[(3,spN p.2 p.1)],shN p.2,.dead,[]⟩
theorem akW:ag 0= []:=ig
theorem ab7:ag 1= [1]:=nS (s:= [1]) rfl
theorem auk {n:Nat} (h:1≤n∧n≤9):ag n= [UInt8.ofNat n]:=by
 obtain ⟨b,a⟩:=h
 match n,b,a with
 |1,_,_=>exact nS (s:= [1]) rfl
 |2,_,_=>exact nS (s:= [2]) rfl
 |3,_,_=>exact nS (s:= [3]) rfl
 |4,_,_=>exact nS (s:= [4]) rfl
 |5,_,_=>exact nS (s:= [5]) rfl
 |6,_,_=>exact nS (s:= [6]) rfl
 |7,_,_=>exact nS (s:= [7]) rfl
 |8,_,_=>exact nS (s:= [8]) rfl
 |9,_,_=>exact nS (s:= [9]) rfl
theorem PU {qs:List Sq} {k:Nat} (h:qs.length=k) (q:Sq):List.take (k*4) (bZ (qs.map Sq.c))++ [AV.str q.nm,.int .i64 q.u1,.int .i64 q.u2,.sl (eH q.l) q.l.length false]=bZ ((qs++ [q]).map Sq.c):=by
 rw [List.take_of_length_le (by rw [nU,List.length_map];omega),List.map_append]
 unfold bZ
 rw [List.flatMap_append]
 rfl
theorem aas (a b:Int):∃ w:RQ,w.n<2^128∧w.d<2^128∧CO 19 [.agg [.int .i64 a,.int .i64 b,.int .i64 3]] (.ret (.agg [.bool w.neg,.str (ag w.n),.str (ag w.d)])):=by
 have h:=DN a b 3 (fun h=>absurd h (by decide))
 obtain ⟨f,d⟩:=UV a b 3
 obtain ⟨c,e⟩:=NP (decide (a<((0:Nat):Int))) _ _ f d
 exact ⟨_,c,e,h⟩
def B_ (w:RQ):Br:=⟨false,ag 0,ag 1,w.neg,ag w.n,ag w.d⟩
def Qk (n:Nat) (w:RQ):Br:=⟨false,ag n,ag 1,w.neg,ag w.n,ag w.d⟩
theorem Z4 {w:RQ} (h:w.n<2^128) (a:w.d<2^128):(B_ w).sm:=⟨⟨di (x:=0) (by decide),di (x:=1) (by decide)⟩,di h,di a⟩
theorem aeu {n:Nat} (b:n<2^128) {w:RQ} (h:w.n<2^128) (a:w.d<2^128):(Qk n w).sm:=⟨⟨di b,di (x:=1) (by decide)⟩,di h,di a⟩
theorem auM (b:List UInt8) {w:RQ} (h:w.n<2^128) (a:w.d<2^128):WL ⟨b,1,0,[B_ w]⟩:=⟨B_ w,Z4 h a,rfl,akW,ab7,.inl rfl⟩
theorem auN (c:List UInt8) {n:Nat} (a:1≤n∧n≤9) {w v:RQ} (h:w.n<2^128) (b:w.d<2^128) (k:v.n<2^128) (d:v.d<2^128):WL ⟨c,1,0,[B_ w,Qk n v]⟩:=
 ⟨B_ w,Z4 h b,rfl,akW,ab7,.inr ⟨Qk n v,n,a.1,a.2,aeu (by omega) k d,rfl,auk a,ab7,rfl⟩⟩
theorem VU (d:List (Int × Int × Int)) (f:Bool) (qs:List Sq) (k:Nat) (i:qs.length=k) (n:k<6) (e:k<d.length) (x:∀ q ∈ qs,WL q):
  ∃ q:Sq,WL q∧∀ nt,77≤nt→ah prog ap [] nt (ae 0 (af f12)) (adr d f (k,qs)) .normal (adr d f (k+1,qs++ [q])):=by
 have l:=Zp e
 generalize d.getD k (0,0,0)=q at l
 have j:=I_ (k:Int)
 generalize KW (aN (k:Int) 6)=nm at j
 obtain ⟨b,t,p,cm1⟩:=aas q.1 q.2.1
 obtain ⟨c,v,u,cm2⟩:=aas q.2.1 q.1
 have s:=dZ q.2.2 9 (by omega) (by omega)
 have w:aN q.2.2 9<9:=eU (by omega)
 rcases tf (Int.tmod q.2.2 ((3:Nat):Int)==((0:Nat):Int)) with e0|e0
 ·refine ⟨⟨nm,1,0,[B_ b]⟩,auM nm t p,fun nt g=> ?_⟩
  cases qs with
  |nil=>
   simp only [List.length_nil] at i
   subst i
   exact am_ g d f 0 b nm q _ (by omega) l (aS e0) (uu 0) (fV e) (aC (fV n)) (aC (fV e)) j (yA 0 (by omega)) cm1 (fun nt g=>ah.ahead 1 ⟨[.bool false,.str (ag 0),.str (ag 1),.bool b.neg,.str (ag b.n),.str (ag b.d)],0,false,0,6,true⟩ (en':= [(0,.sl (tL d) d.length f),(3,.nilS),(4,.int .i64 ((0:Nat):Int)),(5,.ptr 0 0 0)]) (hp':= [(0,⟨[.str nm,.int .i64 1,.int .i64 0,.sl [.bool false,.str (ag 0),.str (ag 1),.bool b.neg,.str (ag b.n),.str (ag b.d)] 1 false],0,false,0,0,true⟩)]) (am3 g d f 0 nm [] [.bool false,.str (ag 0),.str (ag 1),.bool b.neg,.str (ag b.n),.str (ag b.d)] 1) (Nat.zero_le _) rfl ⟨Fz.same rfl,Fz.same rfl,Fz.same rfl,Fz.same rfl,trivial⟩ ⟨rfl,⟨rfl,rfl,rfl,rfl,.inr ⟨.cons (.same rfl) (.cons (.same rfl) (.cons (.same rfl) (.cons (.fit .ref (aT.sl _ _ _)) .nil))),fun _=>rfl⟩⟩,by decide,rfl⟩)
  |cons a r=>
   generalize o:a::r=qs at*
   have h:List.take (k*4) (bZ (qs.map Sq.c))++ [AV.str nm,.int .i64 1,.int .i64 0,.sl [.bool false,.str (ag 0),.str (ag 1),.bool b.neg,.str (ag b.n),.str (ag b.d)] 1 false]=bZ (List.map Sq.c (qs++ [(⟨nm,1,0,[B_ b]⟩:Sq)])):=PU i ⟨nm,1,0,[B_ b]⟩
   have m:=am5 g d f k b nm q _ (bZ (qs.map Sq.c)) (by omega) l (aS e0) (uu k) (fV e) (aC (fV n)) (aC (fV e)) j (yA 0 (by omega)) cm1 (fun nt g=>ah.ahead 2 ⟨[.bool false,.str (ag 0),.str (ag 1),.bool b.neg,.str (ag b.n),.str (ag b.d)],0,false,0,6,true⟩ (en':= [(0,.sl (tL d) d.length f),(3,.ref 0 0 0 k),(4,.int .i64 (k:Int)),(5,.ptr 1 0 0)]) (hp':= [(0,⟨bZ (qs.map Sq.c),0,false,0,4,true⟩),(1,⟨[.str nm,.int .i64 1,.int .i64 0,.sl [.bool false,.str (ag 0),.str (ag 1),.bool b.neg,.str (ag b.n),.str (ag b.d)] 1 false],0,false,0,0,true⟩)]) (am2 g d f k nm (bZ (qs.map Sq.c)) [.bool false,.str (ag 0),.str (ag 1),.bool b.neg,.str (ag b.n),.str (ag b.d)] 1 (Nat.ble_eq_true_of_le (by omega)) (Nat.ble_eq_true_of_le (by rw [nU,List.length_map];omega))) (Nat.zero_le _) rfl ⟨Fz.same rfl,Fz.same rfl,Fz.same rfl,Fz.same rfl,trivial⟩ ⟨rfl,E5.same rfl,by decide,rfl,⟨rfl,rfl,rfl,rfl,.inr ⟨.cons (.same rfl) (.cons (.same rfl) (.cons (.same rfl) (.cons (.fit .ref (aT.sl _ _ _)) .nil))),fun _=>rfl⟩⟩,by decide,rfl⟩)
   rw [h] at m
   subst o
   exact m
 ·refine ⟨⟨nm,1,0,[B_ b,Qk (1+aN q.2.2 9) c]⟩,auN nm (by omega) t p v u,fun nt g=> ?_⟩
  cases qs with
  |nil=>
   simp only [List.length_nil] at i
   subst i
   exact am9 g d f 0 (aN q.2.2 9) b c nm q _ (by omega) (by omega) l (uu 0) (fV e) (dK e0) (aC (fV n)) (aC (fV e)) j (yA 0 (by omega)) cm1 s (yA (1+aN q.2.2 9) (by omega)) cm2 (fun nt g=>ah.ahead 1 ⟨[.bool false,.str (ag 0),.str (ag 1),.bool b.neg,.str (ag b.n),.str (ag b.d),.bool false,.str (ag (1+aN q.2.2 9)),.str (ag 1),.bool c.neg,.str (ag c.n),.str (ag c.d)],0,false,0,6,true⟩ (en':= [(0,.sl (tL d) d.length f),(3,.nilS),(4,.int .i64 ((0:Nat):Int)),(5,.ptr 0 0 0)]) (hp':= [(0,⟨[.str nm,.int .i64 1,.int .i64 0,.sl [.bool false,.str (ag 0),.str (ag 1),.bool b.neg,.str (ag b.n),.str (ag b.d),.bool false,.str (ag (1+aN q.2.2 9)),.str (ag 1),.bool c.neg,.str (ag c.n),.str (ag c.d)] 2 false],0,false,0,0,true⟩)]) (am3 g d f 0 nm [] [.bool false,.str (ag 0),.str (ag 1),.bool b.neg,.str (ag b.n),.str (ag b.d),.bool false,.str (ag (1+aN q.2.2 9)),.str (ag 1),.bool c.neg,.str (ag c.n),.str (ag c.d)] 2) (Nat.zero_le _) rfl ⟨Fz.same rfl,Fz.same rfl,Fz.same rfl,Fz.same rfl,trivial⟩ ⟨rfl,⟨rfl,rfl,rfl,rfl,.inr ⟨.cons (.same rfl) (.cons (.same rfl) (.cons (.same rfl) (.cons (.fit .ref (aT.sl _ _ _)) .nil))),fun _=>rfl⟩⟩,by decide,rfl⟩)
  |cons a r=>
   generalize o:a::r=qs at*
   have h:List.take (k*4) (bZ (qs.map Sq.c))++ [AV.str nm,.int .i64 1,.int .i64 0,.sl [.bool false,.str (ag 0),.str (ag 1),.bool b.neg,.str (ag b.n),.str (ag b.d),.bool false,.str (ag (1+aN q.2.2 9)),.str (ag 1),.bool c.neg,.str (ag c.n),.str (ag c.d)] 2 false]=bZ (List.map Sq.c (qs++ [(⟨nm,1,0,[B_ b,Qk (1+aN q.2.2 9) c]⟩:Sq)])):=PU i ⟨nm,1,0,[B_ b,Qk (1+aN q.2.2 9) c]⟩
   have m:=am4 g d f k (aN q.2.2 9) b c nm q _ (bZ (qs.map Sq.c)) (by omega) (by omega) l (uu k) (fV e) (dK e0) (aC (fV n)) (aC (fV e)) j (yA 0 (by omega)) cm1 s (yA (1+aN q.2.2 9) (by omega)) cm2 (fun nt g=>ah.ahead 2 ⟨[.bool false,.str (ag 0),.str (ag 1),.bool b.neg,.str (ag b.n),.str (ag b.d),.bool false,.str (ag (1+aN q.2.2 9)),.str (ag 1),.bool c.neg,.str (ag c.n),.str (ag c.d)],0,false,0,6,true⟩ (en':= [(0,.sl (tL d) d.length f),(3,.ref 0 0 0 k),(4,.int .i64 (k:Int)),(5,.ptr 1 0 0)]) (hp':= [(0,⟨bZ (qs.map Sq.c),0,false,0,4,true⟩),(1,⟨[.str nm,.int .i64 1,.int .i64 0,.sl [.bool false,.str (ag 0),.str (ag 1),.bool b.neg,.str (ag b.n),.str (ag b.d),.bool false,.str (ag (1+aN q.2.2 9)),.str (ag 1),.bool c.neg,.str (ag c.n),.str (ag c.d)] 2 false],0,false,0,0,true⟩)]) (am2 g d f k nm (bZ (qs.map Sq.c)) [.bool false,.str (ag 0),.str (ag 1),.bool b.neg,.str (ag b.n),.str (ag b.d),.bool false,.str (ag (1+aN q.2.2 9)),.str (ag 1),.bool c.neg,.str (ag c.n),.str (ag c.d)] 2 (Nat.ble_eq_true_of_le (by omega)) (Nat.ble_eq_true_of_le (by rw [nU,List.length_map];omega))) (Nat.zero_le _) rfl ⟨Fz.same rfl,Fz.same rfl,Fz.same rfl,Fz.same rfl,trivial⟩ ⟨rfl,E5.same rfl,by decide,rfl,⟨rfl,rfl,rfl,rfl,.inr ⟨.cons (.same rfl) (.cons (.same rfl) (.cons (.same rfl) (.cons (.fit .ref (aT.sl _ _ _)) .nil))),fun _=>rfl⟩⟩,by decide,rfl⟩)
   rw [h] at m
   subst o
   exact m
theorem Zh (e:List (Int × Int × Int)) (i:Bool):∀ (d k:Nat) (qs:List Sq),k+d=min e.length 6→qs.length=k→(∀ q ∈ qs,WL q)→
  ∃ b:List Sq,(∀ q ∈ b,WL q)∧b.length=min e.length 6∧∀ nt,77≤nt→aF prog ap [] nt (ae 0 (af f12)) (fun _=> .exit 0) (adr e i) anb (k,qs) (b.length,b):=by
 intro d
 induction d with
 | zero=>
  intro k qs m h j
  refine ⟨qs,j,by omega,fun nt f=> ?_⟩
  rw [h]
  refine .done ?_
  by_cases c:e.length≤k
  ·cases qs with
   |nil=>exact ana f e i k (aB (CV c))
   |cons a r=>exact am7 f e i k (bZ ((a::r).map Sq.c)) (aB (CV c))
  ·have l:6≤k:=by omega
   have c:k<e.length:=by omega
   cases qs with
   |nil=>simp only [List.length_nil] at h;omega
   |cons a r=>exact am6 f e i k (bZ ((a::r).map Sq.c)) (aB (CV l)) (aC (fV c))
 | succ d ih=>
  intro k qs m h j
  obtain ⟨q,s,p⟩:=VU e i qs k h (by omega) (by omega) j
  obtain ⟨b,t,o,n⟩:=ih (k+1) (qs++ [q]) (by omega) (by simp [h]) (fun x g=>by
   rcases List.mem_append.1 g with g|g
   ·exact j x g
   ·rw [List.mem_singleton] at g;exact g ▸ s)
  exact ⟨b,t,o,fun nt f=> .next (p nt f) (n nt f)⟩
theorem amQ (a:List (Int × Int × Int)) (b:Bool) (c:aI prog ap [] 77 (.block 0 (.loop (ae 0 (af f12)))) ⟨[(0,.sl (tL a) a.length b),(2,.nilS),(3,.nilS),(4,.int .i64 0),(5,.dead),(13,.dead),(45,.dead)],[],.dead,[]⟩ (.normal) ⟨[(3,.nilS)],[],.dead,[]⟩):CO 12 [.sl (tL a) a.length b] (.ret (.nilS)):=pK [0] 0 0 .nil (.l c .nil)
theorem amP (a:List (Int × Int × Int)) (b:Bool) (k:Nat) (c:List AV) (d:aI prog ap [] 77 (.block 0 (.loop (ae 0 (af f12)))) ⟨[(0,.sl (tL a) a.length b),(2,.nilS),(3,.nilS),(4,.int .i64 0),(5,.dead),(13,.dead),(45,.dead)],[],.dead,[]⟩ (.normal) ⟨[(3,.ref 0 0 0 k)],[(0,⟨c,0,false,0,4,true⟩)],.dead,[]⟩):CO 12 [.sl (tL a) a.length b] (.ret (.own (List.take (k*4) c) k 4)):=pK [0] 0 0 .nil (.l d .nil)
theorem Hl (b:List (Int × Int × Int)) (c:Bool):∃ qs:List Sq,(∀ q ∈ qs,WL q)∧qs.length≤6∧CO 12 [.sl (tL b) b.length c] (.ret (match qs with| []=> .nilS|_::_=> .own (bZ (qs.map Sq.c)) qs.length 4)):=by
 obtain ⟨qs,e,f,d⟩:=Zh b c (min b.length 6) 0 [] (by omega) rfl (by simp)
 refine ⟨qs,e,by omega, ?_⟩
 cases qs with
 |nil=>exact amQ b c (aF.blk d (by simp) rfl (aK.of ⟨rfl,rfl,rfl,trivial⟩) (aK.of ⟨rfl,trivial⟩))
 |cons a r=>
  have h:=amP b c (a::r).length (bZ ((a::r).map Sq.c)) (aF.blk d (by simp) rfl (aK.of ⟨rfl,rfl,rfl,trivial⟩) (aK.of ⟨rfl,trivial⟩))
  rw [List.take_of_length_le (by rw [nU,List.length_map];omega)] at h
  exact h
theorem nm0:CO 29 [.int .i64 0,.int .i64 6] (.ret (.int .i64 0)):=cK (.nil)
theorem nm1:CO 33 [.int .i64 0] (.ret (.str [97])):=cK (.c nm0 .nil)
theorem nm2:CO 29 [.int .i64 1,.int .i64 6] (.ret (.int .i64 1)):=cK (.nil)
theorem nm3:CO 33 [.int .i64 1] (.ret (.str [98])):=cK (.c nm2 .nil)
theorem nm4:CO 29 [.int .i64 2,.int .i64 6] (.ret (.int .i64 2)):=cK (.nil)
theorem nm5:CO 33 [.int .i64 2] (.ret (.str [116,97,120])):=cK (.c nm4 .nil)
theorem nm6:CO 29 [.int .i64 3,.int .i64 6] (.ret (.int .i64 3)):=cK (.nil)
theorem nm7:CO 33 [.int .i64 3] (.ret (.str [119,97,103,101])):=cK (.c nm6 .nil)
theorem nm8:CO 29 [.int .i64 4,.int .i64 6] (.ret (.int .i64 4)):=cK (.nil)
theorem nm9:CO 33 [.int .i64 4] (.ret (.str [120,95,49])):=cK (.c nm8 .nil)
theorem aul:CO 29 [.int .i64 5,.int .i64 6] (.ret (.int .i64 5)):=cK (.nil)
theorem aum:CO 33 [.int .i64 5] (.ret (.str zcc4_0)):=cK (.c aul .nil)
theorem QQ:CO 13 [] (.ret (.own zcc4_4 7 1)):=cK (.c aum (.c nm9 (.c nm7 (.c nm5 (.c nm3 (.c nm1 .nil))))))
theorem sF (n:Nat):lit false (!((n:Int)==(n:Int)))=true:=by simp [lit]
theorem V_ (e:List Nd):List.take (e.length*5) (aH e)=aH e:=List.take_of_length_le (by rw [lH];omega)
theorem aaC (qs:List Sq):List.take (qs.length*4) (bZ (qs.map Sq.c))=bZ (qs.map Sq.c):=List.take_of_length_le (by rw [nU,List.length_map];omega)
theorem VY (b:List Int) (c:List (Int × Int × Int)) (d f:Bool) (e:List Nd) (qs:List Sq) (S:Int→List UInt8→Nat) (hs:CO 10 [] (.ret (.bool true))) (h:CO 11 [.sl (iL b) b.length d] (.ret (.own (aH e) e.length 5))) (g:CO 12 [.sl (tL c) c.length f] (.ret (.nilS))) (a:CO 13 [] (.ret (.own zcc4_4 7 1))) (A:∀ op nm,CO 14 [.sl (List.take (e.length*5) (aH e)) e.length true,.nilS,.int .i64 op,.str nm] (.ret (.int .i64 ((S op nm:Nat):Int)))) (B:∀ op nm,CO 15 [.sl (List.take (e.length*5) (aH e)) e.length true,.nilS,.int .i64 op,.str nm] (.ret (.int .i64 ((S op nm:Nat):Int)))):CO 3 [.sl (iL b) b.length d,.sl (tL c) c.length f] (.ret (.bool true)):=pK [] 97 13205298224510709690001992363 (.k 2 (sF (S 9 zcc4_0)) (.k 4 (sF (S 9 [120,95,49])) (.k 4 (sF (S 9 [119,97,103,101])) (.k 4 (sF (S 9 [116,97,120])) (.k 4 (sF (S 9 [98])) (.k 4 (sF (S 9 [97])) (.k 4 (sF (S 9 zcc4_1)) (.k 6 (sF (S 8 zcc4_0)) (.k 4 (sF (S 8 [120,95,49])) (.k 4 (sF (S 8 [119,97,103,101])) (.k 4 (sF (S 8 [116,97,120])) (.k 4 (sF (S 8 [98])) (.k 4 (sF (S 8 [97])) (.k 4 (sF (S 8 zcc4_1)) (.k 6 (sF (S 7 zcc4_0)) (.k 4 (sF (S 7 [120,95,49])) (.k 4 (sF (S 7 [119,97,103,101])) (.k 4 (sF (S 7 [116,97,120])) (.k 4 (sF (S 7 [98])) (.k 4 (sF (S 7 [97])) (.k 4 (sF (S 7 zcc4_1)) (.k 6 (sF (S 6 zcc4_0)) (.k 4 (sF (S 6 [120,95,49])) (.k 4 (sF (S 6 [119,97,103,101])) (.k 4 (sF (S 6 [116,97,120])) (.k 4 (sF (S 6 [98])) (.k 4 (sF (S 6 [97])) (.k 4 (sF (S 6 zcc4_1)) (.k 6 (sF (S 5 zcc4_0)) (.k 4 (sF (S 5 [120,95,49])) (.k 4 (sF (S 5 [119,97,103,101])) (.k 4 (sF (S 5 [116,97,120])) (.k 4 (sF (S 5 [98])) (.k 4 (sF (S 5 [97])) (.k 4 (sF (S 5 zcc4_1)) (.k 6 (sF (S 4 zcc4_0)) (.k 4 (sF (S 4 [120,95,49])) (.k 4 (sF (S 4 [119,97,103,101])) (.k 4 (sF (S 4 [116,97,120])) (.k 4 (sF (S 4 [98])) (.k 4 (sF (S 4 [97])) (.k 4 (sF (S 4 zcc4_1)) (.n 5 .nil))))))))))))))))))))))))))))))))))))))))))) (.c (B 9 zcc4_0) (.c (A 9 zcc4_0) (.c (B 9 [120,95,49]) (.c (A 9 [120,95,49]) (.c (B 9 [119,97,103,101]) (.c (A 9 [119,97,103,101]) (.c (B 9 [116,97,120]) (.c (A 9 [116,97,120]) (.c (B 9 [98]) (.c (A 9 [98]) (.c (B 9 [97]) (.c (A 9 [97]) (.c (B 9 zcc4_1) (.c (A 9 zcc4_1) (.c a (.c (B 8 zcc4_0) (.c (A 8 zcc4_0) (.c (B 8 [120,95,49]) (.c (A 8 [120,95,49]) (.c (B 8 [119,97,103,101]) (.c (A 8 [119,97,103,101]) (.c (B 8 [116,97,120]) (.c (A 8 [116,97,120]) (.c (B 8 [98]) (.c (A 8 [98]) (.c (B 8 [97]) (.c (A 8 [97]) (.c (B 8 zcc4_1) (.c (A 8 zcc4_1) (.c a (.c (B 7 zcc4_0) (.c (A 7 zcc4_0) (.c (B 7 [120,95,49]) (.c (A 7 [120,95,49]) (.c (B 7 [119,97,103,101]) (.c (A 7 [119,97,103,101]) (.c (B 7 [116,97,120]) (.c (A 7 [116,97,120]) (.c (B 7 [98]) (.c (A 7 [98]) (.c (B 7 [97]) (.c (A 7 [97]) (.c (B 7 zcc4_1) (.c (A 7 zcc4_1) (.c a (.c (B 6 zcc4_0) (.c (A 6 zcc4_0) (.c (B 6 [120,95,49]) (.c (A 6 [120,95,49]) (.c (B 6 [119,97,103,101]) (.c (A 6 [119,97,103,101]) (.c (B 6 [116,97,120]) (.c (A 6 [116,97,120]) (.c (B 6 [98]) (.c (A 6 [98]) (.c (B 6 [97]) (.c (A 6 [97]) (.c (B 6 zcc4_1) (.c (A 6 zcc4_1) (.c a (.c (B 5 zcc4_0) (.c (A 5 zcc4_0) (.c (B 5 [120,95,49]) (.c (A 5 [120,95,49]) (.c (B 5 [119,97,103,101]) (.c (A 5 [119,97,103,101]) (.c (B 5 [116,97,120]) (.c (A 5 [116,97,120]) (.c (B 5 [98]) (.c (A 5 [98]) (.c (B 5 [97]) (.c (A 5 [97]) (.c (B 5 zcc4_1) (.c (A 5 zcc4_1) (.c a (.c (B 4 zcc4_0) (.c (A 4 zcc4_0) (.c (B 4 [120,95,49]) (.c (A 4 [120,95,49]) (.c (B 4 [119,97,103,101]) (.c (A 4 [119,97,103,101]) (.c (B 4 [116,97,120]) (.c (A 4 [116,97,120]) (.c (B 4 [98]) (.c (A 4 [98]) (.c (B 4 [97]) (.c (A 4 [97]) (.c (B 4 zcc4_1) (.c (A 4 zcc4_1) (.c a (.c g (.c h (.c hs .nil)))))))))))))))))))))))))))))))))))))))))))))))))))))))))))))))))))))))))))))))))))))))))))))
theorem VX (b:List Int) (c:List (Int × Int × Int)) (d f:Bool) (e:List Nd) (qs:List Sq) (S:Int→List UInt8→Nat) (hs:CO 10 [] (.ret (.bool true))) (h:CO 11 [.sl (iL b) b.length d] (.ret (.own (aH e) e.length 5))) (g:CO 12 [.sl (tL c) c.length f] (.ret (.own (bZ (qs.map Sq.c)) qs.length 4))) (a:CO 13 [] (.ret (.own zcc4_4 7 1))) (A:∀ op nm,CO 14 [.sl (List.take (e.length*5) (aH e)) e.length true,.sl (List.take (qs.length*4) (bZ (qs.map Sq.c))) qs.length true,.int .i64 op,.str nm] (.ret (.int .i64 ((S op nm:Nat):Int)))) (B:∀ op nm,CO 15 [.sl (List.take (e.length*5) (aH e)) e.length true,.sl (List.take (qs.length*4) (bZ (qs.map Sq.c))) qs.length true,.int .i64 op,.str nm] (.ret (.int .i64 ((S op nm:Nat):Int)))):CO 3 [.sl (iL b) b.length d,.sl (tL c) c.length f] (.ret (.bool true)):=pK [] 97 13205298224510709690001992363 (.k 2 (sF (S 9 zcc4_0)) (.k 4 (sF (S 9 [120,95,49])) (.k 4 (sF (S 9 [119,97,103,101])) (.k 4 (sF (S 9 [116,97,120])) (.k 4 (sF (S 9 [98])) (.k 4 (sF (S 9 [97])) (.k 4 (sF (S 9 zcc4_1)) (.k 6 (sF (S 8 zcc4_0)) (.k 4 (sF (S 8 [120,95,49])) (.k 4 (sF (S 8 [119,97,103,101])) (.k 4 (sF (S 8 [116,97,120])) (.k 4 (sF (S 8 [98])) (.k 4 (sF (S 8 [97])) (.k 4 (sF (S 8 zcc4_1)) (.k 6 (sF (S 7 zcc4_0)) (.k 4 (sF (S 7 [120,95,49])) (.k 4 (sF (S 7 [119,97,103,101])) (.k 4 (sF (S 7 [116,97,120])) (.k 4 (sF (S 7 [98])) (.k 4 (sF (S 7 [97])) (.k 4 (sF (S 7 zcc4_1)) (.k 6 (sF (S 6 zcc4_0)) (.k 4 (sF (S 6 [120,95,49])) (.k 4 (sF (S 6 [119,97,103,101])) (.k 4 (sF (S 6 [116,97,120])) (.k 4 (sF (S 6 [98])) (.k 4 (sF (S 6 [97])) (.k 4 (sF (S 6 zcc4_1)) (.k 6 (sF (S 5 zcc4_0)) (.k 4 (sF (S 5 [120,95,49])) (.k 4 (sF (S 5 [119,97,103,101])) (.k 4 (sF (S 5 [116,97,120])) (.k 4 (sF (S 5 [98])) (.k 4 (sF (S 5 [97])) (.k 4 (sF (S 5 zcc4_1)) (.k 6 (sF (S 4 zcc4_0)) (.k 4 (sF (S 4 [120,95,49])) (.k 4 (sF (S 4 [119,97,103,101])) (.k 4 (sF (S 4 [116,97,120])) (.k 4 (sF (S 4 [98])) (.k 4 (sF (S 4 [97])) (.k 4 (sF (S 4 zcc4_1)) (.n 5 .nil))))))))))))))))))))))))))))))))))))))))))) (.c (B 9 zcc4_0) (.c (A 9 zcc4_0) (.c (B 9 [120,95,49]) (.c (A 9 [120,95,49]) (.c (B 9 [119,97,103,101]) (.c (A 9 [119,97,103,101]) (.c (B 9 [116,97,120]) (.c (A 9 [116,97,120]) (.c (B 9 [98]) (.c (A 9 [98]) (.c (B 9 [97]) (.c (A 9 [97]) (.c (B 9 zcc4_1) (.c (A 9 zcc4_1) (.c a (.c (B 8 zcc4_0) (.c (A 8 zcc4_0) (.c (B 8 [120,95,49]) (.c (A 8 [120,95,49]) (.c (B 8 [119,97,103,101]) (.c (A 8 [119,97,103,101]) (.c (B 8 [116,97,120]) (.c (A 8 [116,97,120]) (.c (B 8 [98]) (.c (A 8 [98]) (.c (B 8 [97]) (.c (A 8 [97]) (.c (B 8 zcc4_1) (.c (A 8 zcc4_1) (.c a (.c (B 7 zcc4_0) (.c (A 7 zcc4_0) (.c (B 7 [120,95,49]) (.c (A 7 [120,95,49]) (.c (B 7 [119,97,103,101]) (.c (A 7 [119,97,103,101]) (.c (B 7 [116,97,120]) (.c (A 7 [116,97,120]) (.c (B 7 [98]) (.c (A 7 [98]) (.c (B 7 [97]) (.c (A 7 [97]) (.c (B 7 zcc4_1) (.c (A 7 zcc4_1) (.c a (.c (B 6 zcc4_0) (.c (A 6 zcc4_0) (.c (B 6 [120,95,49]) (.c (A 6 [120,95,49]) (.c (B 6 [119,97,103,101]) (.c (A 6 [119,97,103,101]) (.c (B 6 [116,97,120]) (.c (A 6 [116,97,120]) (.c (B 6 [98]) (.c (A 6 [98]) (.c (B 6 [97]) (.c (A 6 [97]) (.c (B 6 zcc4_1) (.c (A 6 zcc4_1) (.c a (.c (B 5 zcc4_0) (.c (A 5 zcc4_0) (.c (B 5 [120,95,49]) (.c (A 5 [120,95,49]) (.c (B 5 [119,97,103,101]) (.c (A 5 [119,97,103,101]) (.c (B 5 [116,97,120]) (.c (A 5 [116,97,120]) (.c (B 5 [98]) (.c (A 5 [98]) (.c (B 5 [97]) (.c (A 5 [97]) (.c (B 5 zcc4_1) (.c (A 5 zcc4_1) (.c a (.c (B 4 zcc4_0) (.c (A 4 zcc4_0) (.c (B 4 [120,95,49]) (.c (A 4 [120,95,49]) (.c (B 4 [119,97,103,101]) (.c (A 4 [119,97,103,101]) (.c (B 4 [116,97,120]) (.c (A 4 [116,97,120]) (.c (B 4 [98]) (.c (A 4 [98]) (.c (B 4 [97]) (.c (A 4 [97]) (.c (B 4 zcc4_1) (.c (A 4 zcc4_1) (.c a (.c g (.c h (.c hs .nil)))))))))))))))))))))))))))))))))))))))))))))))))))))))))))))))))))))))))))))))))))))))))))))
theorem CE:∀ n:Nat,1≤n∧n≤9→CO 129 [.agg [.bool false,.str [],.str [1]],.agg [.bool false,.str [UInt8.ofNat n],.str [1]]] (.ret (.int .i64 (-1))):=fun n h=>abl n h
theorem TR:∀ n:Nat,1≤n∧n≤9→CO 24 [.agg [.bool false,.str [],.str [1]],.agg [.bool false,.str [UInt8.ofNat n],.str [1]]] (.ret (.int .i64 (-1))):=fun n h=>alG n h
def zD (e:List Nd) (qs:List Sq) (op:Int) (nm:List UInt8):Nat:=jF (JO jo) (LW jo) e (qs.map Sq.c) op nm
def Zi (qs:List Sq):AV:=match qs with| []=> .nilS|_::_=> .sl (List.take (qs.length*4) (bZ (qs.map Sq.c))) qs.length true
theorem Hg (qs:List Sq):∃ b,aT (Zi qs) (.sl (bZ (qs.map Sq.c)) qs.length b):=by
 cases qs with
 |nil=>exact ⟨false,aT.nilS false rfl⟩
 |cons a r=>
  refine ⟨true, ?_⟩
  unfold Zi
  rw [aaC]
  exact aT.refl _
theorem auJ (e:List Nd) (qs:List Sq) (h:∀ q ∈ qs,WL q) (i:qs.length≤6) (f:∀ y ∈ e,y.sm) (d:e.length<2^40) (c:Int) (a:List UInt8):CO 14 [.sl (List.take (e.length*5) (aH e)) e.length true,Zi qs,.int .i64 c,.str a] (.ret (.int .i64 ((zD e qs c a:Nat):Int))):=by
 rw [V_]
 obtain ⟨b,g⟩:=Hg qs
 exact au.args (.cons (aT.refl _) (.cons g (.cons (aT.refl _) (.cons (aT.refl _) .nil)))) (bU e true qs b jo c a f d (by omega) (kK CE h))
theorem auK (e:List Nd) (qs:List Sq) (h:∀ q ∈ qs,WL q) (i:qs.length≤6) (f:∀ y ∈ e,y.sm) (d:e.length<2^40) (c:Int) (a:List UInt8):CO 15 [.sl (List.take (e.length*5) (aH e)) e.length true,Zi qs,.int .i64 c,.str a] (.ret (.int .i64 ((zD e qs c a:Nat):Int))):=by
 rw [V_]
 obtain ⟨b,g⟩:=Hg qs
 exact au.args (.cons (aT.refl _) (.cons g (.cons (aT.refl _) (.cons (aT.refl _) .nil)))) (uA e true qs b jo c a f d (by omega) (kK TR h))
theorem ad8 (b:List Int) (c:List (Int × Int × Int)) (f g:Bool):CO 3 [.sl (iL b) b.length f,.sl (tL c) c.length g] (.ret (.bool true)):=by
 obtain ⟨e,_,_,l,_,d,j⟩:=GN b f
 obtain ⟨qs,h,k,i⟩:=Hl c g
 have A:=auJ e qs h k d (by omega)
 have B:=auK e qs h k d (by omega)
 cases qs with
 |nil=>exact VY b c f g e [] (zD e []) mP j i QQ A B
 |cons a r=>exact VX b c f g e (a::r) (zD e (a::r)) mP j i QQ A B
theorem avc {x:List Value} (h:gy [.int .i64] x):∃ a:Int,x.map pg= [AV.int .i64 a]:=by
 rcases h with _|@⟨_,a,_,_,h⟩|_|_
 cases h
 exact ⟨a,rfl⟩
theorem anU (l:List Int):(l.flatMap fun a=> [AV.int .i64 a])=iL l:=by
 induction l with
 |nil=>rfl
 |cons a r ih=>rw [List.flatMap_cons,ih];rfl
theorem avA {x:List Value} (h:gy [.int .i64,.int .i64,.int .i64] x):∃ q:Int × Int × Int,x.map pg= [AV.int .i64 q.1,.int .i64 q.2.1,.int .i64 q.2.2]:=by
 rcases h with _|@⟨_,a,_,_,h⟩|_|_
 rcases h with _|@⟨_,b,_,_,h⟩|_|_
 rcases h with _|@⟨_,c,_,_,h⟩|_|_
 cases h
 exact ⟨(a,b,c),rfl⟩
def rjN (e:List Nd) (qs:List Sq) (W:Int) (k:Nat) (al:List (List UInt8)) (rz:Bool):St:=⟨[(2,.int .u8 W),(7,.bool true),(8,.sl (aH e) e.length true),(9,.sl (bZ (qs.map Sq.c)) qs.length false),(10,.nilS),(11,.bool rz),(20,.sl zcc4_4 7 true),(21,.int .i64 7),(22,.int .i64 (k:Int))],[],.dead,[]⟩
def rjC (e:List Nd) (qs:List Sq) (W:Int) (k:Nat) (al:List (List UInt8)) (rz:Bool):St:=⟨[(2,.int .u8 W),(7,.bool true),(8,.sl (aH e) e.length true),(9,.sl (bZ (qs.map Sq.c)) qs.length false),(10,.ref 0 0 0 al.length),(11,.bool rz),(20,.sl zcc4_4 7 true),(21,.int .i64 7),(22,.int .i64 (k:Int))],[(0,⟨(List.map AV.str al),0,false,0,1,true⟩)],.dead,[]⟩
def rsN (xs:List Int) (ts:List (Int × Int × Int)) (na nb:Bool) (W:Int) (e:List Nd) (qs:List Sq):St:=⟨[(0,.sl (iL xs) xs.length na),(1,.sl (tL ts) ts.length nb),(2,.int .u8 W),(6,.bool false),(7,.bool true),(8,.ref 0 0 0 e.length),(9,.nilS),(10,.nilS),(11,.bool true),(12,.dead),(13,.dead),(14,.dead),(20,.ref 1 0 0 7),(21,.int .i64 7),(22,.int .i64 0),(23,.dead),(31,.dead)],[(0,⟨(aH e),0,false,0,5,true⟩),(1,⟨zcc4_4,0,false,0,1,true⟩)],.dead,[]⟩
def rsC (xs:List Int) (ts:List (Int × Int × Int)) (na nb:Bool) (W:Int) (e:List Nd) (qs:List Sq):St:=⟨[(0,.sl (iL xs) xs.length na),(1,.sl (tL ts) ts.length nb),(2,.int .u8 W),(6,.bool false),(7,.bool true),(8,.ref 0 0 0 e.length),(9,.ref 1 0 0 qs.length),(10,.nilS),(11,.bool true),(12,.dead),(13,.dead),(14,.dead),(20,.ref 2 0 0 7),(21,.int .i64 7),(22,.int .i64 0),(23,.dead),(31,.dead)],[(0,⟨(aH e),0,false,0,5,true⟩),(1,⟨(bZ (qs.map Sq.c)),0,false,0,4,true⟩),(2,⟨zcc4_4,0,false,0,1,true⟩)],.dead,[]⟩
def rX (l:List (List UInt8)):List AV:=l.map .str
theorem JG (b:Bool):(b==b)=true:=by cases b<;>rfl
theorem Jk (l:List (List UInt8)):l.length*1≤(rX l).length:=by unfold rX;rw [List.length_map,Nat.mul_one];exact Nat.le_refl _
theorem amb {nt:Nat} (g:75≤nt) (e:List Nd) (qs:List Sq) (W:Int) (k:Nat) (c:List (List UInt8)) (d:Bool) (S:Int→List UInt8→Nat) (a:List UInt8) (h:List AV) (i:k<2^62) (b:k<7) (j:c.length+1≤1099511627776) (A:∀ op a,CO 14 [.sl (aH e) e.length true,.sl (bZ (qs.map Sq.c)) qs.length false,.int .i64 op,.str a] (.ret (.int .i64 ((S op a:Nat):Int)))) (m:(List.drop ((Int.toNat (k:Int))*1) zcc4_4)= [AV.str a]++h) (l:(decide ((k:Int)<((7:Nat):Int)))=true) (f:((IntKind.wrap .u8 (BitVec.toNat (BitVec.ofInt (IntKind.bits .u8) (Int.fdiv W (2^(min (Int.toNat (k:Int)) (IntKind.bits .u8)))) &&& BitVec.ofInt (IntKind.bits .u8) ((1:Nat):Int))))==((0:Nat):Int))=true):ah prog ap [] nt (ae 0 (af f5)) (rjN e qs W k c d) (.normal) (rjN e qs W (k+1) c d):=pN 5 [] 2 3 (.c (aC f) (.c (uu k) (.k 1 (uu k) (.c (fV b) (.c (aC l) .nil))))) (.v 51 (.eq (Au i)) (.v 25 (.ppt m) .nil)) g
theorem amc {nt:Nat} (f:75≤nt) (e:List Nd) (qs:List Sq) (W:Int) (k:Nat) (d:List (List UInt8)) (c:Bool) (S:Int→List UInt8→Nat) (a:List UInt8) (g:List AV) (j:k<2^62) (b:k<7) (l:d.length+1≤1099511627776) (A:∀ op a,CO 14 [.sl (aH e) e.length true,.sl (bZ (qs.map Sq.c)) qs.length false,.int .i64 op,.str a] (.ret (.int .i64 ((S op a:Nat):Int)))) (n:(List.drop ((Int.toNat (k:Int))*1) zcc4_4)= [AV.str a]++g) (o:(decide ((k:Int)<((7:Nat):Int)))=true) (h:((IntKind.wrap .u8 (BitVec.toNat (BitVec.ofInt (IntKind.bits .u8) (Int.fdiv W (2^(min (Int.toNat (k:Int)) (IntKind.bits .u8)))) &&& BitVec.ofInt (IntKind.bits .u8) ((1:Nat):Int))))==((0:Nat):Int))=false) (m:c=true) (i:(decide ((((S 6 a):Nat):Int)≤((1:Nat):Int)))=true):ah prog ap [] nt (ae 0 (af f5)) (rjN e qs W k d c) (.normal) ⟨[(2,.int .u8 W),(7,.bool true),(8,.sl (aH e) e.length true),(9,.sl (bZ (qs.map Sq.c)) qs.length false),(10,.ref 0 0 0 1),(11,.bool (decide ((((S 8 a):Nat):Int)≤((1:Nat):Int)))),(20,.sl zcc4_4 7 true),(21,.int .i64 7),(22,.int .i64 (((k+1):Nat):Int))],[(0,⟨[.str a],0,false,0,1,true⟩)],.dead,[]⟩:=pN 5 [] 5 25 (.c (aC i) (.c (aC m) (.k 3 (aB h) (.c (uu k) (.k 1 (uu k) (.c (fV b) (.c (aC o) .nil))))))) (.v 51 (.eq (Au j)) (.c (A 8 a) (.c (A 6 a) (.v 25 (.ppt n) .nil)))) f
theorem amd {nt:Nat} (f:75≤nt) (e:List Nd) (qs:List Sq) (W:Int) (k:Nat) (d:List (List UInt8)) (c:Bool) (S:Int→List UInt8→Nat) (a:List UInt8) (g:List AV) (j:k<2^62) (b:k<7) (l:d.length+1≤1099511627776) (A:∀ op a,CO 14 [.sl (aH e) e.length true,.sl (bZ (qs.map Sq.c)) qs.length false,.int .i64 op,.str a] (.ret (.int .i64 ((S op a:Nat):Int)))) (n:(List.drop ((Int.toNat (k:Int))*1) zcc4_4)= [AV.str a]++g) (o:(decide ((k:Int)<((7:Nat):Int)))=true) (h:((IntKind.wrap .u8 (BitVec.toNat (BitVec.ofInt (IntKind.bits .u8) (Int.fdiv W (2^(min (Int.toNat (k:Int)) (IntKind.bits .u8)))) &&& BitVec.ofInt (IntKind.bits .u8) ((1:Nat):Int))))==((0:Nat):Int))=false) (m:c=true) (i:(decide ((((S 6 a):Nat):Int)≤((1:Nat):Int)))=false):ah prog ap [] nt (ae 0 (af f5)) (rjN e qs W k d c) (.normal) ⟨[(2,.int .u8 W),(7,.bool true),(8,.sl (aH e) e.length true),(9,.sl (bZ (qs.map Sq.c)) qs.length false),(10,.ref 0 0 0 1),(11,.bool false),(20,.sl zcc4_4 7 true),(21,.int .i64 7),(22,.int .i64 (((k+1):Nat):Int))],[(0,⟨[.str a],0,false,0,1,true⟩)],.dead,[]⟩:=pN 5 [] 5 9 (.c (aB i) (.c (aC m) (.k 3 (aB h) (.c (uu k) (.k 1 (uu k) (.c (fV b) (.c (aC o) .nil))))))) (.v 51 (.eq (Au j)) (.c (A 6 a) (.v 25 (.ppt n) .nil))) f
theorem ame {nt:Nat} (f:75≤nt) (e:List Nd) (qs:List Sq) (W:Int) (k:Nat) (d:List (List UInt8)) (c:Bool) (S:Int→List UInt8→Nat) (a:List UInt8) (g:List AV) (i:k<2^62) (b:k<7) (j:d.length+1≤1099511627776) (A:∀ op a,CO 14 [.sl (aH e) e.length true,.sl (bZ (qs.map Sq.c)) qs.length false,.int .i64 op,.str a] (.ret (.int .i64 ((S op a:Nat):Int)))) (m:(List.drop ((Int.toNat (k:Int))*1) zcc4_4)= [AV.str a]++g) (n:(decide ((k:Int)<((7:Nat):Int)))=true) (h:((IntKind.wrap .u8 (BitVec.toNat (BitVec.ofInt (IntKind.bits .u8) (Int.fdiv W (2^(min (Int.toNat (k:Int)) (IntKind.bits .u8)))) &&& BitVec.ofInt (IntKind.bits .u8) ((1:Nat):Int))))==((0:Nat):Int))=false) (l:c=false):ah prog ap [] nt (ae 0 (af f5)) (rjN e qs W k d c) (.normal) ⟨[(2,.int .u8 W),(7,.bool true),(8,.sl (aH e) e.length true),(9,.sl (bZ (qs.map Sq.c)) qs.length false),(10,.ref 0 0 0 1),(11,.bool false),(20,.sl zcc4_4 7 true),(21,.int .i64 7),(22,.int .i64 (((k+1):Nat):Int))],[(0,⟨[.str a],0,false,0,1,true⟩)],.dead,[]⟩:=pN 5 [] 5 1 (.k 1 (aB l) (.k 3 (aB h) (.c (uu k) (.k 1 (uu k) (.c (fV b) (.c (aC n) .nil)))))) (.v 51 (.eq (Au i)) (.v 25 (.ppt m) .nil)) f
theorem amf {nt:Nat} (b:75≤nt) (e:List Nd) (qs:List Sq) (W:Int) (k:Nat) (d:List (List UInt8)) (a:Bool) (c:(decide ((k:Int)<((7:Nat):Int)))=false):ah prog ap [] nt (ae 0 (af f5)) (rjN e qs W k d a) (.exit 0) ⟨[(2,.int .u8 W),(7,.bool true),(8,.sl (aH e) e.length true),(9,.sl (bZ (qs.map Sq.c)) qs.length false),(10,.nilS),(11,.bool a)],[],.dead,[]⟩:=pN 5 [] 1 0 (.c (aB c) .nil) (.nil) b
theorem al7 {nt:Nat} (g:75≤nt) (e:List Nd) (qs:List Sq) (W:Int) (k:Nat) (c:List (List UInt8)) (d:Bool) (S:Int→List UInt8→Nat) (a:List UInt8) (h:List AV) (i:k<2^62) (b:k<7) (j:c.length+1≤1099511627776) (A:∀ op a,CO 14 [.sl (aH e) e.length true,.sl (bZ (qs.map Sq.c)) qs.length false,.int .i64 op,.str a] (.ret (.int .i64 ((S op a:Nat):Int)))) (m:(List.drop ((Int.toNat (k:Int))*1) zcc4_4)= [AV.str a]++h) (l:(decide ((k:Int)<((7:Nat):Int)))=true) (f:((IntKind.wrap .u8 (BitVec.toNat (BitVec.ofInt (IntKind.bits .u8) (Int.fdiv W (2^(min (Int.toNat (k:Int)) (IntKind.bits .u8)))) &&& BitVec.ofInt (IntKind.bits .u8) ((1:Nat):Int))))==((0:Nat):Int))=true):ah prog ap [] nt (ae 0 (af f5)) (rjC e qs W k c d) (.normal) (rjC e qs W (k+1) c d):=pN 5 [] 2 3 (.c (aC f) (.c (uu k) (.k 1 (uu k) (.c (fV b) (.c (aC l) .nil))))) (.v 51 (.eq (Au i)) (.v 25 (.ppt m) .nil)) g
theorem al8 {nt:Nat} (g:75≤nt) (e:List Nd) (qs:List Sq) (W:Int) (k:Nat) (b:List (List UInt8)) (f:Bool) (S:Int→List UInt8→Nat) (a:List UInt8) (h:List AV) (l:k<2^62) (c:k<7) (d:b.length+1≤1099511627776) (A:∀ op a,CO 14 [.sl (aH e) e.length true,.sl (bZ (qs.map Sq.c)) qs.length false,.int .i64 op,.str a] (.ret (.int .i64 ((S op a:Nat):Int)))) (n:(List.drop ((Int.toNat (k:Int))*1) zcc4_4)= [AV.str a]++h) (o:(decide ((k:Int)<((7:Nat):Int)))=true) (i:((IntKind.wrap .u8 (BitVec.toNat (BitVec.ofInt (IntKind.bits .u8) (Int.fdiv W (2^(min (Int.toNat (k:Int)) (IntKind.bits .u8)))) &&& BitVec.ofInt (IntKind.bits .u8) ((1:Nat):Int))))==((0:Nat):Int))=false) (m:f=true) (j:(decide ((((S 6 a):Nat):Int)≤((1:Nat):Int)))=true):ah prog ap [] nt (ae 0 (af f5)) (rjC e qs W k b f) (.normal) ⟨[(2,.int .u8 W),(7,.bool true),(8,.sl (aH e) e.length true),(9,.sl (bZ (qs.map Sq.c)) qs.length false),(10,.ref 0 0 0 (b.length+1)),(11,.bool (decide ((((S 8 a):Nat):Int)≤((1:Nat):Int)))),(20,.sl zcc4_4 7 true),(21,.int .i64 7),(22,.int .i64 (((k+1):Nat):Int))],[(0,⟨((List.take (b.length*1) (rX b))++ [.str a]),0,false,0,1,true⟩)],.dead,[]⟩:=pN 5 [] 4 13 (.c (aC j) (.c (aC m) (.k 1 (Nat.ble_eq_true_of_le d) (.c (Nat.ble_eq_true_of_le (Jk b)) (.k 1 (aB i) (.c (uu k) (.k 1 (uu k) (.c (fV c) (.c (aC o) .nil))))))))) (.v 51 (.eq (Au l)) (.c (A 8 a) (.c (A 6 a) (.v 25 (.ppt n) .nil)))) g
theorem al9 {nt:Nat} (g:75≤nt) (e:List Nd) (qs:List Sq) (W:Int) (k:Nat) (b:List (List UInt8)) (f:Bool) (S:Int→List UInt8→Nat) (a:List UInt8) (h:List AV) (l:k<2^62) (c:k<7) (d:b.length+1≤1099511627776) (A:∀ op a,CO 14 [.sl (aH e) e.length true,.sl (bZ (qs.map Sq.c)) qs.length false,.int .i64 op,.str a] (.ret (.int .i64 ((S op a:Nat):Int)))) (n:(List.drop ((Int.toNat (k:Int))*1) zcc4_4)= [AV.str a]++h) (o:(decide ((k:Int)<((7:Nat):Int)))=true) (i:((IntKind.wrap .u8 (BitVec.toNat (BitVec.ofInt (IntKind.bits .u8) (Int.fdiv W (2^(min (Int.toNat (k:Int)) (IntKind.bits .u8)))) &&& BitVec.ofInt (IntKind.bits .u8) ((1:Nat):Int))))==((0:Nat):Int))=false) (m:f=true) (j:(decide ((((S 6 a):Nat):Int)≤((1:Nat):Int)))=false):ah prog ap [] nt (ae 0 (af f5)) (rjC e qs W k b f) (.normal) ⟨[(2,.int .u8 W),(7,.bool true),(8,.sl (aH e) e.length true),(9,.sl (bZ (qs.map Sq.c)) qs.length false),(10,.ref 0 0 0 (b.length+1)),(11,.bool false),(20,.sl zcc4_4 7 true),(21,.int .i64 7),(22,.int .i64 (((k+1):Nat):Int))],[(0,⟨((List.take (b.length*1) (rX b))++ [.str a]),0,false,0,1,true⟩)],.dead,[]⟩:=pN 5 [] 4 5 (.c (aB j) (.c (aC m) (.k 1 (Nat.ble_eq_true_of_le d) (.c (Nat.ble_eq_true_of_le (Jk b)) (.k 1 (aB i) (.c (uu k) (.k 1 (uu k) (.c (fV c) (.c (aC o) .nil))))))))) (.v 51 (.eq (Au l)) (.c (A 6 a) (.v 25 (.ppt n) .nil))) g
theorem al_ {nt:Nat} (g:75≤nt) (e:List Nd) (qs:List Sq) (W:Int) (k:Nat) (a:List (List UInt8)) (f:Bool) (S:Int→List UInt8→Nat) (b:List UInt8) (h:List AV) (j:k<2^62) (c:k<7) (d:a.length+1≤1099511627776) (A:∀ op b,CO 14 [.sl (aH e) e.length true,.sl (bZ (qs.map Sq.c)) qs.length false,.int .i64 op,.str b] (.ret (.int .i64 ((S op b:Nat):Int)))) (m:(List.drop ((Int.toNat (k:Int))*1) zcc4_4)= [AV.str b]++h) (n:(decide ((k:Int)<((7:Nat):Int)))=true) (i:((IntKind.wrap .u8 (BitVec.toNat (BitVec.ofInt (IntKind.bits .u8) (Int.fdiv W (2^(min (Int.toNat (k:Int)) (IntKind.bits .u8)))) &&& BitVec.ofInt (IntKind.bits .u8) ((1:Nat):Int))))==((0:Nat):Int))=false) (l:f=false):ah prog ap [] nt (ae 0 (af f5)) (rjC e qs W k a f) (.normal) ⟨[(2,.int .u8 W),(7,.bool true),(8,.sl (aH e) e.length true),(9,.sl (bZ (qs.map Sq.c)) qs.length false),(10,.ref 0 0 0 (a.length+1)),(11,.bool false),(20,.sl zcc4_4 7 true),(21,.int .i64 7),(22,.int .i64 (((k+1):Nat):Int))],[(0,⟨((List.take (a.length*1) (rX a))++ [.str b]),0,false,0,1,true⟩)],.dead,[]⟩:=pN 5 [] 4 1 (.k 1 (aB l) (.k 1 (Nat.ble_eq_true_of_le d) (.c (Nat.ble_eq_true_of_le (Jk a)) (.k 1 (aB i) (.c (uu k) (.k 1 (uu k) (.c (fV c) (.c (aC n) .nil)))))))) (.v 51 (.eq (Au j)) (.v 25 (.ppt m) .nil)) g
theorem ama {nt:Nat} (c:75≤nt) (e:List Nd) (qs:List Sq) (W:Int) (k:Nat) (a:List (List UInt8)) (b:Bool) (d:(decide ((k:Int)<((7:Nat):Int)))=false):ah prog ap [] nt (ae 0 (af f5)) (rjC e qs W k a b) (.exit 0) ⟨[(2,.int .u8 W),(7,.bool true),(8,.sl (aH e) e.length true),(9,.sl (bZ (qs.map Sq.c)) qs.length false),(10,.ref 0 0 0 a.length),(11,.bool b)],[(0,⟨(rX a),0,false,0,1,true⟩)],.dead,[]⟩:=pN 5 [] 1 0 (.c (aB d) .nil) (.nil) c
theorem VE (a:List Int) (b:List (Int × Int × Int)) (d f:Bool) (W:Int) (e:List Nd) (qs:List Sq) (n:List (List UInt8)) (c:Bool) (hs:CO 10 [] (.ret (.bool true))) (m:CO 11 [.sl (iL a) a.length d] (.ret (.own (aH e) e.length 5))) (h:CO 12 [.sl (tL b) b.length f] (.ret (.nilS))) (i:CO 13 [] (.ret (.own zcc4_4 7 1))) (j:aI prog ap [] 75 (.block 0 (.loop (ae 0 (af f5)))) (rsN a b d f W e []) (.normal) ⟨[(2,.int .u8 W),(7,.bool true),(8,.sl (aH e) e.length true),(9,.sl (bZ (qs.map Sq.c)) qs.length false),(10,.nilS),(11,.bool c)],[],.dead,[]⟩) (k:CO 17 [.sl (aH e) e.length true,.sl (bZ (qs.map Sq.c)) qs.length false,.nilS] (.ret (.bool c))) (g:CO 18 [.sl (aH e) e.length true,.sl (bZ (qs.map Sq.c)) qs.length false,.nilS] (.ret (.bool c))) (l:CO 17 [.sl (aH e) e.length true,.sl (bZ (qs.map Sq.c)) qs.length false,.nilS] (.ret (.bool true))):CO 5 [.sl (iL a) a.length d,.sl (tL b) b.length f,.int .u8 W] (.ret (.bool true)):=pK [0] 3 7 (.c (aC (JG c)) (.c (aC (JG c)) (.n 1 .nil))) (.c l (.c g (.c k (.l j (.c i (.c h (.c m (.c hs .nil))))))))
theorem VD (b:List Int) (c:List (Int × Int × Int)) (f g:Bool) (W:Int) (e:List Nd) (qs:List Sq) (a:List (List UInt8)) (d:Bool) (hs:CO 10 [] (.ret (.bool true))) (n:CO 11 [.sl (iL b) b.length f] (.ret (.own (aH e) e.length 5))) (i:CO 12 [.sl (tL c) c.length g] (.ret (.nilS))) (j:CO 13 [] (.ret (.own zcc4_4 7 1))) (k:aI prog ap [] 75 (.block 0 (.loop (ae 0 (af f5)))) (rsN b c f g W e []) (.normal) ⟨[(2,.int .u8 W),(7,.bool true),(8,.sl (aH e) e.length true),(9,.sl (bZ (qs.map Sq.c)) qs.length false),(10,.ref 0 0 0 a.length),(11,.bool d)],[(0,⟨(rX a),0,false,0,1,true⟩)],.dead,[]⟩) (l:CO 17 [.sl (aH e) e.length true,.sl (bZ (qs.map Sq.c)) qs.length false,.sl (List.take (a.length*1) (rX a)) a.length true] (.ret (.bool d))) (h:CO 18 [.sl (aH e) e.length true,.sl (bZ (qs.map Sq.c)) qs.length false,.sl (List.take (a.length*1) (rX a)) a.length true] (.ret (.bool d))) (m:CO 17 [.sl (aH e) e.length true,.sl (bZ (qs.map Sq.c)) qs.length false,.nilS] (.ret (.bool true))):CO 5 [.sl (iL b) b.length f,.sl (tL c) c.length g,.int .u8 W] (.ret (.bool true)):=pK [0] 3 7 (.c (aC (JG d)) (.c (aC (JG d)) (.n 1 .nil))) (.c m (.c h (.c l (.l k (.c j (.c i (.c n (.c hs .nil))))))))
theorem VC (a:List Int) (b:List (Int × Int × Int)) (d f:Bool) (W:Int) (e:List Nd) (qs:List Sq) (n:List (List UInt8)) (c:Bool) (hs:CO 10 [] (.ret (.bool true))) (m:CO 11 [.sl (iL a) a.length d] (.ret (.own (aH e) e.length 5))) (h:CO 12 [.sl (tL b) b.length f] (.ret (.own (bZ (qs.map Sq.c)) qs.length 4))) (i:CO 13 [] (.ret (.own zcc4_4 7 1))) (j:aI prog ap [] 75 (.block 0 (.loop (ae 0 (af f5)))) (rsC a b d f W e qs) (.normal) ⟨[(2,.int .u8 W),(7,.bool true),(8,.sl (aH e) e.length true),(9,.sl (bZ (qs.map Sq.c)) qs.length false),(10,.nilS),(11,.bool c)],[],.dead,[]⟩) (k:CO 17 [.sl (aH e) e.length true,.sl (bZ (qs.map Sq.c)) qs.length false,.nilS] (.ret (.bool c))) (g:CO 18 [.sl (aH e) e.length true,.sl (bZ (qs.map Sq.c)) qs.length false,.nilS] (.ret (.bool c))) (l:CO 17 [.sl (aH e) e.length true,.sl (bZ (qs.map Sq.c)) qs.length false,.nilS] (.ret (.bool true))):CO 5 [.sl (iL a) a.length d,.sl (tL b) b.length f,.int .u8 W] (.ret (.bool true)):=pK [0] 3 7 (.c (aC (JG c)) (.c (aC (JG c)) (.n 1 .nil))) (.c l (.c g (.c k (.l j (.c i (.c h (.c m (.c hs .nil))))))))
theorem VB (b:List Int) (c:List (Int × Int × Int)) (f g:Bool) (W:Int) (e:List Nd) (qs:List Sq) (a:List (List UInt8)) (d:Bool) (hs:CO 10 [] (.ret (.bool true))) (n:CO 11 [.sl (iL b) b.length f] (.ret (.own (aH e) e.length 5))) (i:CO 12 [.sl (tL c) c.length g] (.ret (.own (bZ (qs.map Sq.c)) qs.length 4))) (j:CO 13 [] (.ret (.own zcc4_4 7 1))) (k:aI prog ap [] 75 (.block 0 (.loop (ae 0 (af f5)))) (rsC b c f g W e qs) (.normal) ⟨[(2,.int .u8 W),(7,.bool true),(8,.sl (aH e) e.length true),(9,.sl (bZ (qs.map Sq.c)) qs.length false),(10,.ref 0 0 0 a.length),(11,.bool d)],[(0,⟨(rX a),0,false,0,1,true⟩)],.dead,[]⟩) (l:CO 17 [.sl (aH e) e.length true,.sl (bZ (qs.map Sq.c)) qs.length false,.sl (List.take (a.length*1) (rX a)) a.length true] (.ret (.bool d))) (h:CO 18 [.sl (aH e) e.length true,.sl (bZ (qs.map Sq.c)) qs.length false,.sl (List.take (a.length*1) (rX a)) a.length true] (.ret (.bool d))) (m:CO 17 [.sl (aH e) e.length true,.sl (bZ (qs.map Sq.c)) qs.length false,.nilS] (.ret (.bool true))):CO 5 [.sl (iL b) b.length f,.sl (tL c) c.length g,.int .u8 W] (.ret (.bool true)):=pK [0] 3 7 (.c (aC (JG d)) (.c (aC (JG d)) (.n 1 .nil))) (.c m (.c h (.c l (.l k (.c j (.c i (.c n (.c hs .nil))))))))
def nmL:List (List UInt8):= [zcc4_1,[97],[98],[116,97,120],[119,97,103,101],[120,95,49],zcc4_0]
def rpN (al:List (List UInt8)):AV:=match al with| []=> .nilS|_::_=> .ref 0 0 0 al.length
def rhN (al:List (List UInt8)):Hp:=match al with| []=> []|a::r=> [(0,⟨rX (a::r),0,false,0,1,true⟩)]
def Rj (e:List Nd) (qs:List Sq) (W:Int) (p:Nat × List (List UInt8) × Bool):St:=⟨[(2,.int .u8 W),(7,.bool true),(8,.sl (aH e) e.length true),(9,.sl (bZ (qs.map Sq.c)) qs.length false),(10,rpN p.2.1),(11,.bool p.2.2),(20,.sl zcc4_4 7 true),(21,.int .i64 7),(22,.int .i64 (p.1:Int))],rhN p.2.1,.dead,[]⟩
def aax (e:List Nd) (qs:List Sq) (W:Int) (p:List (List UInt8) × Bool):St:=⟨[(2,.int .u8 W),(7,.bool true),(8,.sl (aH e) e.length true),(9,.sl (bZ (qs.map Sq.c)) qs.length false),(10,rpN p.1),(11,.bool p.2)],rhN p.1,.dead,[]⟩
theorem YC {k:Nat} (h:k<7):List.drop ((Int.toNat (k:Int))*1) zcc4_4= [AV.str (nmL.getD k [])]++rX (nmL.drop (k+1)):=by
 match k,h with
 |0,_=>rfl
 |1,_=>rfl
 |2,_=>rfl
 |3,_=>rfl
 |4,_=>rfl
 |5,_=>rfl
 |6,_=>rfl
theorem Zo (a:List (List UInt8)) (b:List UInt8):List.take (a.length*1) (rX a)++ [AV.str b]=rX (a++ [b]):=by
 unfold rX
 rw [List.take_of_length_le (by rw [List.length_map];omega),List.map_append]
 rfl
theorem aoe (f:List UInt8→Bool) (b:List (List UInt8)) (a:List UInt8):(b++ [a]).all f=(b.all f && f a):=by rw [List.all_append];simp
theorem VH (e:List Nd) (qs:List Sq) (W:Int) (S:Int→List UInt8→Nat) (A:∀ op nm,CO 14 [.sl (aH e) e.length true,.sl (bZ (qs.map Sq.c)) qs.length false,.int .i64 op,.str nm] (.ret (.int .i64 ((S op nm:Nat):Int)))) (k:Nat) (c:List (List UInt8)) (d:k<7) (j:c.length≤k):
  ∃ al',al'.length≤k+1∧∀ nt,75≤nt→ah prog ap [] nt (ae 0 (af f5)) (Rj e qs W (k,c,c.all (fun x=>decide (((S 6 x:Nat):Int)≤1) && decide (((S 8 x:Nat):Int)≤1)))) .normal (Rj e qs W (k+1,al',al'.all (fun x=>decide (((S 6 x:Nat):Int)≤1) && decide (((S 8 x:Nat):Int)≤1)))):=by
 have g:=YC d
 generalize nmL.getD k []=nm at g
 have h:(decide ((k:Int)<((7:Nat):Int)))=true:=fV d
 rcases tf ((IntKind.wrap .u8 (BitVec.toNat (BitVec.ofInt (IntKind.bits .u8) (Int.fdiv W (2^(min (Int.toNat (k:Int)) (IntKind.bits .u8)))) &&& BitVec.ofInt (IntKind.bits .u8) ((1:Nat):Int))))==((0:Nat):Int)) with hb|hb
 ·refine ⟨c,by omega,fun nt f=> ?_⟩
  cases c with
  |nil=>exact amb f e qs W k [] _ S nm _ (by omega) d (by omega) A g h hb
  |cons a r=>exact al7 f e qs W k (a::r) _ S nm _ (by omega) d (by omega) A g h hb
 ·refine ⟨c++ [nm],by rw [List.length_append,List.length_singleton];omega,fun nt f=> ?_⟩
  rw [aoe]
  generalize c.all (fun x=>decide (((S 6 x:Nat):Int)≤1) && decide (((S 8 x:Nat):Int)≤1))=rz
  have i:=Zo c nm
  rcases tf rz with hr|hr
  ·rcases tf (decide ((((S 6 nm):Nat):Int)≤((1:Nat):Int))) with h6|h6
   ·rw [hr,Bool.true_and,show decide (((S 6 nm:Nat):Int)≤1)=true from h6,Bool.true_and]
    cases c with
    |nil=>exact amc f e qs W k [] true S nm _ (by omega) d (by omega) A g h hb rfl h6
    |cons a r=>
     have b:=al8 f e qs W k (a::r) true S nm _ (by omega) d (by omega) A g h hb rfl h6
     rw [i] at b
     rw [show (a::r).length+1=((a::r)++ [nm]).length by simp] at b
     exact b
   ·rw [hr,Bool.true_and,show decide (((S 6 nm:Nat):Int)≤1)=false from h6,Bool.false_and]
    cases c with
    |nil=>exact amd f e qs W k [] true S nm _ (by omega) d (by omega) A g h hb rfl h6
    |cons a r=>
     have b:=al9 f e qs W k (a::r) true S nm _ (by omega) d (by omega) A g h hb rfl h6
     rw [i] at b
     rw [show (a::r).length+1=((a::r)++ [nm]).length by simp] at b
     exact b
  ·rw [hr,Bool.false_and]
   cases c with
   |nil=>exact ame f e qs W k [] false S nm _ (by omega) d (by omega) A g h hb rfl
   |cons a r=>
    have b:=al_ f e qs W k (a::r) false S nm _ (by omega) d (by omega) A g h hb rfl
    rw [i] at b
    rw [show (a::r).length+1=((a::r)++ [nm]).length by simp] at b
    exact b
theorem Y4 (e:List Nd) (qs:List Sq) (W:Int) (S:Int→List UInt8→Nat) (A:∀ op nm,CO 14 [.sl (aH e) e.length true,.sl (bZ (qs.map Sq.c)) qs.length false,.int .i64 op,.str nm] (.ret (.int .i64 ((S op nm:Nat):Int)))):∀ (d k:Nat) (c:List (List UInt8)),k+d=7→c.length≤k→
  ∃ b,b.length≤7∧∀ nt,75≤nt→aF prog ap [] nt (ae 0 (af f5)) (fun _=> .exit 0) (Rj e qs W) (aax e qs W) (k,c,c.all (fun x=>decide (((S 6 x:Nat):Int)≤1) && decide (((S 8 x:Nat):Int)≤1))) (b,b.all (fun x=>decide (((S 6 x:Nat):Int)≤1) && decide (((S 8 x:Nat):Int)≤1))):=by
 intro d
 induction d with
 |zero=>
  intro k c j h
  refine ⟨c,by omega,fun nt f=> .done ?_⟩
  have i:(decide ((k:Int)<((7:Nat):Int)))=false:=CV (by omega)
  cases c with
  |nil=>exact amf f e qs W k [] _ i
  |cons a r=>exact ama f e qs W k (a::r) _ i
 |succ d ih=>
  intro k c j h
  obtain ⟨g,n,m⟩:=VH e qs W S A k c (by omega) h
  obtain ⟨b,o,l⟩:=ih (k+1) g (by omega) n
  exact ⟨b,o,fun nt f=> .next (m nt f) (l nt f)⟩
theorem fzE (e:List Nd):aT (.sl ((List.drop (0*5) (aH e)).take (e.length*5)) e.length true) (.sl (aH e) e.length true):=by
 rw [Nat.zero_mul,List.drop_zero,V_];exact aT.refl _
theorem fzS (qs:List Sq):aT (.sl ((List.drop (0*4) (bZ (qs.map Sq.c))).take (qs.length*4)) qs.length true) (.sl (bZ (qs.map Sq.c)) qs.length false):=by
 rw [Nat.zero_mul,List.drop_zero,aaC];exact aT.sl _ _ _
theorem PN (a:List Int) (f:List (Int × Int × Int)) (b c:Bool) (e:List Nd) (W:Int) (s':St) (h:aI prog ap [] 75 (.block 0 (.loop (ae 0 (af f5)))) (Rj e [] W (0,[],true)) .normal s'):aI prog ap [] 75 (.block 0 (.loop (ae 0 (af f5)))) (rsN a f b c W e []) .normal s':=fun nt d=>
 ah.ahead 1 ⟨zcc4_4,0,false,0,1,true⟩ (en':= [(2,.int .u8 W),(7,.bool true),(8,.ref 0 0 0 e.length),(9,.sl (bZ (([]:List Sq).map Sq.c)) ([]:List Sq).length false),(10,.nilS),(11,.bool true),(20,.sl zcc4_4 7 true),(21,.int .i64 7),(22,.int .i64 0)]) (hp':= [(0,⟨aH e,0,false,0,5,true⟩)])
  (ah.ahead 0 ⟨aH e,0,false,0,5,true⟩ (h nt d) (Nat.zero_le _) rfl ⟨.same rfl,.same rfl,.fit .ref (fzE e),.same rfl,.same rfl,.same rfl,.same rfl,.same rfl,.same rfl,trivial⟩ rfl)
  (Nat.zero_le _) rfl ⟨.same rfl,.same rfl,.same rfl,.fit (.same rfl) (aT.nilS false rfl),.same rfl,.same rfl,.ref,.same rfl,.same rfl,trivial⟩ ⟨rfl,E5.same rfl,by decide,rfl⟩
theorem PM (a:List Int) (f:List (Int × Int × Int)) (b c:Bool) (e:List Nd) (qs:List Sq) (W:Int) (s':St) (h:aI prog ap [] 75 (.block 0 (.loop (ae 0 (af f5)))) (Rj e qs W (0,[],true)) .normal s'):aI prog ap [] 75 (.block 0 (.loop (ae 0 (af f5)))) (rsC a f b c W e qs) .normal s':=fun nt d=>
 ah.ahead 2 ⟨zcc4_4,0,false,0,1,true⟩ (en':= [(2,.int .u8 W),(7,.bool true),(8,.ref 0 0 0 e.length),(9,.ref 1 0 0 qs.length),(10,.nilS),(11,.bool true),(20,.sl zcc4_4 7 true),(21,.int .i64 7),(22,.int .i64 0)]) (hp':= [(0,⟨aH e,0,false,0,5,true⟩),(1,⟨bZ (qs.map Sq.c),0,false,0,4,true⟩)])
  (ah.ahead 1 ⟨bZ (qs.map Sq.c),0,false,0,4,true⟩ (en':= [(2,.int .u8 W),(7,.bool true),(8,.ref 0 0 0 e.length),(9,.sl (bZ (qs.map Sq.c)) qs.length false),(10,.nilS),(11,.bool true),(20,.sl zcc4_4 7 true),(21,.int .i64 7),(22,.int .i64 0)]) (hp':= [(0,⟨aH e,0,false,0,5,true⟩)])
   (ah.ahead 0 ⟨aH e,0,false,0,5,true⟩ (h nt d) (Nat.zero_le _) rfl ⟨.same rfl,.same rfl,.fit .ref (fzE e),.same rfl,.same rfl,.same rfl,.same rfl,.same rfl,.same rfl,trivial⟩ rfl)
   (Nat.zero_le _) rfl ⟨.same rfl,.same rfl,.same rfl,.fit .ref (fzS qs),.same rfl,.same rfl,.same rfl,.same rfl,.same rfl,trivial⟩ ⟨rfl,E5.same rfl,by decide,rfl⟩)
  (Nat.zero_le _) rfl ⟨.same rfl,.same rfl,.same rfl,.same rfl,.same rfl,.same rfl,.ref,.same rfl,.same rfl,trivial⟩ ⟨rfl,E5.same rfl,by decide,rfl,E5.same rfl,by decide,rfl⟩
theorem ant (a:List (List UInt8)):List.take (a.length*1) (rX a)=List.map AV.str a:=List.take_of_length_le (by unfold rX;rw [List.length_map];omega)
theorem al6 (d:List Int) (g:List (Int × Int × Int)) (h i:Bool) (W:Int):CO 5 [.sl (iL d) d.length h,.sl (tL g) g.length i,.int .u8 W] (.ret (.bool true)):=by
 obtain ⟨e,_,_,D,n,c,p⟩:=GN d h
 obtain ⟨qs,m,E,u⟩:=Hl g i
 have A:∀ y o,CO 14 [.sl (aH e) e.length true,.sl (bZ (qs.map Sq.c)) qs.length false,.int .i64 y,.str o] (.ret (.int .i64 ((zD e qs y o:Nat):Int))):=fun y o=>bU e true qs false jo y o c (by omega) (by omega) (kK CE m)
 obtain ⟨f,B,C⟩:=Y4 e qs W (zD e qs) A 7 0 [] rfl (Nat.zero_le _)
 have z:rO jo e qs f=f.all (fun x=>decide (((zD e qs 6 x:Nat):Int)≤1) && decide (((zD e qs 8 x:Nat):Int)≤1)):=by
  unfold rO zD
  rw [n,show ((0:Int)==((0:Nat):Int))=true from rfl,Bool.true_and]
  congr 1
  funext x
  exact PO _ _ x
 have v:=iJ e true qs false jo f true c (by omega) (by omega) (kK CE m) (by omega)
 have t:=wz e true qs false jo f true c (by omega) (by omega) (kK TR m) (by omega)
 have l:=iJ e true qs false jo f false c (by omega) (by omega) (kK CE m) (by omega)
 have j:=wz e true qs false jo f false c (by omega) (by omega) (kK TR m) (by omega)
 have k:=iJ e true qs false jo [] false c (by omega) (by omega) (kK CE m) (by decide)
 have k:CO 17 [.sl (aH e) e.length true,.sl (bZ (qs.map Sq.c)) qs.length false,.nilS] (.ret (.bool true)):=by
  rw [show rO jo e qs []=true by unfold rO;rw [n];rfl] at k
  exact au.args (.cons (aT.refl _) (.cons (aT.refl _) (.cons (aT.nilS false rfl) .nil))) k
 rw [z] at v t l j
 have w:=aF.blk (s:=Rj e qs W (0,[],true)) (s':=aax e qs W (f,f.all (fun x=>decide (((zD e qs 6 x:Nat):Int)≤1) && decide (((zD e qs 8 x:Nat):Int)≤1)))) (id:=0) C (by simp) rfl (aK.refl _) (aK.refl _)
 generalize f.all (fun x=>decide (((zD e qs 6 x:Nat):Int)≤1) && decide (((zD e qs 8 x:Nat):Int)≤1))=rz at*
 rw [← ant] at v t
 cases qs with
 |nil=>cases f with
  |nil=>exact VE d g h i W e [] [] rz mP p u QQ (PN d g h i e W _ w) (au.args (.cons (aT.refl _) (.cons (aT.refl _) (.cons (aT.nilS false rfl) .nil))) l) (au.args (.cons (aT.refl _) (.cons (aT.refl _) (.cons (aT.nilS false rfl) .nil))) j) k
  |cons a r=>exact VD d g h i W e [] (a::r) rz mP p u QQ (PN d g h i e W _ w) v t k
 |cons b q=>cases f with
  |nil=>exact VC d g h i W e (b::q) [] rz mP p u QQ (PM d g h i e (b::q) W _ w) (au.args (.cons (aT.refl _) (.cons (aT.refl _) (.cons (aT.nilS false rfl) .nil))) l) (au.args (.cons (aT.refl _) (.cons (aT.refl _) (.cons (aT.nilS false rfl) .nil))) j) k
  |cons a r=>exact VB d g h i W e (b::q) (a::r) rz mP p u QQ (PM d g h i e (b::q) W _ w) v t k
end Go.Proofs.Tryz
set_option maxRecDepth 100000
open Go AM Go.ChangeShapes Go.WideShapes Go.ChangeAt Go.RowKit
namespace Go.Proofs.Tryz
noncomputable def DI (t:TypeId) (d:DataW Unit):List Lit:=((lM prog 6 t d 0).getD []).map (·.2)
open Go.Proofs.YtcjindbblhcopaaGreatDoor
def UJ:List (String × DataW Unit):= [("unicode/utf8.acceptRanges",Rows.laid_unicode_utf8_acceptRanges),("tithing/expr.table",Rows.laid_tithing_expr_table),("unicode/utf8.first",Rows.laid_unicode_utf8_first)]
theorem QR:UJ.filter (fun x=>x.2.handleName?.isSome)= []:=by kernel_rfl
theorem ajO {W:World} (h:laidMetH prog UJ W):S_ ap W:=by
 have c (i:Nat) (n:String) (d:DataW Unit) (hm:UJ[i]? =some (n,d)) (g:Nat) (t:TypeId) (hg:prog.globalNamed n=some g) (ht:(prog.globals[g]?).map (·.type)=some t)
   (hl:lM prog 6 t d 0=some ((DI t d).zipIdx.map fun (l,i)=>(i,l))):=NJ h QR (List.mem_of_getElem? hm) hg ht hl
 have e:=c 1 _ _ rfl 0 105 (by kernel_rfl) (by kernel_rfl) (by kernel_rfl)
 have f:=c 0 _ _ rfl 2 219 (by kernel_rfl) (by kernel_rfl) (by kernel_rfl)
 have key (k:Nat) (t:TypeId) (d:DataW Unit) (hx:(ap.gl[k]?).join=some ((DI t d).map KD)) (ho:(DI t d).all DF=true) (hc:∀ (j:Nat) (l:Lit),(DI t d)[j]? =some l→W.cell? ⟨k,j,none⟩=some (pG l)):
   ∀ b,(ap.gl[k]?).join=some b→∃ ls:List Lit,b=ls.map KD∧ls.all DF=true∧∀ (j:Nat) (l:Lit),ls[j]? =some l→W.cell? ⟨k,j,none⟩=some (pG l):=by
  intro b a
  rw [hx] at a
  cases a
  exact ⟨_,rfl,ho,hc⟩
 intro k
 match k with
 |0=>exact key 0 _ _ (by kernel_rfl) (by kernel_rfl) e
 |1=>intro b a;exact absurd (show (none:Option (List AV))=some b from a) (by simp)
 |2=>exact key 2 _ _ (by kernel_rfl) (by kernel_rfl) f
 |3=>intro b a;exact absurd (show (none:Option (List AV))=some b from a) (by simp)
 |k+4=>
  intro b a
  have:ap.gl.length=4:=by kernel_rfl
  rw [List.getElem?_eq_none (by omega)] at a
  cases a
theorem own:ownKnob prog.godebug=none:=by kernel_rfl
theorem an1:laidOutB prog=true:=by kernel_rfl
noncomputable def adm (t:TypeId) (d:DataW Unit):Obj→Obj
 | .cells _ t' fr=> .cells ((DI t d).map pG).toArray t' fr
 |o=>o
noncomputable def ad3 (os:Os):World:=
 let w:=World.holding prog os ⟨#[],#[],[]⟩
 {w with heap:=((w.heap.modify 0 (adm 105 Rows.laid_tithing_expr_table)).modify 1 (adm 216 Rows.laid_unicode_utf8_first)).modify 2 (adm 219 Rows.laid_unicode_utf8_acceptRanges)}
end Go.Proofs.Tryz
