/- Contracts of functions that the law reaches, each by its own hypotheses; joined by a program of mine. -/
import Derived.Test.YtpjkeigmiooooaaGreatDoorC1
import Derived.Test.YtpjkeigmiooooaaGreatDoorM5
set_option linter.unusedSimpArgs false
set_option linter.unusedVariables false
set_option maxRecDepth 100000
open Go AM
namespace Go.Proofs.Tryz
theorem Ns {nt:Nat} (hn:26≤nt) (x y w lo hi:Nat) (c:Int) (na nb:Bool) (h0:lit true (decide (c≤((0:Nat):Int)))=true) (h1:lit true (decide ((lo:Int)<(hi:Int)))=true) (c0:CO 127 [.sl (aj (au y)) (au y).length nb,.int .i64 (IntKind.wrap .i64 (Int.tdiv (IntKind.wrap .i64 ((IntKind.wrap .i64 ((lo:Int)+(hi:Int)))+((1:Nat):Int))) ((2:Nat):Int)))] (.ret (.sl (aj (au w)) (au w).length true))) (c1:CO 124 [.sl (aj (au w)) (au w).length true,.sl (aj (au x)) (au x).length na] (.ret (.int .i64 c))):ah prog ap [] nt (ac 0 (ae f125)) ⟨[(0,.sl (aj (au x)) (au x).length na),(1,.sl (aj (au y)) (au y).length nb),(5,.int .i64 (lo:Int)),(6,.int .i64 (hi:Int))],[],.dead,[]⟩ (.normal) ⟨[(0,.sl (aj (au x)) (au x).length na),(1,.sl (aj (au y)) (au y).length nb),(5,.int .i64 (IntKind.wrap .i64 (Int.tdiv (IntKind.wrap .i64 ((IntKind.wrap .i64 ((lo:Int)+(hi:Int)))+((1:Nat):Int))) ((2:Nat):Int)))),(6,.int .i64 (hi:Int))],[],.dead,[]⟩:=pJ 125 [] 2 3 (.c h0 (.k 1 h1 .nil)) (.c c1 (.c c0 .nil)) hn
theorem Nt {nt:Nat} (hn:26≤nt) (x y w lo hi:Nat) (c:Int) (na nb:Bool) (h0:lit false (decide (c≤((0:Nat):Int)))=true) (h1:lit true (decide ((lo:Int)<(hi:Int)))=true) (c0:CO 127 [.sl (aj (au y)) (au y).length nb,.int .i64 (IntKind.wrap .i64 (Int.tdiv (IntKind.wrap .i64 ((IntKind.wrap .i64 ((lo:Int)+(hi:Int)))+((1:Nat):Int))) ((2:Nat):Int)))] (.ret (.sl (aj (au w)) (au w).length true))) (c1:CO 124 [.sl (aj (au w)) (au w).length true,.sl (aj (au x)) (au x).length na] (.ret (.int .i64 c))):ah prog ap [] nt (ac 0 (ae f125)) ⟨[(0,.sl (aj (au x)) (au x).length na),(1,.sl (aj (au y)) (au y).length nb),(5,.int .i64 (lo:Int)),(6,.int .i64 (hi:Int))],[],.dead,[]⟩ (.normal) ⟨[(0,.sl (aj (au x)) (au x).length na),(1,.sl (aj (au y)) (au y).length nb),(5,.int .i64 (lo:Int)),(6,.int .i64 (IntKind.wrap .i64 ((IntKind.wrap .i64 (Int.tdiv (IntKind.wrap .i64 ((IntKind.wrap .i64 ((lo:Int)+(hi:Int)))+((1:Nat):Int))) ((2:Nat):Int))) - ((1:Nat):Int))))],[],.dead,[]⟩:=pJ 125 [] 2 1 (.c h0 (.k 1 h1 .nil)) (.c c1 (.c c0 .nil)) hn
theorem Nu {nt:Nat} (hn:26≤nt) (x y w lo hi:Nat) (c:Int) (na nb:Bool) (h0:lit false (decide ((lo:Int)<(hi:Int)))=true):ah prog ap [] nt (ac 0 (ae f125)) ⟨[(0,.sl (aj (au x)) (au x).length na),(1,.sl (aj (au y)) (au y).length nb),(5,.int .i64 (lo:Int)),(6,.int .i64 (hi:Int))],[],.dead,[]⟩ (.exit 0) ⟨[(5,.int .i64 (lo:Int))],[],.dead,[]⟩:=pJ 125 [] 1 0 (.c h0 .nil) (.nil) hn
theorem JQ (x y q:Nat) (na nb:Bool) (l0:aC prog ap [] 26 (.block 0 (.loop (ac 0 (ae f125)))) ⟨[(0,.sl (aj (au x)) (au x).length na),(1,.sl (aj (au y)) (au y).length nb),(4,.int .i64 0),(5,.int .i64 0),(6,.int .i64 16777215),(7,.dead),(10,.dead),(21,.dead)],[],.dead,[]⟩ (.normal) ⟨[(5,.int .i64 (q:Int))],[],.dead,[]⟩):CO 125 [.sl (aj (au x)) (au x).length na,.sl (aj (au y)) (au y).length nb] (.ret (.int .i64 (q:Int))):=pK [0] 0 0 .nil (.l l0 .nil)
theorem Kl {nt:Nat} (hn:35≤nt) (l o:List Nat) (k:Nat) (nn:Bool) (h0:(chk (.int .i64) (List.headD (List.drop ((Int.toNat (k:Int))*1) (aj l)) .dead))=true) (h1:(decide (((0:Nat):Int)≤(k:Int)))=true) (h2:(decide ((k:Int)<(l.length:Int)))=true) (h3:lit true (decide (((0:Nat):Int)≤(k:Int)))=true):ah prog ap [] nt (ac 0 (ae f64)) ⟨[(0,.sl (aj l) l.length nn),(3,.nilS),(4,.int .i64 (k:Int))],[],.dead,[]⟩ (.normal) ⟨[(0,.sl (aj l) l.length nn),(3,.ref 0 0 0 3),(4,.int .i64 (IntKind.wrap .i64 ((k:Int) - ((1:Nat):Int))))],[(0,⟨[.int .u8 (IntKind.wrap .u8 (Int.fdiv (AV.toInt (List.headD (List.drop ((Int.toNat (k:Int))*1) (aj l)) .dead)) (2^(min 16 64)))),.int .u8 (IntKind.wrap .u8 (Int.fdiv (AV.toInt (List.headD (List.drop ((Int.toNat (k:Int))*1) (aj l)) .dead)) (2^(min 8 64)))),.int .u8 (IntKind.wrap .u8 (AV.toInt (List.headD (List.drop ((Int.toNat (k:Int))*1) (aj l)) .dead)))],0,false,0,1,true⟩)],.dead,[]⟩:=pJ 64 [] 2 1 (.k 3 h0 (.c h1 (.c h2 (.k 1 h0 (.c h1 (.c h2 (.k 1 h0 (.c h1 (.c h2 (.c h3 .nil)))))))))) (.nil) hn
theorem Ht {nt:Nat} (hn:35≤nt) (l o:List Nat) (nn:Bool):ah prog ap [] nt (ac 0 (ae f64)) ⟨[(0,.sl (aj l) l.length nn),(3,.nilS),(4,.int .i64 (-1))],[],.dead,[]⟩ (.exit 0) ⟨[(3,.nilS)],[],.dead,[]⟩:=pJ 64 [] 1 0 (.n 1 .nil) (.nil) hn
theorem Hu (l o:List Nat) (nn:Bool) (l0:aC prog ap [] 35 (.block 0 (.loop (ac 0 (ae f64)))) ⟨[(0,.sl (aj l) l.length nn),(2,.str []),(3,.nilS),(4,.int .i64 (IntKind.wrap .i64 ((l.length:Int) - ((1:Nat):Int)))),(9,.dead)],[],.dead,[]⟩ (.normal) ⟨[(3,.nilS)],[],.dead,[]⟩) (c0:CO 61 [.str []] (.ret (.str (ak (af []))))):CO 64 [.sl (aj l) l.length nn] (.ret (.str (ak (af [])))):=pK [0] 0 0 (.n 2 .nil) (.c c0 (.l l0 .nil))
theorem Kk {nt:Nat} (hn:35≤nt) (l o:List Nat) (k:Nat) (nn:Bool) (h0:(Nat.ble (o.length+3) 1099511627776)=true) (h1:(Nat.ble (o.length*1) (List.length (iB o)))=true) (h2:(chk (.int .i64) (List.headD (List.drop ((Int.toNat (k:Int))*1) (aj l)) .dead))=true) (h3:(decide (((0:Nat):Int)≤(k:Int)))=true) (h4:(decide ((k:Int)<(l.length:Int)))=true) (h5:lit true (decide (((0:Nat):Int)≤(k:Int)))=true):ah prog ap [] nt (ac 0 (ae f64)) ⟨[(0,.sl (aj l) l.length nn),(3,.ref 0 0 0 o.length),(4,.int .i64 (k:Int))],[(0,⟨(iB o),0,false,0,1,true⟩)],.dead,[]⟩ (.normal) ⟨[(0,.sl (aj l) l.length nn),(3,.ref 0 0 0 (o.length+3)),(4,.int .i64 (IntKind.wrap .i64 ((k:Int) - ((1:Nat):Int))))],[(0,⟨((List.take (o.length*1) (iB o))++ [.int .u8 (IntKind.wrap .u8 (Int.fdiv (AV.toInt (List.headD (List.drop ((Int.toNat (k:Int))*1) (aj l)) .dead)) (2^(min 16 64)))),.int .u8 (IntKind.wrap .u8 (Int.fdiv (AV.toInt (List.headD (List.drop ((Int.toNat (k:Int))*1) (aj l)) .dead)) (2^(min 8 64)))),.int .u8 (IntKind.wrap .u8 (AV.toInt (List.headD (List.drop ((Int.toNat (k:Int))*1) (aj l)) .dead)))]),0,false,0,1,true⟩)],.dead,[]⟩:=pJ 64 [] 1 1 (.k 1 h0 (.c h1 (.k 1 h2 (.c h3 (.c h4 (.k 1 h2 (.c h3 (.c h4 (.k 1 h2 (.c h3 (.c h4 (.c h5 .nil)))))))))))) (.nil) hn
theorem Hr {nt:Nat} (hn:35≤nt) (l o:List Nat) (nn:Bool):ah prog ap [] nt (ac 0 (ae f64)) ⟨[(0,.sl (aj l) l.length nn),(3,.ref 0 0 0 o.length),(4,.int .i64 (-1))],[(0,⟨(iB o),0,false,0,1,true⟩)],.dead,[]⟩ (.exit 0) ⟨[(3,.ref 0 0 0 o.length)],[(0,⟨(iB o),0,false,0,1,true⟩)],.dead,[]⟩:=pJ 64 [] 1 0 (.n 1 .nil) (.nil) hn
theorem Hs (l o:List Nat) (nn:Bool) (h0:(Nat.beq (List.length (List.take (o.length*1) (iB o))) o.length)=true) (h1:(List.all (List.take (o.length*1) (iB o)) (chk (.int .u8)))=true) (l0:aC prog ap [] 35 (.block 0 (.loop (ac 0 (ae f64)))) ⟨[(0,.sl (aj l) l.length nn),(2,.str []),(3,.nilS),(4,.int .i64 (IntKind.wrap .i64 ((l.length:Int) - ((1:Nat):Int)))),(9,.dead)],[],.dead,[]⟩ (.normal) ⟨[(3,.ref 0 0 0 o.length)],[(0,⟨(iB o),0,false,0,1,true⟩)],.dead,[]⟩) (c0:CO 61 [.str (List.map (fun c=>UInt8.ofNat (Int.toNat (AV.toInt c))) (List.take (o.length*1) (iB o)))] (.ret (.str (ak (af (List.map (fun c=>UInt8.ofNat (Int.toNat (AV.toInt c))) (List.take (o.length*1) (iB o)))))))):CO 64 [.sl (aj l) l.length nn] (.ret (.str (ak (af (List.map (fun c=>UInt8.ofNat (Int.toNat (AV.toInt c))) (List.take (o.length*1) (iB o))))))):=pK [0] 0 0 (.c h0 (.c h1 .nil)) (.c c0 (.l l0 .nil))
theorem Lb (x:Nat) (h0:lit true (decide (((0:Nat):Int)<(x:Int)))=true) (c0:CO 61 [.str [UInt8.ofNat (Int.toNat (IntKind.wrap .u8 (Int.fdiv (x:Int) (2^(min 56 64))))),UInt8.ofNat (Int.toNat (IntKind.wrap .u8 (Int.fdiv (x:Int) (2^(min 48 64))))),UInt8.ofNat (Int.toNat (IntKind.wrap .u8 (Int.fdiv (x:Int) (2^(min 40 64))))),UInt8.ofNat (Int.toNat (IntKind.wrap .u8 (Int.fdiv (x:Int) (2^(min 32 64))))),UInt8.ofNat (Int.toNat (IntKind.wrap .u8 (Int.fdiv (x:Int) (2^(min 24 64))))),UInt8.ofNat (Int.toNat (IntKind.wrap .u8 (Int.fdiv (x:Int) (2^(min 16 64))))),UInt8.ofNat (Int.toNat (IntKind.wrap .u8 (Int.fdiv (x:Int) (2^(min 8 64))))),UInt8.ofNat (Int.toNat (IntKind.wrap .u8 (Int.fdiv (x:Int) (2^(min 0 64)))))]] (.ret (.str (ak (af [UInt8.ofNat (Int.toNat (IntKind.wrap .u8 (Int.fdiv (x:Int) (2^(min 56 64))))),UInt8.ofNat (Int.toNat (IntKind.wrap .u8 (Int.fdiv (x:Int) (2^(min 48 64))))),UInt8.ofNat (Int.toNat (IntKind.wrap .u8 (Int.fdiv (x:Int) (2^(min 40 64))))),UInt8.ofNat (Int.toNat (IntKind.wrap .u8 (Int.fdiv (x:Int) (2^(min 32 64))))),UInt8.ofNat (Int.toNat (IntKind.wrap .u8 (Int.fdiv (x:Int) (2^(min 24 64))))),UInt8.ofNat (Int.toNat (IntKind.wrap .u8 (Int.fdiv (x:Int) (2^(min 16 64))))),UInt8.ofNat (Int.toNat (IntKind.wrap .u8 (Int.fdiv (x:Int) (2^(min 8 64))))),UInt8.ofNat (Int.toNat (IntKind.wrap .u8 (Int.fdiv (x:Int) (2^(min 0 64)))))]))))):CO 39 [.int .i64 (x:Int)] (.ret (.str (ak (af [UInt8.ofNat (Int.toNat (IntKind.wrap .u8 (Int.fdiv (x:Int) (2^(min 56 64))))),UInt8.ofNat (Int.toNat (IntKind.wrap .u8 (Int.fdiv (x:Int) (2^(min 48 64))))),UInt8.ofNat (Int.toNat (IntKind.wrap .u8 (Int.fdiv (x:Int) (2^(min 40 64))))),UInt8.ofNat (Int.toNat (IntKind.wrap .u8 (Int.fdiv (x:Int) (2^(min 32 64))))),UInt8.ofNat (Int.toNat (IntKind.wrap .u8 (Int.fdiv (x:Int) (2^(min 24 64))))),UInt8.ofNat (Int.toNat (IntKind.wrap .u8 (Int.fdiv (x:Int) (2^(min 16 64))))),UInt8.ofNat (Int.toNat (IntKind.wrap .u8 (Int.fdiv (x:Int) (2^(min 8 64))))),UInt8.ofNat (Int.toNat (IntKind.wrap .u8 (Int.fdiv (x:Int) (2^(min 0 64)))))])))):=pK [] 19 131067 (.k 9 h0 (.k 6 h0 (.k 6 h0 (.k 6 h0 (.k 6 h0 (.k 6 h0 (.k 6 h0 (.k 5 h0 (.n 1 .nil))))))))) (.c c0 .nil)
theorem Lc (x:Nat) (h0:lit false (decide (((0:Nat):Int)<(x:Int)))=true) (c0:CO 61 [.str []] (.ret (.str (ak (af []))))):CO 39 [.int .i64 (x:Int)] (.ret (.str (ak (af [])))):=pK [] 2 1 (.k 2 h0 (.n 1 .nil)) (.c c0 .nil)
theorem KS {nt:Nat} (hn:35≤nt) (s:List UInt8) (n k:Nat) (h0:(decide (((0:Nat):Int)≤(k:Int)))=true) (h1:(decide ((k:Int)<(((List.length s):Nat):Int)))=true) (h2:lit true (decide ((k:Int)<(((List.length s):Nat):Int)))=true):ah prog ap [] nt (ac 0 (ae f94)) ⟨[(0,.str s),(4,.int .i64 (n:Int)),(5,.int .i64 (k:Int))],[],.dead,[]⟩ (.normal) ⟨[(0,.str s),(4,.int .i64 (IntKind.wrap .i64 ((IntKind.wrap .i64 ((n:Int)*2^(min 8 64)))+(IntKind.wrap .i64 ((UInt8.toNat (List.getD s (Int.toNat (k:Int)) 0):Nat):Int))))),(5,.int .i64 (IntKind.wrap .i64 ((k:Int)+((1:Nat):Int))))],[],.dead,[]⟩:=pJ 94 [] 1 1 (.c h0 (.c h1 (.k 1 h2 .nil))) (.nil) hn
theorem KT {nt:Nat} (hn:35≤nt) (s:List UInt8) (n k:Nat) (h0:lit false (decide ((k:Int)<(((List.length s):Nat):Int)))=true):ah prog ap [] nt (ac 0 (ae f94)) ⟨[(0,.str s),(4,.int .i64 (n:Int)),(5,.int .i64 (k:Int))],[],.dead,[]⟩ (.exit 0) ⟨[(4,.int .i64 (n:Int))],[],.dead,[]⟩:=pJ 94 [] 1 0 (.c h0 .nil) (.nil) hn
theorem HS (s:List UInt8) (n:Nat) (h0:lit false (decide (((127:Nat):Int)<((UInt8.toNat (List.getD (ak (af s)) 0 0):Nat):Int)))=true) (h1:(decide (((0:Nat):Int)<(((List.length (ak (af s))):Nat):Int)))=true) (h2:lit true ((((List.length (ak (af s))):Nat):Int)==((8:Nat):Int))=true) (h3:lit false (decide (((8:Nat):Int)<(((List.length (ak (af s))):Nat):Int)))=true) (c0:CO 61 [.str s] (.ret (.str (ak (af s))))) (l0:aC prog ap [] 35 (.block 0 (.loop (ac 0 (ae f94)))) ⟨[(0,.str (ak (af s))),(2,.int .i64 0),(3,.bool false),(4,.int .i64 0),(5,.int .i64 0),(20,.bool (decide (((127:Nat):Int)<((UInt8.toNat (List.getD (ak (af s)) 0 0):Nat):Int)))),(24,.dead)],[],.dead,[]⟩ (.normal) ⟨[(4,.int .i64 (n:Int))],[],.dead,[]⟩):CO 94 [.str s] (.ret (.tup [.int .i64 (n:Int),.bool true])):=pK [0] 3 2 (.c h0 (.k 1 h1 (.c h2 (.c h3 .nil)))) (.l l0 (.c c0 .nil))
theorem HT (s:List UInt8) (n:Nat) (h0:lit false ((((List.length (ak (af s))):Nat):Int)==((8:Nat):Int))=true) (h1:lit false (decide (((8:Nat):Int)<(((List.length (ak (af s))):Nat):Int)))=true) (c0:CO 61 [.str s] (.ret (.str (ak (af s))))) (l0:aC prog ap [] 35 (.block 0 (.loop (ac 0 (ae f94)))) ⟨[(0,.str (ak (af s))),(2,.int .i64 0),(3,.bool false),(4,.int .i64 0),(5,.int .i64 0),(20,.bool false),(24,.dead)],[],.dead,[]⟩ (.normal) ⟨[(4,.int .i64 (n:Int))],[],.dead,[]⟩):CO 94 [.str s] (.ret (.tup [.int .i64 (n:Int),.bool true])):=pK [0] 3 0 (.k 1 h0 (.c h1 .nil)) (.l l0 (.c c0 .nil))
theorem Qn (s:List UInt8) (n b:Nat) (h0:lit true (decide ((b:Int)<(((List.length (ak (af s))):Nat):Int)))=true) (c0:CO 61 [.str s] (.ret (.str (ak (af s))))):CO 62 [.str s,.int .i64 (b:Int)] (.ret (.tup [.int .i64 0,.bool false])):=pK [] 1 1 (.c h0 .nil) (.c c0 .nil)
theorem Qo (s:List UInt8) (n b:Nat) (h0:lit false (decide ((b:Int)<(((List.length (ak (af s))):Nat):Int)))=true) (c0:CO 61 [.str s] (.ret (.str (ak (af s))))) (c1:CO 94 [.str s] (.ret (.tup [.int .i64 (n:Int),.bool true]))):CO 62 [.str s,.int .i64 (b:Int)] (.ret (.tup [.int .i64 (n:Int),.bool true])):=pK [] 1 0 (.c h0 .nil) (.c c1 (.c c0 .nil))
theorem Pr {nt:Nat} (hn:24≤nt) (n d:Nat) (h0:lit true (decide (((0:Nat):Int)<(d:Int)))=true):ah prog ap [] nt (ac 0 (ae f70)) ⟨[(3,.int .i64 (n:Int)),(4,.int .i64 (d:Int))],[],.dead,[]⟩ (.normal) ⟨[(3,.int .i64 (IntKind.wrap .i64 ((n:Int)+((1:Nat):Int)))),(4,.int .i64 (IntKind.wrap .i64 (Int.tdiv (d:Int) ((2:Nat):Int))))],[],.dead,[]⟩:=pJ 70 [] 1 1 (.k 1 h0 .nil) (.nil) hn
theorem Ps {nt:Nat} (hn:24≤nt) (n d:Nat) (h0:lit false (decide (((0:Nat):Int)<(d:Int)))=true):ah prog ap [] nt (ac 0 (ae f70)) ⟨[(3,.int .i64 (n:Int)),(4,.int .i64 (d:Int))],[],.dead,[]⟩ (.exit 0) ⟨[(3,.int .i64 (n:Int))],[],.dead,[]⟩:=pJ 70 [] 1 0 (.c h0 .nil) (.nil) hn
theorem KH (s:List UInt8) (n:Nat) (h0:lit true ((((List.length (ak (af s))):Nat):Int)==((0:Nat):Int))=true) (c0:CO 61 [.str s] (.ret (.str (ak (af s))))):CO 70 [.str s] (.ret (.int .i64 0)):=pK [0] 1 1 (.c h0 .nil) (.c c0 .nil)
theorem KI (s:List UInt8) (n:Nat) (h0:(decide (((0:Nat):Int)<(((List.length (ak (af s))):Nat):Int)))=true) (h1:lit false ((((List.length (ak (af s))):Nat):Int)==((0:Nat):Int))=true) (c0:CO 61 [.str s] (.ret (.str (ak (af s))))) (l0:aC prog ap [] 24 (.block 0 (.loop (ac 0 (ae f70)))) ⟨[(0,.str (ak (af s))),(2,.int .i64 0),(3,.int .i64 (IntKind.wrap .i64 (((8:Nat):Int)*(IntKind.wrap .i64 ((((List.length (ak (af s))):Nat):Int) - ((1:Nat):Int)))))),(4,.int .i64 (IntKind.wrap .i64 ((UInt8.toNat (List.getD (ak (af s)) 0 0):Nat):Int))),(9,.bool ((((List.length (ak (af s))):Nat):Int)==((0:Nat):Int))),(18,.dead)],[],.dead,[]⟩ (.normal) ⟨[(3,.int .i64 (n:Int))],[],.dead,[]⟩):CO 70 [.str s] (.ret (.int .i64 (n:Int))):=pK [0] 1 0 (.k 1 h0 (.c h1 .nil)) (.l l0 (.c c0 .nil))
theorem PV (s:List UInt8) (h0:lit true ((((List.length s):Nat):Int)==((0:Nat):Int))=true):CO 102 [.str s] (.ret (.bool true)):=pK [] 1 1 (.c h0 .nil) (.nil)
theorem PW (s:List UInt8) (h0:(decide (((0:Nat):Int)<(((List.length s):Nat):Int)))=true) (h1:lit false ((((List.length s):Nat):Int)==((0:Nat):Int))=true):CO 102 [.str s] (.ret (.bool (!(((UInt8.toNat (List.getD s 0 0):Nat):Int)==((0:Nat):Int))))):=pK [] 1 0 (.k 1 h0 (.c h1 .nil)) (.nil)
theorem HM (s t:List UInt8) (h0:lit true (decide ((((List.length (ak (af s))):Nat):Int)<(((List.length (ak (af t))):Nat):Int)))=true) (h1:lit true (!((((List.length (ak (af s))):Nat):Int)==(((List.length (ak (af t))):Nat):Int)))=true) (c0:CO 61 [.str s] (.ret (.str (ak (af s))))) (c1:CO 61 [.str t] (.ret (.str (ak (af t))))):CO 103 [.str s,.str t] (.ret (.int .i64 (-1))):=pK [] 2 3 (.c h0 (.c h1 .nil)) (.c c1 (.c c0 .nil))
theorem HN (s t:List UInt8) (h0:lit false (decide ((((List.length (ak (af s))):Nat):Int)<(((List.length (ak (af t))):Nat):Int)))=true) (h1:lit true (!((((List.length (ak (af s))):Nat):Int)==(((List.length (ak (af t))):Nat):Int)))=true) (c0:CO 61 [.str s] (.ret (.str (ak (af s))))) (c1:CO 61 [.str t] (.ret (.str (ak (af t))))):CO 103 [.str s,.str t] (.ret (.int .i64 1)):=pK [] 2 1 (.c h0 (.c h1 .nil)) (.c c1 (.c c0 .nil))
theorem HO (s t:List UInt8) (h0:lit true (dx (ak (af s)) (ak (af t)))=true) (h1:lit false (!((((List.length (ak (af s))):Nat):Int)==(((List.length (ak (af t))):Nat):Int)))=true) (c0:CO 61 [.str s] (.ret (.str (ak (af s))))) (c1:CO 61 [.str t] (.ret (.str (ak (af t))))):CO 103 [.str s,.str t] (.ret (.int .i64 (-1))):=pK [] 2 2 (.c h0 (.c h1 .nil)) (.c c1 (.c c0 .nil))
theorem HP (s t:List UInt8) (h0:lit true (!(dx (ak (af s)) (ak (af t))||(ak (af s))==(ak (af t))))=true) (h1:lit false (dx (ak (af s)) (ak (af t)))=true) (h2:lit false (!((((List.length (ak (af s))):Nat):Int)==(((List.length (ak (af t))):Nat):Int)))=true) (c0:CO 61 [.str s] (.ret (.str (ak (af s))))) (c1:CO 61 [.str t] (.ret (.str (ak (af t))))):CO 103 [.str s,.str t] (.ret (.int .i64 1)):=pK [] 3 4 (.c h0 (.c h1 (.c h2 .nil))) (.c c1 (.c c0 .nil))
theorem HQ (s t:List UInt8) (h0:lit false (!(dx (ak (af s)) (ak (af t))||(ak (af s))==(ak (af t))))=true) (h1:lit false (dx (ak (af s)) (ak (af t)))=true) (h2:lit false (!((((List.length (ak (af s))):Nat):Int)==(((List.length (ak (af t))):Nat):Int)))=true) (c0:CO 61 [.str s] (.ret (.str (ak (af s))))) (c1:CO 61 [.str t] (.ret (.str (ak (af t))))):CO 103 [.str s,.str t] (.ret (.int .i64 0)):=pK [] 3 0 (.c h0 (.c h1 (.c h2 .nil))) (.c c1 (.c c0 .nil))
def Rw (x y:Nat) (na nb:Bool) (p:Nat × Nat):St:=⟨[(0,.sl (aj (au x)) (au x).length na),(1,.sl (aj (au y)) (au y).length nb),(5,.int .i64 (p.1:Int)),(6,.int .i64 (p.2:Int))],[],.dead,[]⟩
def Nr (q:Nat):St:=⟨[(5,.int .i64 (q:Int))],[],.dead,[]⟩
theorem DP {x d:Nat} (hd:d<16777216):(au (x*d)).length≤(au x).length+1:=by
 apply ql
 have h1:=ld x
 have hp:=EH (au x).length
 rw [Nat.pow_succ]
 rcases Nat.eq_zero_or_pos d with rfl|h0
 ·rw [Nat.mul_zero];exact Nat.mul_pos hp (by omega)
 ·exact Nat.lt_of_lt_of_le (Nat.mul_lt_mul_of_pos_right h1 h0) (Nat.mul_le_mul_left _ (by omega))
theorem Gq {nt:Nat} (hn:26≤nt) (x y:Nat) (na nb:Bool) (hy:0<y) (hxl:(au x).length<2^36) (hyl:(au y).length<2^35):∀ (n lo hi:Nat),hi - lo<n→lo≤x / y→x / y≤hi→hi<16777216→aA prog ap [] nt (ac 0 (ae f125)) (fun _=> .exit 0) (Rw x y na nb) Nr (lo,hi) (x / y):=by
 intro n
 induction n with
 |zero=>intro lo hi h;omega
 | succ n ih=>
  intro lo hi h h1 h2 h3
  rcases Nat.lt_or_ge lo hi with hlt|hge
  ·have hm1:(lo+hi+1) / 2<16777216:=by omega
   have hc:=ui (y*((lo+hi+1) / 2)) x
   have ht:=xW y ((lo+hi+1) / 2) nb hm1 (by omega)
   have hml:=DP (x:=y) hm1
   have hcm:=AO (au (y*((lo+hi+1) / 2))) (au x) true na (bM.dig _) (bM.dig _) (by omega) (by omega)
   have hdiv:=Nat.le_div_iff_mul_le (x:=(lo+hi+1) / 2) (y:=x) hy
   rw [Nat.mul_comm] at hdiv
   have hz:((0:Nat):Int)=0:=rfl
   by_cases hle:y*((lo+hi+1) / 2)≤x
   ·have hmq:=hdiv.2 hle
    refine .next ?_ (ih ((lo+hi+1) / 2) hi (by omega) hmq h2 h3)
    have hb:=Ns hn x y (y*((lo+hi+1) / 2)) lo hi (wM (au (y*((lo+hi+1) / 2))) (au x)) na nb
    simp (disch:=first|omega|(simp [ai,ar]<;>omega)) only [bd,aY,aP,bG,aZ,kz] at hb
    exact hb (hc.2.2 hle) hlt ht hcm
   ·have hmq:x / y<(lo+hi+1) / 2:=Nat.lt_of_not_le (fun hq=>hle (hdiv.1 hq))
    refine .next ?_ (ih lo ((lo+hi+1) / 2 - 1) (by omega) h1 (by omega) (by omega))
    have hb:=Nt hn x y (y*((lo+hi+1) / 2)) lo hi (wM (au (y*((lo+hi+1) / 2))) (au x)) na nb
    simp (disch:=first|omega|(simp [ai,ar]<;>omega)) only [bO,bY,b_,aP,bd,aY,bG,aZ,kz,eV] at hb
    exact hb (fun hq=>hle (hc.2.1 hq)) hlt ht hcm
  ·have he:lo=x / y:=by omega
   have hb:=Nu hn x y 0 lo hi 0 na nb (by rw [aP];simp [lit];omega)
   rw [← he]
   exact .done hb
theorem DQ (x y:Nat) (na nb:Bool) (hy:0<y) (hxy:x<y*16777216) (hxl:(au x).length<2^36) (hyl:(au y).length<2^35):CO 125 [.sl (aj (au x)) (au x).length na,.sl (aj (au y)) (au y).length nb] (.ret (.int .i64 ((x / y:Nat):Int))):=by
 have hq:x / y<16777216:=by rw [Nat.div_lt_iff_lt_mul hy,Nat.mul_comm];exact hxy
 exact JQ x y (x / y) na nb (aA.blk (fun nt hn=>Gq hn x y na nb hy hxl hyl 16777216 0 16777215 (by omega) (Nat.zero_le _) (Nat.le_of_lt_succ hq) (by omega)) (by simp) rfl (aF.of ⟨rfl,rfl,rfl,rfl,trivial⟩) (aF.of ⟨rfl,trivial⟩))
theorem gT (l:List UInt8) (c:UInt8):af (l++ [c])=af l*256+c.toNat:=by
 unfold af;rw [List.foldl_append];rfl
theorem toNat_ofNat {x:Nat} (h:x<256):(UInt8.ofNat x).toNat=x:=by
 rw [UInt8.toNat_ofNat'];exact Nat.mod_eq_of_lt h
def bS (o:List Nat):List UInt8:=o.map UInt8.ofNat
theorem Me (o:List Nat):List.map (fun c=>UInt8.ofNat (Int.toNat (AV.toInt c))) (iB o)=bS o:=by
 unfold iB bS;rw [List.map_map];rfl
theorem Bw (l:List Nat) (k:Nat):List.take k (iB l)=iB (l.take k):=by unfold iB;rw [List.map_take]
def Dv (l:List Nat):Nat→List Nat
 |0=> []
 |k+1=> [l.getD k 0 / 65536,l.getD k 0 / 256 % 256,l.getD k 0 % 256]++Dv l k
theorem yx (a b:List Nat):bS (a++b)=bS a++bS b:=by unfold bS;rw [List.map_append]
theorem Aa {l:List Nat} (hl:bM l):∀ (k:Nat) (o:List Nat),k≤l.length→af (bS (o++Dv l k))=af (bS o)*16777216^k+cJ (l.take k)
 |0,o,_=>by simp [Dv,cJ]
 | k+1,o,h=>by
  simp only [Dv]
  rw [← List.append_assoc,Aa hl k _ (by omega),iq (by omega)]
  have hd:=hl.getD k
  generalize l.getD k 0=d at*
  have e:af (bS (o++ [d / 65536,d / 256 % 256,d % 256]))=af (bS o)*16777216+d:=by
   rw [show o++ [d / 65536,d / 256 % 256,d % 256]=((o++ [d / 65536])++ [d / 256 % 256])++ [d % 256] by simp,yx,yx,yx]
   simp only [bS,List.map_cons,List.map_nil]
   rw [gT,gT,gT,toNat_ofNat (show d / 65536<256 by omega),toNat_ofNat (Nat.mod_lt _ (by omega)),toNat_ofNat (Nat.mod_lt _ (by omega))]
   omega
  rw [e,Nat.add_mul,Nat.pow_succ,Nat.mul_comm (16777216^k) 16777216,Nat.mul_assoc,Nat.mul_comm d]
  omega
def FX (l:List Nat):AV:=match l with| []=> .nilS|x::l=> .ref 0 0 0 (x::l).length
def FY (l:List Nat):Hp:=match l with| []=> []|x::l=> [(0,⟨iB (x::l),0,false,0,1,true⟩)]
theorem qh {l:List Nat} (h:l ≠ []):FX l= .ref 0 0 0 l.length:=by cases l with|nil=>exact absurd rfl h|cons _ _=>rfl
theorem qi {l:List Nat} (h:l ≠ []):FY l= [(0,⟨iB l,0,false,0,1,true⟩)]:=by cases l with|nil=>exact absurd rfl h|cons _ _=>rfl
def Kj (l:List Nat) (nn:Bool) (p:Nat × List Nat):St:=⟨[(0,.sl (aj l) l.length nn),(3,FX p.2),(4,.int .i64 ((p.1:Int) - 1))],FY p.2,.dead,[]⟩
def Er (o:List Nat):St:=⟨[(3,FX o)],FY o,.dead,[]⟩
theorem IA (o:List Nat) (a b c:Nat):iB o++ [AV.int .u8 (a:Int),AV.int .u8 (b:Int),AV.int .u8 (c:Int)]=iB (o++ [a,b,c]):=by simp [iB]
theorem IY:(2:Nat)^16=65536:=by decide
theorem OZ:(2:Nat)^8=256:=by decide
theorem Hq {nt:Nat} (hn:35≤nt) (l:List Nat) (nn:Bool) (hl:l.length<2^36) (hll:bM l):∀ (k:Nat) (o:List Nat),k≤l.length→o.length+3*k=3*l.length→aA prog ap [] nt (ac 0 (ae f64)) (fun _=> .exit 0) (Kj l nn) Er (k,o) (o++Dv l k):=by
 intro k
 induction k with
 | zero=>
  intro o _ _
  simp only [Dv,List.append_nil]
  refine .done ?_
  unfold Kj Er
  rcases Decidable.em (o= []) with rfl|hne
  ·exact Ht hn l [] nn
  ·rw [qh hne,qi hne]
   exact Hr hn l o nn
 | succ k ih=>
  intro o hk ho
  have hd:=hll.getD k
  have ek:(((k+1:Nat):Int) - 1)=(k:Int):=by omega
  have ew:IntKind.wrap .i64 ((k:Int) - ((1:Nat):Int))=(k:Int) - 1:=bo (by omega) (by omega)
  have hnext:=ih (o++ [l.getD k 0 / 65536,l.getD k 0 / 256 % 256,l.getD k 0 % 256]) (by omega) (by simp;omega)
  rw [List.append_assoc] at hnext
  simp only [Dv]
  refine .next ?_ hnext
  unfold Kj
  rw [ek]
  generalize hg:l.getD k 0=d at*
  have hne':o++ [d / 65536,d / 256 % 256,d % 256] ≠ []:=by simp
  rcases Decidable.em (o= []) with rfl|hne
  ·have hb:=Kl hn l [] k nn
   simp (disch:=first|omega|(simp [ai,ar]<;>omega)) only [aD,Nat.mul_one,cQ,hg,bZ,bI,aY,aP,bd,ew,aV,show min 16 64=16 from rfl,jg,IY,LC,Nat.mod_eq_of_lt,show min 8 64=8 from rfl,OZ] at hb
   simp only [List.nil_append,FX,FY,iB,List.map_cons,List.map_nil,List.length_cons,List.length_nil] at hb ⊢
   apply hb<;>first|exact True.intro|omega|assumption|exact rfl
  ·have hb:=Kk hn l o k nn
   rw [qh hne,qi hne,qh hne',qi hne']
   simp (disch:=first|omega|(simp [ai,ar]<;>omega)) only [cI,aY,Nat.mul_one,ar,aD,cQ,hg,bZ,bI,aP,bd,ew,Bw,List.take_length,aV,show min 16 64=16 from rfl,jg,IY,LC,Nat.mod_eq_of_lt,show min 8 64=8 from rfl,OZ,IA] at hb
   simp only [List.length_append,List.length_cons,List.length_nil]
   apply hb<;>first|exact True.intro|omega|assumption|exact rfl
theorem xx (l:List Nat) (nn:Bool) (hl:l.length<2^36) (hll:bM l):CO 64 [.sl (aj l) l.length nn] (.ret (.str (ak (cJ l)))):=by
 have hloop:=fun nt (hn:35≤nt)=>Hq hn l nn hl hll l.length [] (Nat.le_refl _) (by simp)
 have hv:=Aa hll l.length [] (Nat.le_refl _)
 have hbl:(Dv l l.length).length=3*l.length:=by
  have:∀ k,(Dv l k).length=3*k:=by
   intro k
   induction k with
   |zero=>rfl
   |succ k ih=>simp only [Dv,List.length_append,List.length_cons,List.length_nil,ih];omega
  exact this _
 have ew:IntKind.wrap .i64 ((l.length:Int) - ((1:Nat):Int))=(l.length:Int) - 1:=rJ (by omega)
 simp only [List.nil_append] at hloop hv
 rw [List.take_length,show af (bS [])=0 from rfl,Nat.zero_mul,Nat.zero_add] at hv
 generalize Dv l l.length=o at*
 rcases Decidable.em (o= []) with rfl|hne
 ·rw [← hv]
  exact Hu l [] nn (aA.blk hloop (by simp) rfl (aF.of ⟨rfl,rfl,congrArg _ ew,trivial⟩) (aF.of ⟨rfl,trivial⟩)) (dl [] (by simp))
 ·have h:=Hs l o nn
  have hc:=dl (bS o) (by simp [bS];omega)
  rw [hv] at hc
  have htk:List.take o.length (iB o)=iB o:=by rw [Bw,List.take_length]
  simp (disch:=first|omega|(simp [ai,ar]<;>omega)) only [Nat.mul_one,htk,vG,aY,Me,hv] at h
  apply h<;>first|exact True.intro|omega|assumption|exact rfl|skip
  ·exact ar o
  ·have:List.all (iB o) (chk (.int .u8))=true:=by
    rw [List.all_eq_true];intro x hx
    obtain ⟨d,_,rfl⟩:=List.mem_map.1 hx
    rfl
   exact this
  ·exact aA.blk hloop (by simp) rfl (aF.of ⟨rfl,rfl,congrArg _ ew,trivial⟩) (by unfold Er;rw [qh hne,qi hne];exact aF.of ⟨rfl,trivial⟩)
theorem ik (x:Nat) (hx:x<9223372036854775808):CO 39 [.int .i64 (x:Int)] (.ret (.str (ak x))):=by
 rcases Nat.eq_zero_or_pos x with rfl|h0
 ·exact Lc 0 rfl (dl [] (by simp))
 ·have h:=Lb x
  have e:∀ k,Int.toNat (IntKind.wrap .u8 (Int.fdiv (x:Int) (2^k)))=x / 2^k % 256:=by
   intro k;rw [jg,LC,aD]
  simp only [show min 56 64=56 from rfl,show min 48 64=48 from rfl,show min 40 64=40 from rfl,show min 32 64=32 from rfl,show min 24 64=24 from rfl,show min 16 64=16 from rfl,show min 8 64=8 from rfl,show min 0 64=0 from rfl,e] at h
  have hc:=dl [UInt8.ofNat (x / 2^56 % 256),UInt8.ofNat (x / 2^48 % 256),UInt8.ofNat (x / 2^40 % 256),UInt8.ofNat (x / 2^32 % 256),UInt8.ofNat (x / 2^24 % 256),UInt8.ofNat (x / 2^16 % 256),UInt8.ofNat (x / 2^8 % 256),UInt8.ofNat (x / 2^0 % 256)] (by simp)
  have hv:af [UInt8.ofNat (x / 2^56 % 256),UInt8.ofNat (x / 2^48 % 256),UInt8.ofNat (x / 2^40 % 256),UInt8.ofNat (x / 2^32 % 256),UInt8.ofNat (x / 2^24 % 256),UInt8.ofNat (x / 2^16 % 256),UInt8.ofNat (x / 2^8 % 256),UInt8.ofNat (x / 2^0 % 256)]=x:=by
   have t:∀ y,(UInt8.ofNat (y % 256)).toNat=y % 256:=fun y=>toNat_ofNat (Nat.mod_lt _ (by omega))
   simp only [af,List.foldl_cons,List.foldl_nil,t]
   omega
  rw [hv] at hc h
  apply h
  ·rw [aP];exact decide_eq_true h0
  ·exact hc
def IW (s:List UInt8) (k:Nat):St:=⟨[(0,.str s),(4,.int .i64 ((af (s.take k):Nat):Int)),(5,.int .i64 (k:Int))],[],.dead,[]⟩
def yV (s:List UInt8) (k:Nat):St:=⟨[(4,.int .i64 ((af (s.take k):Nat):Int))],[],.dead,[]⟩
theorem sR {s:List UInt8} {k:Nat} (h:k<s.length):af (s.take (k+1))=af (s.take k)*256+(s.getD k 0).toNat:=by
 rw [List.take_add_one,List.getElem?_eq_getElem h,List.getD_eq_getElem?_getD,List.getElem?_eq_getElem h]
 exact gT _ _
theorem wk (s:List UInt8) (k:Nat):af (s.take k)≤af s:=by
 rcases Nat.lt_or_ge k s.length with h|h
 ·have e:s=s.take k++s.drop k:=(List.take_append_drop k s).symm
  have:∀ (b a:List UInt8),af a≤af (a++b):=by
   intro b
   induction b with
   |nil=>intro a;simp
   |cons c r ih=>
    intro a
    have h1:=ih (a++ [c])
    rw [gT,List.append_assoc] at h1
    simp only [List.cons_append,List.nil_append] at h1
    omega
  calc af (s.take k)≤af (s.take k++s.drop k):=this _ _
   _=af s:=by rw [← e]
 ·rw [List.take_of_length_le h];exact Nat.le_refl _
theorem Ea {nt:Nat} (hn:35≤nt) (s:List UInt8) (hs:s.length<2^40) (hv:af s<9223372036854775808):∀ (d k:Nat),k+d=s.length→aA prog ap [] nt (ac 0 (ae f94)) (fun _=> .exit 0) (IW s) (yV s) k s.length:=by
 intro d
 induction d with
 |zero=>
  intro k hk
  have hk':k=s.length:=by omega
  subst hk'
  exact .done (KT hn s _ _ (by rw [aP];simp [lit]))
 | succ d ih=>
  intro k hk
  have hks:k<s.length:=by omega
  refine .next ?_ (ih (k+1) (by omega))
  have hb:=KS hn s (af (s.take k)) k
  rw [aD] at hb
  have h1:=wk s (k+1)
  have h2:=sR hks
  have h3:(s.getD k 0).toNat<256:=UInt8.toNat_lt _
  unfold IW
  rw [h2]
  rw [h2] at h1
  generalize (s.getD k 0).toNat=c at*
  generalize af (s.take k)=v at*
  have e1:IntKind.wrap .i64 ((v:Int)*2^(min 8 64))=((v*256:Nat):Int):=by
   rw [show min 8 64=8 from rfl,bo]<;>omega
  have e2:(((v*256:Nat):Int))+(c:Int)=((v*256+c:Nat):Int):=by omega
  have e3:IntKind.wrap .i64 (c:Int)=(c:Int):=aZ (by omega)
  rw [e3,e1,e2,aZ (by omega)] at hb
  simp (disch:=first|omega|(simp [ai,ar]<;>omega)) only [bI,aY,aP,bd,bG,aZ] at hb
  apply hb<;>first|exact True.intro|omega|assumption|exact rfl
theorem nE {x k:Nat}:(ak x).length≤k↔x<2^(8*k):=by
 constructor
 ·intro h
  have h1:=iw (ak x)
  rw [aT] at h1
  exact Nat.lt_of_lt_of_le h1 (Nat.pow_le_pow_right (by omega) (by omega))
 ·exact ic
theorem J1 (s:List UInt8) (hs:s.length<2^40) (hv:af s<9223372036854775808):CO 94 [.str s] (.ret (.tup [.int .i64 ((af s:Nat):Int),.bool true])):=by
 have hc:=dl s hs
 have hvn:=aT (af s)
 have hl:(ak (af s)).length≤8:=ic (Nat.lt_of_lt_of_le hv (by decide))
 have hloop:=fun nt (hn:35≤nt)=>Ea hn (ak (af s)) (by omega) (by rw [hvn];exact hv) (ak (af s)).length 0 (by omega)
 have hless:aF ⟨[(4,.int .i64 ((af s:Nat):Int))],[],.dead,[]⟩ (yV (ak (af s)) (ak (af s)).length):=by
  unfold yV
  rw [List.take_length,hvn]
  exact aF.refl _
 have h2:=HS s (af s)
 have h3:=HT s (af s)
 have htop:(ak (af s)).length=8→((ak (af s)).getD 0 0).toNat≤127:=by
  intro h8
  cases hn:ak (af s) with
  |nil=>rw [hn] at h8;cases h8
  |cons c r=>
   rw [hn] at h8 hvn
   rw [dP] at hvn
   have:r.length=7:=by simpa using h8
   rw [this,show 256^7=72057594037927936 from rfl] at hvn
   simp only [List.getD_cons_zero]
   omega
 generalize ak (af s)=t at*
 by_cases h8:t.length=8
 ·have h127:=htop h8
  simp (disch:=first|omega|(simp [ai,ar]<;>omega)) only [aP,bO,bY,b_,h8,aY,eP,decide_true,bd] at h2
  apply h2<;>first|exact True.intro|omega|assumption|exact rfl|skip
  exact aA.blk hloop (by simp) rfl (aF.of ⟨rfl,rfl,rfl,trivial⟩) hless
 ·simp (disch:=first|omega|(simp [ai,ar]<;>omega)) only [eP,h8,decide_false,bO,Bool.not_false,aP,bY,b_] at h3
  apply h3<;>first|exact True.intro|omega|assumption|exact rfl|skip
  exact aA.blk hloop (by simp) rfl (aF.of ⟨rfl,rfl,rfl,trivial⟩) hless
theorem gu (s:List UInt8) (b:Nat) (hs:s.length<2^40) (hb:b≤7) (hv:af s<2^(8*b)):CO 62 [.str s,.int .i64 (b:Int)] (.ret (.tup [.int .i64 ((af s:Nat):Int),.bool true])):=by
 have h:=Qo s (af s) b
 have hlt:af s<9223372036854775808:=Nat.lt_of_lt_of_le hv (Nat.le_trans (Nat.pow_le_pow_right (by omega) (show 8*b≤63 by omega)) (by decide))
 have hl:=nE.2 hv
 simp (disch:=first|omega|(simp [ai,ar]<;>omega)) only [aP,bO,bY,b_] at h
 exact h (by omega) (dl s hs) (J1 s hs hlt)
theorem sI (s:List UInt8) (b:Nat) (hs:s.length<2^40) (hv:2^(8*b)≤af s):CO 62 [.str s,.int .i64 (b:Int)] (.ret (.tup [.int .i64 0,.bool false])):=by
 have h:=Qn s 0 b
 have hl:¬ (ak (af s)).length≤b:=fun h=>by have:=nE.1 h;omega
 simp (disch:=first|omega|(simp [ai,ar]<;>omega)) only [aP,bd,aY] at h
 exact h (by omega) (dl s hs)
theorem Ci {d:Nat} (h:0<d):cg d=cg (d / 2)+1:=by
 rcases Nat.lt_or_ge d 2 with h1|h1
 ·have:d=1:=by omega
  subst this;rfl
 ·have:=kL (x:=d) (k:=1) (by omega)
  rw [Nat.pow_one] at this;omega
def Rj (p:Nat × Nat):St:=⟨[(3,.int .i64 (p.1:Int)),(4,.int .i64 (p.2:Int))],[],.dead,[]⟩
def Mf (n:Nat):St:=⟨[(3,.int .i64 (n:Int))],[],.dead,[]⟩
theorem Gb {nt:Nat} (hn:24≤nt):∀ (b n d:Nat),d<b→d<256→n+cg d<2^45→aA prog ap [] nt (ac 0 (ae f70)) (fun _=> .exit 0) Rj Mf (n,d) (n+cg d):=by
 intro b
 induction b with
 |zero=>intro n d h;omega
 | succ b ih=>
  intro n d h hd hn1
  rcases Nat.eq_zero_or_pos d with rfl|h0
  ·exact .done (Ps hn n 0 rfl)
  ·have hh:=Ci h0
   rw [hh,show n+(cg (d / 2)+1)=n+1+cg (d / 2) by omega]
   refine .next ?_ (ih (n+1) (d / 2) (by omega) (by omega) (by omega))
   have hb:=Pr hn n d
   clear ih hh
   simp (disch:=first|omega|(simp [ai,ar]<;>omega)) only [aP,bd,aY,bG,aZ,kz] at hb
   apply hb<;>first|exact True.intro|omega|assumption|exact rfl
theorem xF (s:List UInt8) (hs:s.length<2^40):CO 70 [.str s] (.ret (.int .i64 ((cg (af s):Nat):Int))):=by
 have hc:=dl s hs
 have hvn:=aT (af s)
 have hR:=qx (af s)
 have hlen:(ak (af s)).length≤s.length:=fX (Nat.le_refl _)
 have h0:=KH s 0
 have h1:=KI s (cg (af s))
 cases hn:ak (af s) with
 |nil=>
  rw [hn] at h0 hvn hc
  rw [← hvn]
  exact h0 rfl hc
 | cons c r=>
  rw [hn] at h1 hvn hc hR hlen
  have hc0:c ≠ 0:=by simpa [nR] using hR
  have hcp:0<c.toNat:=by
   rcases Nat.eq_zero_or_pos c.toNat with h|h
   ·exact absurd (by apply UInt8.toNat_inj.1;simpa using h) hc0
   ·exact h
  have hc256:c.toNat<256:=UInt8.toNat_lt c
  have hl:cg (af s)=8*r.length+cg c.toNat:=by
   have e:=rI (x:=c.toNat) (y:=af r) (8*r.length) hcp (iw r)
   rw [← e,← hvn,dP,Nat.mul_comm,show (256:Nat)=2^8 from rfl,← Nat.pow_mul]
  have hb8:cg c.toNat≤8:=fU (by omega)
  simp only [List.length_cons] at hlen
  have hloop:=fun nt (hn:24≤nt)=>Gb hn 256 (8*r.length) c.toNat hc256 hc256 (by omega)
  rw [← hl] at hloop
  simp only [List.length_cons,List.getD_cons_zero] at h1
  have e1:r.length+1 - 1=r.length:=rfl
  have e2:(((r.length+1:Nat):Int)) - ((1:Nat):Int)=(r.length:Int):=by omega
  have e3:IntKind.wrap .i64 (r.length:Int)=(r.length:Int):=aZ (by omega)
  have e4:IntKind.wrap .i64 (((8:Nat):Int)*(r.length:Int))=((8*r.length:Nat):Int):=by rw [bo]<;>omega
  have e5:IntKind.wrap .i64 (c.toNat:Int)=(c.toNat:Int):=aZ (by omega)
  rw [e2,e3,e4,e5] at h1
  refine h1 (by rw [aP];exact decide_eq_true (by omega)) (by rw [eP];simp [lit]) hc ?_
  exact aA.blk hloop (by simp) rfl (aF.of ⟨rfl,rfl,trivial⟩) (aF.of ⟨rfl,trivial⟩)
theorem ES (s:List UInt8):CO 102 [.str s] (.ret (.bool (nR s))):=by
 cases s with
 |nil=>exact PV [] rfl
 | cons c r=>
  have h:=PW (c::r)
  have e:(!((((c::r).getD 0 0).toNat:Int)==((0:Nat):Int)))=nR (c::r):=by
   simp only [List.getD_cons_zero,nR]
   by_cases hc:c=0
   ·subst hc;rfl
   ·have:c.toNat ≠ 0:=fun h=>hc (by apply UInt8.toNat_inj.1;simpa using h)
    have h1:((c.toNat:Int)==((0:Nat):Int))=false:=by simp;omega
    rw [h1];simp [hc]
  rw [e] at h
  apply h
  ·simp
  ·simp [lit];omega
theorem oW:∀ (a b:List UInt8),a.length=b.length→dx a b=decide (af a<af b)
 | [],[],_=>rfl
 | [],_::_,h=>by simp at h
 |_::_,[],h=>by simp at h
 | x::a,y::b,h=>by
  have hl:a.length=b.length:=by simpa using h
  have ih:=oW a b hl
  have h1:=iw a
  have h2:=iw b
  simp only [dx,ih]
  rw [dP,dP,hl,show (256:Nat)=2^8 from rfl,← Nat.pow_mul]
  rw [hl] at h1
  have hxy:decide (x<y)=decide (x.toNat<y.toNat):=by simp [UInt8.lt_iff_toNat_lt]
  have hxe:(x==y)=decide (x.toNat=y.toNat):=by
   by_cases h:x=y
   ·subst h;simp
   ·have:x.toNat ≠ y.toNat:=fun h'=>h (UInt8.toNat_inj.1 h')
    simp [h,this]
  rw [hxy,hxe]
  generalize 2^(8*b.length)=M at*
  generalize af a=u at*
  generalize af b=v at*
  generalize x.toNat=p at*
  generalize y.toNat=q at*
  rcases Nat.lt_trichotomy p q with h3|h3|h3
  ·have h4:(p+1)*M≤q*M:=Nat.mul_le_mul_right _ h3
   rw [Nat.add_mul,Nat.one_mul] at h4
   rw [decide_eq_true h3,decide_eq_true (show p*M+u<q*M+v by omega)];rfl
  ·subst h3
   rw [decide_eq_false (Nat.lt_irrefl _),decide_eq_true rfl]
   simp
  ·have h4:(q+1)*M≤p*M:=Nat.mul_le_mul_right _ h3
   rw [Nat.add_mul,Nat.one_mul] at h4
   rw [decide_eq_false (show ¬ p<q by omega),decide_eq_false (show ¬ p=q by omega),decide_eq_false (show ¬ p*M+u<q*M+v by omega)];rfl
theorem pC {x y:Nat} (h:(ak x).length<(ak y).length):x<y:=by
 rcases Nat.lt_or_ge x y with h1|h1
 ·exact h1
 ·have h2:y≤af (ak x):=by rw [aT];exact h1
  have:=fX h2
  omega
theorem EN (s t:List UInt8) (hs:s.length<2^40) (ht:t.length<2^40):CO 103 [.str s,.str t] (.ret (.int .i64 (lu (af s) (af t)))):=by
 have c1:=dl s hs
 have c2:=dl t ht
 have hx:=aT (af s)
 have hy:=aT (af t)
 unfold lu
 by_cases hl:(ak (af s)).length=(ak (af t)).length
 ·have hb:=oW _ _ hl
  rw [hx,hy] at hb
  have he:(ak (af s)==ak (af t))=decide (af s=af t):=by
   by_cases h:af s=af t
   ·rw [h];simp
   ·have:ak (af s) ≠ ak (af t):=fun h'=>h (En h')
    simp [h,this]
  have hq:lit false (!((((ak (af s)).length:Nat):Int)==(((ak (af t)).length:Nat):Int)))=true:=by rw [hl];simp [lit]
  by_cases h1:af s<af t
  ·rw [if_pos h1]
   exact HO s t (by rw [hb,decide_eq_true h1];rfl) hq c1 c2
  ·rw [if_neg h1]
   by_cases h2:af t<af s
   ·rw [if_pos h2]
    exact HP s t (by rw [hb,he,decide_eq_false h1,decide_eq_false (show ¬ af s=af t by omega)];rfl) (by rw [hb,decide_eq_false h1];rfl) hq c1 c2
   ·rw [if_neg h2]
    exact HQ s t (by rw [hb,he,decide_eq_false h1,decide_eq_true (show af s=af t by omega)];rfl) (by rw [hb,decide_eq_false h1];rfl) hq c1 c2
 ·have hq:lit true (!((((ak (af s)).length:Nat):Int)==(((ak (af t)).length:Nat):Int)))=true:=by rw [eP,decide_eq_false hl];rfl
  by_cases h1:(ak (af s)).length<(ak (af t)).length
  ·rw [if_pos (pC h1)]
   exact HM s t (by rw [aP,decide_eq_true h1];rfl) hq c1 c2
  ·have h2:=pC (show (ak (af t)).length<(ak (af s)).length by omega)
   rw [if_neg (by omega),if_pos h2]
   exact HN s t (by rw [aP,decide_eq_false h1];rfl) hq c1 c2
theorem OQ {nt:Nat} (hn:35≤nt) (s:List UInt8) (o:List Nat) (e d k:Nat) (h0:(decide (((0:Nat):Int)≤(k:Int)))=true) (h1:(decide ((k:Int)<(((List.length s):Nat):Int)))=true) (h2:lit true (decide ((k:Int)<(e:Int)))=true):ah prog ap [] nt (ac 2 (ae f63)) ⟨[(0,.str s),(3,.nilS),(4,.int .i64 (e:Int)),(5,.int .i64 (d:Int)),(6,.int .i64 (k:Int))],[],.dead,[]⟩ (.normal) ⟨[(0,.str s),(3,.nilS),(4,.int .i64 (e:Int)),(5,.int .i64 (IntKind.wrap .i64 ((IntKind.wrap .i64 ((d:Int)*((256:Nat):Int)))+(IntKind.wrap .i64 ((UInt8.toNat (List.getD s (Int.toNat (k:Int)) 0):Nat):Int))))),(6,.int .i64 (IntKind.wrap .i64 ((k:Int)+((1:Nat):Int))))],[],.dead,[]⟩:=pJ 63 [] 1 1 (.c h0 (.c h1 (.c h2 .nil))) (.nil) hn
theorem OT {nt:Nat} (hn:35≤nt) (s:List UInt8) (o:List Nat) (e d k:Nat) (h0:lit false (decide ((k:Int)<(e:Int)))=true):ah prog ap [] nt (ac 2 (ae f63)) ⟨[(0,.str s),(3,.nilS),(4,.int .i64 (e:Int)),(5,.int .i64 (d:Int)),(6,.int .i64 (k:Int))],[],.dead,[]⟩ (.exit 2) ⟨[(0,.str s),(3,.nilS),(4,.int .i64 (e:Int)),(5,.int .i64 (d:Int))],[],.dead,[]⟩:=pJ 63 [] 1 0 (.c h0 .nil) (.nil) hn
theorem OO {nt:Nat} (hn:35≤nt) (s:List UInt8) (o:List Nat) (e d k:Nat) (h0:(decide (((0:Nat):Int)≤(k:Int)))=true) (h1:(decide ((k:Int)<(((List.length s):Nat):Int)))=true) (h2:lit true (decide ((k:Int)<(e:Int)))=true):ah prog ap [] nt (ac 2 (ae f63)) ⟨[(0,.str s),(3,.ref 0 0 0 o.length),(4,.int .i64 (e:Int)),(5,.int .i64 (d:Int)),(6,.int .i64 (k:Int))],[(0,⟨(aj o),0,false,0,1,true⟩)],.dead,[]⟩ (.normal) ⟨[(0,.str s),(3,.ref 0 0 0 o.length),(4,.int .i64 (e:Int)),(5,.int .i64 (IntKind.wrap .i64 ((IntKind.wrap .i64 ((d:Int)*((256:Nat):Int)))+(IntKind.wrap .i64 ((UInt8.toNat (List.getD s (Int.toNat (k:Int)) 0):Nat):Int))))),(6,.int .i64 (IntKind.wrap .i64 ((k:Int)+((1:Nat):Int))))],[(0,⟨(aj o),0,false,0,1,true⟩)],.dead,[]⟩:=pJ 63 [] 1 1 (.c h0 (.c h1 (.c h2 .nil))) (.nil) hn
theorem OP {nt:Nat} (hn:35≤nt) (s:List UInt8) (o:List Nat) (e d k:Nat) (h0:lit false (decide ((k:Int)<(e:Int)))=true):ah prog ap [] nt (ac 2 (ae f63)) ⟨[(0,.str s),(3,.ref 0 0 0 o.length),(4,.int .i64 (e:Int)),(5,.int .i64 (d:Int)),(6,.int .i64 (k:Int))],[(0,⟨(aj o),0,false,0,1,true⟩)],.dead,[]⟩ (.exit 2) ⟨[(0,.str s),(3,.ref 0 0 0 o.length),(4,.int .i64 (e:Int)),(5,.int .i64 (d:Int))],[(0,⟨(aj o),0,false,0,1,true⟩)],.dead,[]⟩:=pJ 63 [] 1 0 (.c h0 .nil) (.nil) hn
theorem OI {nt:Nat} (hn:35≤nt) (s:List UInt8) (o:List Nat) (z:Int) (d:Nat) (h0:lit true (decide (((0:Nat):Int)<z))=true) (l0:aC prog ap [] 35 (.block 2 (.loop (ac 2 (ae f63)))) ⟨[(0,.str s),(2,.dead),(3,.nilS),(4,.int .i64 z),(5,.int .i64 0),(6,.int .i64 (if ((0:Nat):Int)>(IntKind.wrap .i64 (z - ((3:Nat):Int))) then ((0:Nat):Int) else (IntKind.wrap .i64 (z - ((3:Nat):Int))))),(12,.bool (decide (((0:Nat):Int)<z))),(20,.dead)],[],.dead,[]⟩ (.normal) ⟨[(0,.str s),(4,.int .i64 z),(5,.int .i64 (d:Int)),(3,.nilS)],[],.dead,[]⟩):ah prog ap [] nt (ac 0 (ae f63)) ⟨[(0,.str s),(3,.nilS),(4,.int .i64 z)],[],.dead,[]⟩ (.normal) ⟨[(0,.str s),(3,.ref 0 0 0 1),(4,.int .i64 (IntKind.wrap .i64 (z - ((3:Nat):Int))))],[(0,⟨[.int .i64 (d:Int)],0,false,0,1,true⟩)],.dead,[]⟩:=pJ 63 [2] 2 1 (.k 3 h0 .nil) (.l l0 .nil) hn
theorem OJ {nt:Nat} (hn:35≤nt) (s:List UInt8) (o:List Nat) (z:Int) (d:Nat) (h0:lit false (decide (((0:Nat):Int)<z))=true):ah prog ap [] nt (ac 0 (ae f63)) ⟨[(0,.str s),(3,.nilS),(4,.int .i64 z)],[],.dead,[]⟩ (.exit 0) ⟨[(3,.nilS)],[],.dead,[]⟩:=pJ 63 [2] 1 0 (.c h0 .nil) (.nil) hn
theorem Ko (s:List UInt8) (o:List Nat) (c0:CO 61 [.str s] (.ret (.str (ak (af s))))) (l0:aC prog ap [] 35 (.block 0 (.loop (ac 0 (ae f63)))) ⟨[(0,.str (ak (af s))),(2,.nilS),(3,.nilS),(4,.int .i64 (((List.length (ak (af s))):Nat):Int)),(5,.dead),(6,.dead),(12,.dead),(20,.dead)],[],.dead,[]⟩ (.normal) ⟨[(3,.nilS)],[],.dead,[]⟩):CO 63 [.str s] (.ret (.nilS)):=pK [0] 0 0 .nil (.l l0 (.c c0 .nil))
theorem Oi {nt:Nat} (hn:35≤nt) (s:List UInt8) (o:List Nat) (z:Int) (d:Nat) (h0:(Nat.ble (o.length+1) 1099511627776)=true) (h1:(Nat.ble (o.length*1) (List.length (aj o)))=true) (h2:lit true (decide (((0:Nat):Int)<z))=true) (l0:aC prog ap [] 35 (.block 2 (.loop (ac 2 (ae f63)))) ⟨[(0,.str s),(2,.dead),(3,.ref 0 0 0 o.length),(4,.int .i64 z),(5,.int .i64 0),(6,.int .i64 (if ((0:Nat):Int)>(IntKind.wrap .i64 (z - ((3:Nat):Int))) then ((0:Nat):Int) else (IntKind.wrap .i64 (z - ((3:Nat):Int))))),(12,.bool (decide (((0:Nat):Int)<z))),(20,.dead)],[(0,⟨(aj o),0,false,0,1,true⟩)],.dead,[]⟩ (.normal) ⟨[(0,.str s),(4,.int .i64 z),(5,.int .i64 (d:Int)),(3,.ref 0 0 0 o.length)],[(0,⟨(aj o),0,false,0,1,true⟩)],.dead,[]⟩):ah prog ap [] nt (ac 0 (ae f63)) ⟨[(0,.str s),(3,.ref 0 0 0 o.length),(4,.int .i64 z)],[(0,⟨(aj o),0,false,0,1,true⟩)],.dead,[]⟩ (.normal) ⟨[(0,.str s),(3,.ref 0 0 0 (o.length+1)),(4,.int .i64 (IntKind.wrap .i64 (z - ((3:Nat):Int))))],[(0,⟨((List.take (o.length*1) (aj o))++ [.int .i64 (d:Int)]),0,false,0,1,true⟩)],.dead,[]⟩:=pJ 63 [2] 1 1 (.k 1 h0 (.c h1 (.k 1 h2 .nil))) (.l l0 .nil) hn
theorem Oj {nt:Nat} (hn:35≤nt) (s:List UInt8) (o:List Nat) (z:Int) (d:Nat) (h0:lit false (decide (((0:Nat):Int)<z))=true):ah prog ap [] nt (ac 0 (ae f63)) ⟨[(0,.str s),(3,.ref 0 0 0 o.length),(4,.int .i64 z)],[(0,⟨(aj o),0,false,0,1,true⟩)],.dead,[]⟩ (.exit 0) ⟨[(3,.ref 0 0 0 o.length)],[(0,⟨(aj o),0,false,0,1,true⟩)],.dead,[]⟩:=pJ 63 [2] 1 0 (.c h0 .nil) (.nil) hn
theorem Kn (s:List UInt8) (o:List Nat) (c0:CO 61 [.str s] (.ret (.str (ak (af s))))) (l0:aC prog ap [] 35 (.block 0 (.loop (ac 0 (ae f63)))) ⟨[(0,.str (ak (af s))),(2,.nilS),(3,.nilS),(4,.int .i64 (((List.length (ak (af s))):Nat):Int)),(5,.dead),(6,.dead),(12,.dead),(20,.dead)],[],.dead,[]⟩ (.normal) ⟨[(3,.ref 0 0 0 o.length)],[(0,⟨(aj o),0,false,0,1,true⟩)],.dead,[]⟩):CO 63 [.str s] (.ret (.own (List.take (o.length*1) (aj o)) o.length 1)):=pK [0] 0 0 .nil (.l l0 (.c c0 .nil))
def EC (s:List UInt8) (o:List Nat) (e j k:Nat):St:=⟨[(0,.str s),(3,yq o),(4,.int .i64 (e:Int)),(5,.int .i64 ((af ((s.take k).drop j):Nat):Int)),(6,.int .i64 (k:Int))],yt o,.dead,[]⟩
def EB (s:List UInt8) (o:List Nat) (e d:Nat):St:=⟨[(0,.str s),(3,yq o),(4,.int .i64 (e:Int)),(5,.int .i64 (d:Int))],yt o,.dead,[]⟩
theorem Cu {s:List UInt8} {j k:Nat} (h:k<s.length) (hj:j≤k):af ((s.take (k+1)).drop j)=af ((s.take k).drop j)*256+(s.getD k 0).toNat:=by
 rw [List.take_add_one,List.getElem?_eq_getElem h,List.drop_append_of_le_length (by simp;omega),List.getD_eq_getElem?_getD,List.getElem?_eq_getElem h]
 exact gT _ _
theorem AH {s:List UInt8} {j k:Nat} (h:k≤j+3):af ((s.take k).drop j)<16777216:=by
 have h1:=iw ((s.take k).drop j)
 have h2:((s.take k).drop j).length≤3:=by simp;omega
 exact Nat.lt_of_lt_of_le h1 (Nat.le_trans (Nat.pow_le_pow_right (by omega) (show 8*((s.take k).drop j).length≤24 by omega)) (by decide))
theorem Hx {nt:Nat} (hn:35≤nt) (s:List UInt8) (o:List Nat) (e j:Nat) (hs:s.length<2^40) (he:e≤s.length) (hj:e≤j+3):∀ (n k:Nat),k+n=e→j≤k→aA prog ap [] nt (ac 2 (ae f63)) (fun _=> .exit 2) (EC s o e j) (EB s o e) k (af ((s.take e).drop j)):=by
 intro n
 induction n with
 | zero=>
  intro k hk hjk
  have hke:k=e:=by omega
  subst hke
  refine .done ?_
  unfold EC EB
  rcases Decidable.em (o= []) with rfl|hne
  ·exact OT hn s [] k _ k (by rw [aP];simp [lit])
  ·rw [db hne,dc hne]
   exact OP hn s o k _ k (by rw [aP];simp [lit])
 | succ n ih=>
  intro k hk hjk
  refine .next ?_ (ih (k+1) (by omega) (by omega))
  have hks:k<s.length:=by omega
  have h1:=AH (s:=s) (j:=j) (k:=k) (by omega)
  have h3:(s.getD k 0).toNat<256:=UInt8.toNat_lt _
  have h2:=Cu hks hjk
  unfold EC
  rw [h2]
  generalize hc:(s.getD k 0).toNat=c at*
  generalize af ((s.take k).drop j)=d at*
  clear ih h2
  have e1:IntKind.wrap .i64 ((d:Int)*((256:Nat):Int))=((d*256:Nat):Int):=by rw [bo]<;>omega
  have e4:(((d*256:Nat):Int))+(c:Int)=((d*256+c:Nat):Int):=by omega
  rcases Decidable.em (o= []) with rfl|hne
  ·have hb:=OQ hn s [] e d k
   simp (disch:=first|omega|(simp [ai,ar]<;>omega)) only [bI,aY,aP,bd,mV,aZ,aD,hc,e4,bG] at hb
   apply hb<;>first|exact True.intro|omega|assumption|exact rfl
  ·have hb:=OO hn s o e d k
   rw [db hne,dc hne]
   simp (disch:=first|omega|(simp [ai,ar]<;>omega)) only [bI,aY,aP,bd,mV,aZ,aD,hc,e4,bG] at hb
   apply hb<;>first|exact True.intro|omega|assumption|exact rfl
def Ct (s:List UInt8) (p:Int × List Nat):St:=⟨[(0,.str s),(3,yq p.2),(4,.int .i64 p.1)],yt p.2,.dead,[]⟩
def AG (o:List Nat):St:=⟨[(3,yq o)],yt o,.dead,[]⟩
theorem Hw {nt:Nat} (hn:35≤nt) (s:List UInt8) (o:List Nat) (e:Nat) (hs:s.length<2^38) (he:e≤s.length) (h0:0<e) (ho:o.length<2^39):
  ah prog ap [] nt (ac 0 (ae f63)) (Ct s ((e:Int),o)) .normal (Ct s ((e:Int) - 3,o++ [af ((s.take e).drop (e - 3))])):=by
 have hloop:=fun nt (hn:35≤nt)=>Hx hn s o e (e - 3) (by omega) he (by omega) (e - (e - 3)) (e - 3) (by omega) (Nat.le_refl _)
 have hw:IntKind.wrap .i64 ((e:Int) - ((3:Nat):Int))=(e:Int) - 3:=bo (by omega) (by omega)
 have hj:(if ((0:Nat):Int)>(e:Int) - 3 then ((0:Nat):Int) else (e:Int) - 3)=((e - 3:Nat):Int):=by
  split<;>omega
 have hd0:af ((s.take (e - 3)).drop (e - 3))=0:=by
  rw [List.drop_of_length_le (by simp;omega)];rfl
 have hdl:(List.drop (e - 3) (List.take e s)).length≤3:=by simp;omega
 unfold Ct
 generalize af ((s.take e).drop (e - 3))=d at*
 rcases Decidable.em (o= []) with rfl|hne
 ·have hb:=OI hn s [] (e:Int) d
  rw [hw,hj] at hb
  simp (disch:=first|omega|(simp [ai,ar]<;>omega)) only [aP,bd,aY] at hb
  simp only [List.nil_append,yq,yt,aj,List.map_cons,List.map_nil,List.length_cons,List.length_nil] at hb ⊢
  apply hb
  ·omega
  ·refine aA.blk hloop (by simp) rfl ?_ (aF.of ⟨rfl,rfl,rfl,rfl,trivial⟩)
   unfold EC
   rw [hd0]
   exact aF.of ⟨rfl,rfl,rfl,rfl,rfl,trivial⟩
 ·have hb:=Oi hn s o (e:Int) d
  rw [hw,hj] at hb
  rw [db hne,dc hne,db (dA _ _),dc (dA _ _)]
  simp (disch:=first|omega|(simp [ai,ar]<;>omega)) only [cI,aY,Nat.mul_one,bT,aP,bd,bP,List.take_length,dY] at hb
  simp only [List.length_append,List.length_singleton]
  apply hb<;>first|exact True.intro|omega|assumption|exact rfl|skip
  ·refine aA.blk hloop (by simp) rfl ?_ ?_
   ·unfold EC
    rw [hd0,db hne,dc hne]
    exact aF.of ⟨rfl,rfl,rfl,rfl,rfl,trivial⟩
   ·unfold EB
    rw [db hne,dc hne]
    exact aF.of ⟨rfl,rfl,rfl,rfl,trivial⟩
theorem Ew {nt:Nat} (hn:35≤nt) (s:List UInt8) (o:List Nat) (z:Int) (hz:z≤0):ah prog ap [] nt (ac 0 (ae f63)) (Ct s (z,o)) (.exit 0) (AG o):=by
 unfold Ct AG
 have hc:lit false (decide (((0:Nat):Int)<z))=true:=by simp [lit];exact hz
 rcases Decidable.em (o= []) with rfl|hne
 ·exact OJ hn s [] z 0 hc
 ·rw [db hne,dc hne]
  exact Oj hn s o z 0 hc
theorem Mq {s:List UInt8} {e:Nat} (he:e≤s.length):af (s.take e)=16777216*af (s.take (e - 3))+af ((s.take e).drop (e - 3)):=by
 have happ:∀ (b a:List UInt8),af (a++b)=af a*256^b.length+af b:=by
  intro b a
  unfold af
  rw [List.foldl_append,ut];rfl
 have hs:s.take e=s.take (e - 3)++(s.take e).drop (e - 3):=by
  have h1:=List.take_append_drop (e - 3) (s.take e)
  rw [List.take_take,Nat.min_eq_left (by omega)] at h1
  exact h1.symm
 have h2:=happ ((s.take e).drop (e - 3)) (s.take (e - 3))
 rw [← hs] at h2
 rw [h2]
 rcases Nat.lt_or_ge e 3 with h3|h3
 ·have:e - 3=0:=by omega
  rw [this];simp [af]
 ·have:((s.take e).drop (e - 3)).length=3:=by simp;omega
  rw [this,Nat.mul_comm,show 256^3=16777216 from rfl]
theorem Ex {nt:Nat} (hn:35≤nt) (s:List UInt8) (hs:s.length<2^38) (hR:nR s=true):∀ (n e:Nat) (o:List Nat),e<n→e≤s.length→o.length+e<2^39→aA prog ap [] nt (ac 0 (ae f63)) (fun _=> .exit 0) (Ct s) AG ((e:Int),o) (o++au (af (s.take e))):=by
 intro n
 induction n with
 |zero=>intro e o h;omega
 | succ n ih=>
  intro e o h he ho
  rcases Nat.eq_zero_or_pos e with rfl|h0
  ·have:af (s.take 0)=0:=rfl
   rw [this,cT,List.append_nil]
   exact .done (Ew hn s o _ (by omega))
  ·have hv:0<af (s.take e):=by
    cases s with
    |nil=>simp at he;omega
    | cons c r=>
     have hc:c ≠ 0:=by simpa [nR] using hR
     have hcp:0<c.toNat:=by
      rcases Nat.eq_zero_or_pos c.toNat with h|h
      ·exact absurd (by apply UInt8.toNat_inj.1;simpa using h) hc
      ·exact h
     obtain ⟨e',rfl⟩:∃ e',e=e'+1:=⟨e - 1,by omega⟩
     rw [List.take_succ_cons,dP]
     have:=Nat.mul_pos hcp (show 0<256^(r.take e').length from Nat.pow_pos (by omega))
     omega
   have hch:=Mq he
   have hd:=AH (s:=s) (j:=e - 3) (k:=e) (by omega)
   have hstep:=Hw hn s o e hs he h0 (by omega)
   rw [gZ hv,show af (s.take e) % 16777216=af ((s.take e).drop (e - 3)) by omega,show af (s.take e) / 16777216=af (s.take (e - 3)) by omega]
   rcases Nat.lt_or_ge e 3 with h3|h3
   ·have e3:e - 3=0:=by omega
    have hz:af (s.take (e - 3))=0:=by rw [e3];rfl
    rw [hz,cT]
    exact .next hstep (.done (Ew hn s _ _ (by omega)))
   ·have hnext:=ih (e - 3) (o++ [af ((s.take e).drop (e - 3))]) (by omega) (by omega) (by simp;omega)
    rw [List.append_assoc] at hnext
    rw [show ((e:Int) - 3)=((e - 3:Nat):Int) by omega] at hstep
    exact .next hstep hnext
theorem I1 (s:List UInt8) (hs:s.length<2^37):CO 63 [.str s] (.ret (.sl (aj (au (af s))) (au (af s)).length false)):=by
 have hc:=dl s (by omega)
 have hlen:(ak (af s)).length≤s.length:=fX (Nat.le_refl _)
 have hvn:=aT (af s)
 have hloop:=fun nt (hn:35≤nt)=>Ex hn (ak (af s)) (by omega) (qx _) ((ak (af s)).length+1) (ak (af s)).length [] (by omega) (Nat.le_refl _) (by simp;omega)
 rw [List.take_length,hvn,List.nil_append] at hloop
 generalize hd:au (af s)=o at*
 rcases Decidable.em (o= []) with rfl|hne
 ·have h:=Ko s [] hc (aA.blk hloop (by simp) rfl (aF.of ⟨rfl,rfl,rfl,trivial⟩) (aF.of ⟨rfl,trivial⟩))
  exact h.out (eI.ret rfl rfl (bp.nilS false rfl))
 ·have h:=(Kn s o hc (aA.blk hloop (by simp) rfl (aF.of ⟨rfl,rfl,rfl,trivial⟩) (by unfold AG;rw [db hne,dc hne];exact aF.of ⟨rfl,trivial⟩))).thaw (by simp)
  simp only [jz,thaw,Nat.mul_one,bP,List.take_length] at h
  exact h.out (eI.sl1 _ _ _)
theorem Sf (s t:List UInt8) (x y q r:Nat) (h0:(!((y:Int)==((0:Nat):Int)))=true) (h1:lit false ((((List.length (ak (af t))):Nat):Int)==((0:Nat):Int))=true) (c0:CO 61 [.str t] (.ret (.str (ak (af t))))) (c1:CO 62 [.str s,.int .i64 7] (.ret (.tup [.int .i64 (x:Int),.bool true]))) (c2:CO 62 [.str (ak (af t)),.int .i64 7] (.ret (.tup [.int .i64 (y:Int),.bool true]))) (c3:CO 39 [.int .i64 (IntKind.wrap .i64 (Int.tdiv (x:Int) (y:Int)))] (.ret (.str (ak q)))) (c4:CO 39 [.int .i64 (Int.tmod (x:Int) (y:Int))] (.ret (.str (ak r)))):CO 105 [.str s,.str t] (.ret (.tup [.str (ak q),.str (ak r),.bool true])):=pK [0] 3 6 (.c h0 (.c h0 (.k 2 h1 .nil))) (.c c4 (.c c3 (.c c2 (.c c1 (.c c0 .nil)))))
theorem Sd (s t:List UInt8) (x y q r m:Nat) (Q:List Nat) (zy:Int) (b2:Bool) (h0:(decide (((0:Nat):Int)≤(((au (af s)).length:Nat):Int)))=true) (h1:(decide ((((au (af s)).length:Nat):Int)=(((au (af s)).length:Nat):Int)))=true) (h2:(decide ((((au (af s)).length:Nat):Int)≤((1099511627776:Nat):Int)))=true) (h3:lit false ((((List.length (ak (af t))):Nat):Int)==((0:Nat):Int))=true) (c0:CO 61 [.str t] (.ret (.str (ak (af t))))) (c1:CO 62 [.str s,.int .i64 7] (.ret (.tup [.int .i64 0,.bool false]))) (c2:CO 62 [.str (ak (af t)),.int .i64 7] (.ret (.tup [.int .i64 zy,.bool b2]))) (c3:CO 63 [.str s] (.ret (.sl (aj (au (af s))) (au (af s)).length false))) (c4:CO 63 [.str (ak (af t))] (.ret (.sl (aj (au (af (ak (af t))))) (au (af (ak (af t)))).length false))) (l0:aC prog ap [] 87 (.block 0 (.loop (ac 0 (ae f105)))) ⟨[(0,.str s),(1,.str (ak (af t))),(4,.str []),(5,.str []),(6,.bool false),(7,.int .i64 0),(8,.bool false),(9,.int .i64 zy),(10,.bool b2),(11,.sl (aj (au (af s))) (au (af s)).length false),(12,.sl (aj (au (af (ak (af t))))) (au (af (ak (af t)))).length false),(13,.ref 0 0 0 (Int.toNat (((au (af s)).length:Nat):Int))),(14,.nilS),(15,.int .i64 (IntKind.wrap .i64 ((((au (af s)).length:Nat):Int) - ((1:Nat):Int)))),(20,.bool ((((List.length (ak (af t))):Nat):Int)==((0:Nat):Int))),(34,.bool false),(54,.dead),(68,.dead)],[(0,⟨(dK (Int.toNat (((au (af s)).length:Nat):Int)) [.int .i64 0]),0,false,0,1,true⟩)],.dead,[]⟩ (.normal) ⟨[(13,.ref 0 0 0 m),(14,.sl (aj (au r)) (au r).length false)],[(0,⟨(aj Q),0,false,0,1,true⟩)],.dead,[]⟩) (c5:CO 64 [.sl (List.take (m*1) (aj Q)) m true] (.ret (.str (ak q)))) (c6:CO 64 [.sl (aj (au r)) (au r).length false] (.ret (.str (ak r)))):CO 105 [.str s,.str t] (.ret (.tup [.str (ak q),.str (ak r),.bool true])):=pK [0] 3 0 (.c h0 (.c h1 (.c h2 (.k 2 h3 .nil)))) (.c c6 (.c c5 (.l l0 (.c c4 (.c c3 (.c c2 (.c c1 (.c c0 .nil))))))))
theorem Se (s t:List UInt8) (x y q r m:Nat) (Q:List Nat) (zy:Int) (b2:Bool) (h0:(decide (((0:Nat):Int)≤(((au (af s)).length:Nat):Int)))=true) (h1:(decide ((((au (af s)).length:Nat):Int)=(((au (af s)).length:Nat):Int)))=true) (h2:(decide ((((au (af s)).length:Nat):Int)≤((1099511627776:Nat):Int)))=true) (h3:lit false ((((List.length (ak (af t))):Nat):Int)==((0:Nat):Int))=true) (c0:CO 61 [.str t] (.ret (.str (ak (af t))))) (c1:CO 62 [.str s,.int .i64 7] (.ret (.tup [.int .i64 (x:Int),.bool true]))) (c2:CO 62 [.str (ak (af t)),.int .i64 7] (.ret (.tup [.int .i64 0,.bool false]))) (c3:CO 63 [.str s] (.ret (.sl (aj (au (af s))) (au (af s)).length false))) (c4:CO 63 [.str (ak (af t))] (.ret (.sl (aj (au (af (ak (af t))))) (au (af (ak (af t)))).length false))) (l0:aC prog ap [] 87 (.block 0 (.loop (ac 0 (ae f105)))) ⟨[(0,.str s),(1,.str (ak (af t))),(4,.str []),(5,.str []),(6,.bool false),(7,.int .i64 (x:Int)),(8,.bool true),(9,.int .i64 0),(10,.bool false),(11,.sl (aj (au (af s))) (au (af s)).length false),(12,.sl (aj (au (af (ak (af t))))) (au (af (ak (af t)))).length false),(13,.ref 0 0 0 (Int.toNat (((au (af s)).length:Nat):Int))),(14,.nilS),(15,.int .i64 (IntKind.wrap .i64 ((((au (af s)).length:Nat):Int) - ((1:Nat):Int)))),(20,.bool ((((List.length (ak (af t))):Nat):Int)==((0:Nat):Int))),(34,.bool false),(54,.dead),(68,.dead)],[(0,⟨(dK (Int.toNat (((au (af s)).length:Nat):Int)) [.int .i64 0]),0,false,0,1,true⟩)],.dead,[]⟩ (.normal) ⟨[(13,.ref 0 0 0 m),(14,.sl (aj (au r)) (au r).length false)],[(0,⟨(aj Q),0,false,0,1,true⟩)],.dead,[]⟩) (c5:CO 64 [.sl (List.take (m*1) (aj Q)) m true] (.ret (.str (ak q)))) (c6:CO 64 [.sl (aj (au r)) (au r).length false] (.ret (.str (ak r)))):CO 105 [.str s,.str t] (.ret (.tup [.str (ak q),.str (ak r),.bool true])):=pK [0] 3 2 (.c h0 (.c h1 (.c h2 (.k 2 h3 .nil)))) (.c c6 (.c c5 (.l l0 (.c c4 (.c c3 (.c c2 (.c c1 (.c c0 .nil))))))))
theorem Sh {nt:Nat} (hn:87≤nt) (x y r w q p r2 m k:Nat) (c:Int) (Q:List Nat) (h0:(chk (.int .i64) (List.headD (List.drop ((0+(Int.toNat (k:Int)))*1) (List.take ((0+(Int.toNat (k:Int)))*1) (aj Q)++ [.int .i64 (q:Int)]++List.drop (((0+(Int.toNat (k:Int)))*1)+1) (aj Q))) .dead))=true) (h1:(decide (((0:Nat):Int)≤(k:Int)))=true) (h2:(decide ((k:Int)<(m:Int)))=true) (h3:(Nat.ble (((0+(Int.toNat (k:Int)))*1)+1) (List.length (aj Q)))=true) (h4:lit true (decide (((0:Nat):Int)≤c))=true) (h5:(Nat.beq (List.length (aj (au r))) ((au r).length*1))=true) (h6:(Nat.ble (1+(au r).length) 1099511627776)=true) (h7:(chk (.int .i64) (List.headD (List.drop ((Int.toNat (k:Int))*1) (aj (au x))) .dead))=true) (h8:(decide ((k:Int)<(((au x).length:Nat):Int)))=true) (h9:lit true (decide (((0:Nat):Int)≤(k:Int)))=true) (c0:CO 123 [.sl (List.take ((1+(au r).length)*1) ([.int .i64 (AV.toInt (List.headD (List.drop ((Int.toNat (k:Int))*1) (aj (au x))) .dead))]++(aj (au r)))) (1+(au r).length) true] (.ret (.sl (aj (au w)) (au w).length false))) (c1:CO 124 [.sl (aj (au w)) (au w).length false,.sl (aj (au y)) (au y).length false] (.ret (.int .i64 c))) (c2:CO 125 [.sl (aj (au w)) (au w).length false,.sl (aj (au y)) (au y).length false] (.ret (.int .i64 (q:Int)))) (c3:CO 127 [.sl (aj (au y)) (au y).length false,.int .i64 (AV.toInt (List.headD (List.drop ((0+(Int.toNat (k:Int)))*1) (List.take ((0+(Int.toNat (k:Int)))*1) (aj Q)++ [.int .i64 (q:Int)]++List.drop (((0+(Int.toNat (k:Int)))*1)+1) (aj Q))) .dead))] (.ret (.sl (aj (au p)) (au p).length true))) (c4:CO 126 [.sl (aj (au w)) (au w).length false,.sl (aj (au p)) (au p).length true] (.ret (.sl (aj (au r2)) (au r2).length false))):ah prog ap [] nt (ac 0 (ae f105)) ⟨[(11,.sl (aj (au x)) (au x).length false),(12,.sl (aj (au y)) (au y).length false),(13,.ref 0 0 0 m),(14,.sl (aj (au r)) (au r).length false),(15,.int .i64 (k:Int))],[(0,⟨(aj Q),0,false,0,1,true⟩)],.dead,[]⟩ (.normal) ⟨[(11,.sl (aj (au x)) (au x).length false),(12,.sl (aj (au y)) (au y).length false),(13,.ref 0 0 0 m),(14,.sl (aj (au r2)) (au r2).length false),(15,.int .i64 (IntKind.wrap .i64 ((k:Int) - ((1:Nat):Int))))],[(0,⟨(List.take ((0+(Int.toNat (k:Int)))*1) (aj Q)++ [.int .i64 (q:Int)]++List.drop (((0+(Int.toNat (k:Int)))*1)+1) (aj Q)),0,false,0,1,true⟩)],.dead,[]⟩:=pJ 105 [] 2 3 (.c h0 (.c h1 (.c h2 (.c h3 (.c h1 (.c h2 (.c h4 (.c h5 (.c h6 (.k 2 h7 (.c h1 (.c h8 (.c h9 .nil))))))))))))) (.c c4 (.c c3 (.c c2 (.c c1 (.c c0 .nil))))) hn
theorem Si {nt:Nat} (hn:87≤nt) (x y r w q p r2 m k:Nat) (c:Int) (Q:List Nat) (h0:lit false (decide (((0:Nat):Int)≤c))=true) (h1:(Nat.beq (List.length (aj (au r))) ((au r).length*1))=true) (h2:(Nat.ble (1+(au r).length) 1099511627776)=true) (h3:(chk (.int .i64) (List.headD (List.drop ((Int.toNat (k:Int))*1) (aj (au x))) .dead))=true) (h4:(decide (((0:Nat):Int)≤(k:Int)))=true) (h5:(decide ((k:Int)<(((au x).length:Nat):Int)))=true) (h6:lit true (decide (((0:Nat):Int)≤(k:Int)))=true) (c0:CO 123 [.sl (List.take ((1+(au r).length)*1) ([.int .i64 (AV.toInt (List.headD (List.drop ((Int.toNat (k:Int))*1) (aj (au x))) .dead))]++(aj (au r)))) (1+(au r).length) true] (.ret (.sl (aj (au w)) (au w).length false))) (c1:CO 124 [.sl (aj (au w)) (au w).length false,.sl (aj (au y)) (au y).length false] (.ret (.int .i64 c))):ah prog ap [] nt (ac 0 (ae f105)) ⟨[(11,.sl (aj (au x)) (au x).length false),(12,.sl (aj (au y)) (au y).length false),(13,.ref 0 0 0 m),(14,.sl (aj (au r)) (au r).length false),(15,.int .i64 (k:Int))],[(0,⟨(aj Q),0,false,0,1,true⟩)],.dead,[]⟩ (.normal) ⟨[(11,.sl (aj (au x)) (au x).length false),(12,.sl (aj (au y)) (au y).length false),(13,.ref 0 0 0 m),(14,.sl (aj (au w)) (au w).length false),(15,.int .i64 (IntKind.wrap .i64 ((k:Int) - ((1:Nat):Int))))],[(0,⟨(aj Q),0,false,0,1,true⟩)],.dead,[]⟩:=pJ 105 [] 2 1 (.c h0 (.c h1 (.c h2 (.k 2 h3 (.c h4 (.c h5 (.c h6 .nil))))))) (.c c1 (.c c0 .nil)) hn
theorem Pl {nt:Nat} (hn:87≤nt) (x y r w q p r2 m k:Nat) (c:Int) (Q:List Nat):ah prog ap [] nt (ac 0 (ae f105)) ⟨[(11,.sl (aj (au x)) (au x).length false),(12,.sl (aj (au y)) (au y).length false),(13,.ref 0 0 0 m),(14,.sl (aj (au r)) (au r).length false),(15,.int .i64 (-1))],[(0,⟨(aj Q),0,false,0,1,true⟩)],.dead,[]⟩ (.exit 0) ⟨[(13,.ref 0 0 0 m),(14,.sl (aj (au r)) (au r).length false)],[(0,⟨(aj Q),0,false,0,1,true⟩)],.dead,[]⟩:=pJ 105 [] 1 0 (.n 1 .nil) (.nil) hn
def oJ (x y m k:Nat):List Nat:=(List.range m).map fun i=>if i<k then 0 else x / 16777216^i / y % 16777216
theorem mC (x y m k:Nat):(oJ x y m k).length=m:=by simp [oJ]
theorem HE {x y m k:Nat} (hk:k<m):(oJ x y m (k+1)).set k (x / 16777216^k / y % 16777216)=oJ x y m k:=by
 apply List.ext_getElem?
 intro i
 rw [List.getElem?_set,mC]
 unfold oJ
 by_cases hi:k=i
 ·subst hi;simp [hk]
 ·rw [if_neg hi]
  by_cases him:i<m
  ·simp only [List.getElem?_map,List.getElem?_range him,Option.map_some]
   by_cases h1:i<k
   ·rw [if_pos (by omega),if_pos h1]
   ·rw [if_neg (by omega),if_neg h1]
  ·rw [List.getElem?_eq_none (by simp;omega),List.getElem?_eq_none (by simp;omega)]
theorem uH (x y m:Nat):oJ x y m m=List.replicate m 0:=by
 unfold oJ
 apply List.ext_getElem?
 intro i
 by_cases him:i<m
 ·simp [him]
 ·rw [List.getElem?_eq_none (by simp;omega),List.getElem?_eq_none (by simp;omega)]
theorem HC (x y m k:Nat):bM (oJ x y m k):=by
 intro d hd
 obtain ⟨i,_,rfl⟩:=List.mem_map.1 hd
 show (if i<k then 0 else _)<_
 split<;>omega
theorem FF (z:Nat):∀ m,cJ ((List.range m).map fun i=>z / 16777216^i % 16777216)=z % 16777216^m:=by
 intro m
 induction m with
 |zero=>simp [cJ,Nat.mod_one]
 |succ m ih=>
  rw [List.range_succ,List.map_append,sQ,ih,List.length_map,List.length_range,Nat.pow_succ,Nat.mod_mul]
  simp only [List.map_cons,List.map_nil,cJ,Nat.mul_zero,Nat.add_zero]
theorem HF {x y m:Nat} (h:x / y<16777216^m):cJ (oJ x y m 0)=x / y:=by
 have e:oJ x y m 0=(List.range m).map fun i=>x / y / 16777216^i % 16777216:=by
  unfold oJ
  apply List.map_congr_left
  intro i _
  rw [if_neg (by omega),Nat.div_div_eq_div_mul,Nat.div_div_eq_div_mul,Nat.mul_comm]
 rw [e,FF,Nat.mod_eq_of_lt h]
theorem DN:∀ (k x:Nat),(au x).getD k 0=x / 16777216^k % 16777216:=by
 intro k
 induction k with
 |zero=>
  intro x
  rcases Nat.eq_zero_or_pos x with rfl|h
  ·rw [cT];rfl
  ·rw [gZ h];simp
 |succ k ih=>
  intro x
  rcases Nat.eq_zero_or_pos x with rfl|h
  ·rw [cT];simp
  ·rw [gZ h,List.getD_cons_succ,ih,Nat.div_div_eq_div_mul,Nat.pow_succ,Nat.mul_comm]
theorem Aj {V R' Q' x H:Nat} (hV:0<V) (h:H=V*Q'+R'):(x+16777216*H) / V=16777216*Q'+(x+16777216*R') / V∧(x+16777216*H) % V=(x+16777216*R') % V:=by
 subst h
 have e:x+16777216*(V*Q'+R')=x+16777216*R'+V*(16777216*Q'):=by
  rw [Nat.mul_add,Nat.mul_left_comm];omega
 rw [e]
 constructor
 ·rw [Nat.add_mul_div_left _ _ hV,Nat.add_comm]
 ·rw [Nat.add_mul_mod_self_left]
def Cy (x y m k:Nat):St:=⟨[(11,.sl (aj (au x)) (au x).length false),(12,.sl (aj (au y)) (au y).length false),(13,.ref 0 0 0 m),(14,.sl (aj (au (x / 16777216^k % y))) (au (x / 16777216^k % y)).length false),(15,.int .i64 ((k:Int) - 1))],[(0,⟨aj (oJ x y m k),0,false,0,1,true⟩)],.dead,[]⟩
theorem Sk {nt:Nat} (hn:87≤nt) (x y r w q p r2 m k d:Nat) (c:Int) (Q Q2:List Nat) (hk:k<(au x).length) (hd:(au x).getD k 0=d) (hQ:Q.length=m) (hkm:k<m) (hm:m<2^40) (hrl:(au r).length<2^39) (hset:Q.set k q=Q2) (hc:0≤c)
  (c0:CO 123 [.sl (aj (d::au r)) (1+(au r).length) true] (.ret (.sl (aj (au w)) (au w).length false)))
  (c1:CO 124 [.sl (aj (au w)) (au w).length false,.sl (aj (au y)) (au y).length false] (.ret (.int .i64 c)))
  (c2:CO 125 [.sl (aj (au w)) (au w).length false,.sl (aj (au y)) (au y).length false] (.ret (.int .i64 (q:Int))))
  (c3:CO 127 [.sl (aj (au y)) (au y).length false,.int .i64 (q:Int)] (.ret (.sl (aj (au p)) (au p).length true)))
  (c4:CO 126 [.sl (aj (au w)) (au w).length false,.sl (aj (au p)) (au p).length true] (.ret (.sl (aj (au r2)) (au r2).length false))):
  ah prog ap [] nt (ac 0 (ae f105)) ⟨[(11,.sl (aj (au x)) (au x).length false),(12,.sl (aj (au y)) (au y).length false),(13,.ref 0 0 0 m),(14,.sl (aj (au r)) (au r).length false),(15,.int .i64 (k:Int))],[(0,⟨aj Q,0,false,0,1,true⟩)],.dead,[]⟩ .normal
   ⟨[(11,.sl (aj (au x)) (au x).length false),(12,.sl (aj (au y)) (au y).length false),(13,.ref 0 0 0 m),(14,.sl (aj (au r2)) (au r2).length false),(15,.int .i64 ((k:Int) - 1))],[(0,⟨aj Q2,0,false,0,1,true⟩)],.dead,[]⟩:=by
 have hb:=Sh hn x y r w q p r2 m k c Q
 have ew:IntKind.wrap .i64 ((k:Int) - ((1:Nat):Int))=(k:Int) - 1:=bo (by omega) (by omega)
 have hset':=GR (l:=Q) (j:=k) (by omega) q
 rw [hset] at hset'
 have hg2:Q2.getD k 0=q:=by rw [← hset,List.getD_eq_getElem?_getD,List.getElem?_set_self (by omega)];rfl
 have hl2:Q2.length=m:=by rw [← hset];simp [hQ]
 have htk:List.take (1+(au r).length) (aj (d::au r))=aj (d::au r):=by rw [bP,List.take_of_length_le (by simp;omega)]
 have hz:(((0:Nat):Int)≤c)=True:=by simp [hc]
 simp (disch:=first|omega|(simp [ai,ar]<;>omega)) only [aD,Nat.zero_add,Nat.mul_one,hset',cQ,hg2,bZ,bI,aY,aP,bT,cI,hz,decide_true,bd,vG,hd,aV,wY,htk,ew] at hb
 apply hb<;>first|exact True.intro|omega|assumption|exact rfl
theorem Sj {nt:Nat} (hn:87≤nt) (x y r w m k d:Nat) (c:Int) (Q:List Nat) (hk:k<(au x).length) (hd:(au x).getD k 0=d) (hQ:Q.length=m) (hkm:k<m) (hm:m<2^40) (hrl:(au r).length<2^39) (hc:c<0)
  (c0:CO 123 [.sl (aj (d::au r)) (1+(au r).length) true] (.ret (.sl (aj (au w)) (au w).length false)))
  (c1:CO 124 [.sl (aj (au w)) (au w).length false,.sl (aj (au y)) (au y).length false] (.ret (.int .i64 c))):
  ah prog ap [] nt (ac 0 (ae f105)) ⟨[(11,.sl (aj (au x)) (au x).length false),(12,.sl (aj (au y)) (au y).length false),(13,.ref 0 0 0 m),(14,.sl (aj (au r)) (au r).length false),(15,.int .i64 (k:Int))],[(0,⟨aj Q,0,false,0,1,true⟩)],.dead,[]⟩ .normal
   ⟨[(11,.sl (aj (au x)) (au x).length false),(12,.sl (aj (au y)) (au y).length false),(13,.ref 0 0 0 m),(14,.sl (aj (au w)) (au w).length false),(15,.int .i64 ((k:Int) - 1))],[(0,⟨aj Q,0,false,0,1,true⟩)],.dead,[]⟩:=by
 have hb:=Si hn x y r w 0 0 0 m k c Q
 have ew:IntKind.wrap .i64 ((k:Int) - ((1:Nat):Int))=(k:Int) - 1:=bo (by omega) (by omega)
 have htk:List.take (1+(au r).length) (aj (d::au r))=aj (d::au r):=by rw [bP,List.take_of_length_le (by simp;omega)]
 have hz:(((0:Nat):Int)≤c)=False:=by simp [hc]
 simp (disch:=first|omega|(simp [ai,ar]<;>omega)) only [hz,decide_false,bO,Bool.not_false,bT,Nat.mul_one,vG,decide_true,cI,aY,aD,cQ,hd,bZ,bI,aP,bd,aV,wY,htk,ew] at hb
 apply hb<;>first|exact True.intro|omega|assumption|exact rfl
theorem HA (x y m k:Nat) (hy:0<y) (hk:k<m):∃ d r w:Nat,(au x).getD k 0=d∧x / 16777216^(k+1) % y=r∧d+16777216*r=w∧d<16777216∧r<y∧x / 16777216^k % y=w % y∧(oJ x y m (k+1)).set k (w / y)=oJ x y m k∧(oJ x y m (k+1)).getD k 0=0:=by
 have hdl:=Nat.mod_lt (x / 16777216^k) (show 0<16777216 by omega)
 have hrl:=Nat.mod_lt (x / 16777216^(k+1)) hy
 refine ⟨x / 16777216^k % 16777216,x / 16777216^(k+1) % y,_,DN k x,rfl,rfl,hdl,hrl, ?_, ?_, ?_⟩
 ·have hdm:=Nat.div_add_mod (x / 16777216^(k+1)) y
  obtain ⟨_,v2⟩:=Aj (x:=x / 16777216^k % 16777216) hy hdm.symm
  have hH:x / 16777216^k % 16777216+16777216*(x / 16777216^(k+1))=x / 16777216^k:=by
   rw [Nat.pow_succ,← Nat.div_div_eq_div_mul];omega
  rw [hH] at v2
  exact v2
 ·have hdm:=Nat.div_add_mod (x / 16777216^(k+1)) y
  obtain ⟨v1,_⟩:=Aj (x:=x / 16777216^k % 16777216) hy hdm.symm
  have hH:x / 16777216^k % 16777216+16777216*(x / 16777216^(k+1))=x / 16777216^k:=by
   rw [Nat.pow_succ,← Nat.div_div_eq_div_mul];omega
  rw [hH] at v1
  have hset:=HE (x:=x) (y:=y) hk
  rw [v1] at hset
  have hwl:x / 16777216^k % 16777216+16777216*(x / 16777216^(k+1) % y)<y*16777216:=by omega
  have hql:(x / 16777216^k % 16777216+16777216*(x / 16777216^(k+1) % y)) / y<16777216:=by rw [Nat.div_lt_iff_lt_mul hy,Nat.mul_comm 16777216 y];exact hwl
  rw [Nat.mul_add_mod,Nat.mod_eq_of_lt hql] at hset
  exact hset
 ·unfold oJ;rw [List.getD_eq_getElem?_getD];simp [hk]
theorem BT {w y:Nat} (h:w<y*16777216):(au w).length≤(au y).length+1:=by
 apply ql
 have h1:=ld y
 rw [Nat.pow_succ]
 exact Nat.lt_trans h (Nat.mul_lt_mul_of_pos_right h1 (by omega))
theorem HB {nt:Nat} (hn:87≤nt) (x y m k:Nat) (hy:0<y) (hm:(au x).length=m) (hk:k<m) (hxl:m<2^35) (hyl:(au y).length<2^34):ah prog ap [] nt (ac 0 (ae f105)) (Cy x y m (k+1)) .normal (Cy x y m k):=by
 obtain ⟨d,r,w,hd,hr,hw,hdl,hrl,hmod,hset,hq0⟩:=HA x y m k hy hk
 have hQl:=mC x y m (k+1)
 unfold Cy
 rw [show (((k+1:Nat):Int) - 1)=(k:Int) by omega,hr,hmod]
 have hwl:w<y*16777216:=by omega
 have hrm:=jk (Nat.le_of_lt hrl)
 have htr:=nL (d::au r) true (by simp;omega)
 rw [BA (bM.cons hdl (bM.dig r))] at htr
 simp only [cJ,eH,hw,List.length_cons] at htr
 rw [Nat.add_comm (au r).length 1] at htr
 have htr2:=htr.out (eI.sl1 _ _ _)
 have hql:w / y<16777216:=by rw [Nat.div_lt_iff_lt_mul hy,Nat.mul_comm];exact hwl
 have hwd:=BT hwl
 have hcm:=AO (au w) (au y) false false (bM.dig _) (bM.dig _) (by omega) (by omega)
 have hcs:=ui w y
 generalize oJ x y m k=Q2 at*
 generalize oJ x y m (k+1)=Q1 at*
 by_cases hc:0≤wM (au w) (au y)
 ·have hyw:=hcs.1.1 hc
  have hdig:=DQ w y false false hy hwl (by omega) (by omega)
  have htm:=xW y (w / y) false hql (by omega)
  have hle:y*(w / y)≤w:=Nat.mul_div_le w y
  have hmi:=Ei w (y*(w / y)) false true hle (by omega)
  have hmd:w - y*(w / y)=w % y:=by have:=Nat.div_add_mod w y;omega
  rw [hmd] at hmi
  exact Sk hn x y r w (w / y) (y*(w / y)) (w % y) m k d _ Q1 Q2 (by omega) hd hQl hk (by omega) (by omega) hset hc htr2 hcm hdig htm hmi
 ·have hyw:w<y:=Nat.lt_of_not_le (fun h=>hc (hcs.1.2 h))
  have hw0:w / y=0:=Nat.div_eq_of_lt hyw
  rw [Nat.mod_eq_of_lt hyw]
  rw [hw0] at hset
  have hsame:Q1.set k 0=Q1:=by
   apply List.ext_getElem?
   intro i
   rw [List.getElem?_set]
   by_cases hi:k=i
   ·subst hi
    rw [List.getD_eq_getElem?_getD,List.getElem?_eq_getElem (by omega)] at hq0
    rw [if_pos rfl,if_pos (by omega),List.getElem?_eq_getElem (by omega)]
    simpa using hq0.symm
   ·rw [if_neg hi]
  rw [hsame] at hset
  subst hset
  exact Sj hn x y r w m k d _ Q1 (by omega) hd hQl hk (by omega) (by omega) (by omega) htr2 hcm
def AL (x y m k:Nat):St:=⟨[(13,.ref 0 0 0 m),(14,.sl (aj (au (x / 16777216^k % y))) (au (x / 16777216^k % y)).length false)],[(0,⟨aj (oJ x y m k),0,false,0,1,true⟩)],.dead,[]⟩
theorem Hz {nt:Nat} (hn:87≤nt) (x y m:Nat) (hy:0<y) (hm:(au x).length=m) (hxl:m<2^35) (hyl:(au y).length<2^34):∀ k,k≤m→aA prog ap [] nt (ac 0 (ae f105)) (fun _=> .exit 0) (Cy x y m) (AL x y m) k 0:=by
 intro k
 induction k with
 |zero=>
  intro _
  refine .done ?_
  unfold AL
  have h:=Pl hn x y (x / 16777216^0 % y) 0 0 0 0 m 0 0 (oJ x y m 0)
  exact h
 |succ k ih=>exact fun hk=> .next (HB hn x y m k hy hm (by omega) hxl hyl) (ih (by omega))
theorem uO {s:List UInt8}:(au (af s)).length≤s.length:=by
 apply ql
 have h:=iw s
 refine Nat.lt_of_lt_of_le h ?_
 rw [show (16777216:Nat)=2^24 from rfl,← Nat.pow_mul]
 exact Nat.pow_le_pow_right (by omega) (by omega)
theorem vU (s t:List UInt8) (hs:s.length<2^33) (ht:t.length<2^33) (h0:0<af t):CO 105 [.str s,.str t] (.ret (.tup [.str (ak (af s / af t)),.str (ak (af s % af t)),.bool true])):=by
 have hc:=dl t (by omega)
 have hvn:=aT (af t)
 have htl:(ak (af t)).length≤t.length:=fX (Nat.le_refl _)
 have hne:ak (af t) ≠ []:=fun h=>by have:=gm.1 h;omega
 have hnl:0<(ak (af t)).length:=by
  cases hq:ak (af t) with
  |nil=>exact absurd hq hne
  |cons _ _=>simp
 have hnz:((ak (af t)).length=0)=False:=by simp;exact hne
 have e7:((7:Nat):Int)=7:=rfl
 by_cases hb:af s<2^(8*7)∧af t<2^(8*7)
 ·have hsm1:=gu s 7 (by omega) (by omega) hb.1
  have hsm2:=gu (ak (af t)) 7 (by omega) (by omega) (by rw [hvn];exact hb.2)
  rw [hvn] at hsm2
  have hx63:af s<9223372036854775808:=Nat.lt_of_lt_of_le hb.1 (by decide)
  have hy63:af t<9223372036854775808:=Nat.lt_of_lt_of_le hb.2 (by decide)
  have q1:=Nat.div_le_self (af s) (af t)
  have q2:=Nat.mod_le (af s) (af t)
  have o1:=ik (af s / af t) (by omega)
  have o2:=ik (af s % af t) (by omega)
  have h:=Sf s t (af s) (af t) (af s / af t) (af s % af t)
  have ht0:(af t=0)=False:=by simp;omega
  clear hb hs
  simp (disch:=first|omega|(simp [ai,ar]<;>omega)) only [eP,ht0,decide_false,Bool.not_false,hnz,bO,kz,aZ,qV] at h
  apply h<;>first|exact True.intro|omega|assumption|exact rfl
 ·have hof1:=I1 s (by omega)
  have hof2:=I1 (ak (af t)) (by omega)
  rw [hvn] at hof2
  have hxl:=uO (s:=s)
  have hyl:=uO (s:=t)
  have hloop:=fun nt (hn:87≤nt)=>Hz hn (af s) (af t) _ h0 rfl (by omega) (by omega) _ (Nat.le_refl _)
  have hQl:=mC (af s) (af t) (au (af s)).length 0
  have hqv:cJ (oJ (af s) (af t) (au (af s)).length 0)=af s / af t:=HF (Nat.lt_of_le_of_lt (Nat.div_le_self _ _) (ld _))
  have hn1:=xx (oJ (af s) (af t) (au (af s)).length 0) true (by omega) (HC _ _ _ _)
  rw [hqv,hQl] at hn1
  have hr0:af s / 16777216^0 % af t=af s % af t:=by rw [Nat.pow_zero,Nat.div_one]
  have hrm:=jk (Nat.le_of_lt (Nat.mod_lt (af s) h0))
  have hn2:=xx (au (af s % af t)) false (by omega) (bM.dig _)
  rw [eH] at hn2
  have hz0:af s / 16777216^(au (af s)).length % af t=0:=by rw [Nat.div_eq_of_lt (ld _),Nat.zero_mod]
  have hwl:IntKind.wrap .i64 ((((au (af s)).length:Nat):Int) - ((1:Nat):Int))=((au (af s)).length:Int) - 1:=rJ (by omega)
  have hout:AL (af s) (af t) (au (af s)).length 0=⟨[(13,.ref 0 0 0 (au (af s)).length),(14,.sl (aj (au (af s % af t))) (au (af s % af t)).length false)],[(0,⟨aj (oJ (af s) (af t) (au (af s)).length 0),0,false,0,1,true⟩)],.dead,[]⟩:=by unfold AL;rw [hr0]
  have hm40:(au (af s)).length<2^35:=by omega
  have htk:List.take (au (af s)).length (aj (oJ (af s) (af t) (au (af s)).length 0))=aj (oJ (af s) (af t) (au (af s)).length 0):=by rw [bP,List.take_of_length_le (by omega)]
  by_cases hx:af s<2^(8*7)
  ·have hy:2^(8*7)≤af t:=by
    rcases Nat.lt_or_ge (af t) (2^(8*7)) with h|h
    ·exact absurd ⟨hx,h⟩ hb
    ·exact h
   have hsm1:=gu s 7 (by omega) (by omega) hx
   have hsm2:=sI (ak (af t)) 7 (by omega) (by rw [hvn];exact hy)
   clear hb hx hy
   have h:=Se s t (af s) 0 (af s / af t) (af s % af t) (au (af s)).length (oJ (af s) (af t) (au (af s)).length 0) 0 true
   rw [hvn] at h
   simp (disch:=first|omega|(simp [ai,ar]<;>omega)) only [bI,aY,decide_true,eP,hnz,decide_false,bO,Bool.not_false,aD,hwl,AR,Nat.mul_one,htk] at h
   apply h<;>first|exact True.intro|omega|assumption|exact rfl|skip
   ·refine aA.blkF hloop (by simp) rfl ?_ (by rw [hout];exact jb.refl _)
    unfold Cy
    rw [uH,hz0,cT]
    exact jb.of ⟨bp.refl _,bp.refl _,bp.refl _,bp.nilS false rfl,bp.refl _,trivial⟩
  ·have hsm1:=sI s 7 (by omega) (Nat.le_of_not_lt hx)
   have hsm2:∃ zy b2,CO 62 [.str (ak (af t)),.int .i64 7] (.ret (.tup [.int .i64 zy,.bool b2])):=by
    rcases Nat.lt_or_ge (af t) (2^(8*7)) with h|h
    ·exact ⟨_,_,gu (ak (af t)) 7 (by omega) (by omega) (by rw [hvn];exact h)⟩
    ·exact ⟨_,_,sI (ak (af t)) 7 (by omega) (by rw [hvn];exact h)⟩
   obtain ⟨zy,b2,hsm2⟩:=hsm2
   clear hb hx
   have h:=Sd s t 0 0 (af s / af t) (af s % af t) (au (af s)).length (oJ (af s) (af t) (au (af s)).length 0) zy b2
   rw [hvn] at h
   simp (disch:=first|omega|(simp [ai,ar]<;>omega)) only [bI,aY,decide_true,eP,hnz,decide_false,bO,Bool.not_false,aD,hwl,AR,Nat.mul_one,htk] at h
   apply h<;>first|exact True.intro|omega|assumption|exact rfl|skip
   ·refine aA.blkF hloop (by simp) rfl ?_ (by rw [hout];exact jb.refl _)
    unfold Cy
    rw [uH,hz0,cT]
    exact jb.of ⟨bp.refl _,bp.refl _,bp.refl _,bp.nilS false rfl,bp.refl _,trivial⟩
theorem PH {nt:Nat} (hn:25≤nt) (s t q r:List UInt8) (h0:lit true (decide (((0:Nat):Int)<(((List.length t):Nat):Int)))=true) (c0:CO 105 [.str s,.str t] (.ret (.tup [.str q,.str r,.bool true]))):ah prog ap [] nt (ac 0 (ae f104)) ⟨[(0,.str s),(1,.str t)],[],.dead,[]⟩ (.normal) ⟨[(0,.str t),(1,.str r)],[],.dead,[]⟩:=pJ 104 [] 1 1 (.c h0 .nil) (.c c0 .nil) hn
theorem PI {nt:Nat} (hn:25≤nt) (s t q r:List UInt8) (h0:lit false (decide (((0:Nat):Int)<(((List.length t):Nat):Int)))=true):ah prog ap [] nt (ac 0 (ae f104)) ⟨[(0,.str s),(1,.str t)],[],.dead,[]⟩ (.exit 0) ⟨[(0,.str s)],[],.dead,[]⟩:=pJ 104 [] 1 0 (.c h0 .nil) (.nil) hn
theorem PF (s t g:List UInt8) (c0:CO 61 [.str s] (.ret (.str (ak (af s))))) (c1:CO 61 [.str t] (.ret (.str (ak (af t))))) (l0:aC prog ap [] 25 (.block 0 (.loop (ac 0 (ae f104)))) ⟨[(0,.str (ak (af s))),(1,.str (ak (af t))),(4,.str []),(6,.dead),(14,.dead)],[],.dead,[]⟩ (.normal) ⟨[(0,.str g)],[],.dead,[]⟩):CO 104 [.str s,.str t] (.ret (.str g)):=pK [0] 0 0 .nil (.l l0 (.c c1 (.c c0 .nil)))
def PG (p:Nat × Nat):St:=⟨[(0,.str (ak p.1)),(1,.str (ak p.2))],[],.dead,[]⟩
def I0 (x:Nat):St:=⟨[(0,.str (ak x))],[],.dead,[]⟩
theorem CE {nt:Nat} (hn:25≤nt):∀ (n y x:Nat),y<n→(ak x).length<2^33→(ak y).length<2^33→aA prog ap [] nt (ac 0 (ae f104)) (fun _=> .exit 0) PG I0 (x,y) (Nat.gcd x y):=by
 intro n
 induction n with
 |zero=>intro y x h;omega
 | succ n ih=>
  intro y x h hx hy
  rcases Nat.eq_zero_or_pos y with rfl|h0
  ·rw [Nat.gcd_zero_right]
   refine .done ?_
   unfold PG I0
   rw [dD]
   exact PI hn (ak x) [] [] [] rfl
  ·have hm:=Nat.mod_lt x h0
   have hl:(ak (x % y)).length<2^33:=by
    have:x % y≤af (ak y):=by rw [aT];omega
    have:=fX this
    omega
   have hnext:=ih (x % y) y (by omega) hy hl
   rw [show Nat.gcd y (x % y)=Nat.gcd x y by rw [Nat.gcd_comm y,← Nat.gcd_rec,Nat.gcd_comm]] at hnext
   refine .next ?_ hnext
   have hq:=vU (ak x) (ak y) hx hy (by rw [aT];exact h0)
   rw [aT,aT] at hq
   have hne:ak y ≠ []:=fun h=>by have:=gm.1 h;omega
   have hpos:0<(ak y).length:=by
    cases hq:ak y with
    |nil=>exact absurd hq hne
    |cons _ _=>simp
   exact PH hn (ak x) (ak y) _ _ (by rw [aP,bd];exact decide_eq_true hpos) hq
theorem AW (s t:List UInt8) (hs:s.length<2^33) (ht:t.length<2^33):CO 104 [.str s,.str t] (.ret (.str (ak (Nat.gcd (af s) (af t))))):=by
 have l1:(ak (af s)).length≤s.length:=fX (Nat.le_refl _)
 have l2:(ak (af t)).length≤t.length:=fX (Nat.le_refl _)
 exact PF s t _ (dl s (by omega)) (dl t (by omega)) (aA.blk (fun nt hn=>CE hn (af t+1) (af t) (af s) (by omega) (by omega) (by omega)) (by simp) rfl (aF.of ⟨rfl,rfl,trivial⟩) (aF.of ⟨rfl,trivial⟩))
theorem O_ (neg:Bool) (n d:List UInt8) (g:Nat) (h0:lit true (!(nR n))=true) (c0:CO 102 [.str n] (.ret (.bool (nR n)))) (c1:CO 102 [.str d] (.ret (.bool (nR d)))):CO 69 [.agg [.bool neg,.str n,.str d]] (.ret (.bool false)):=pK [] 3 7 (.k 2 h0 (.n 2 .nil)) (.c c1 (.c c0 .nil))
theorem Pa (neg:Bool) (n d:List UInt8) (g:Nat) (h0:lit true (!(nR d))=true) (h1:lit false (!(nR n))=true) (c0:CO 102 [.str n] (.ret (.bool (nR n)))) (c1:CO 102 [.str d] (.ret (.bool (nR d)))):CO 69 [.agg [.bool neg,.str n,.str d]] (.ret (.bool false)):=pK [] 3 6 (.k 1 h0 (.c h1 (.n 2 .nil))) (.c c1 (.c c0 .nil))
theorem Pb (neg:Bool) (n d:List UInt8) (g:Nat) (h0:lit true (d== [])=true) (h1:lit false (!(nR d))=true) (h2:lit false (!(nR n))=true) (c0:CO 102 [.str n] (.ret (.bool (nR n)))) (c1:CO 102 [.str d] (.ret (.bool (nR d)))):CO 69 [.agg [.bool neg,.str n,.str d]] (.ret (.bool false)):=pK [] 3 4 (.c h0 (.k 1 h1 (.c h2 (.n 2 .nil)))) (.c c1 (.c c0 .nil))
theorem Pc (neg:Bool) (n d:List UInt8) (g:Nat) (h0:lit true (!neg)=true) (h1:lit true (n== [])=true) (h2:lit false (d== [])=true) (h3:lit false (!(nR d))=true) (h4:lit false (!(nR n))=true) (c0:CO 102 [.str n] (.ret (.bool (nR n)))) (c1:CO 102 [.str d] (.ret (.bool (nR d)))) (c2:CO 39 [.int .i64 1] (.ret (.str (ak 1)))) (c3:CO 103 [.str d,.str (ak 1)] (.ret (.int .i64 (lu (af d) (af (ak 1)))))):CO 69 [.agg [.bool neg,.str n,.str d]] (.ret (.bool ((lu (af d) (af (ak 1)))==((0:Nat):Int)))):=pK [] 5 24 (.k 1 h0 (.k 1 h1 (.k 1 h2 (.k 1 h3 (.c h4 (.n 2 .nil)))))) (.c c3 (.c c2 (.c c1 (.c c0 .nil))))
theorem Pd (neg:Bool) (n d:List UInt8) (g:Nat) (h0:lit false (!neg)=true) (h1:lit true (n== [])=true) (h2:lit false (d== [])=true) (h3:lit false (!(nR d))=true) (h4:lit false (!(nR n))=true) (c0:CO 102 [.str n] (.ret (.bool (nR n)))) (c1:CO 102 [.str d] (.ret (.bool (nR d)))):CO 69 [.agg [.bool neg,.str n,.str d]] (.ret (.bool false)):=pK [] 5 8 (.c h0 (.k 1 h1 (.k 1 h2 (.k 1 h3 (.c h4 (.n 2 .nil)))))) (.c c1 (.c c0 .nil))
theorem Pe (neg:Bool) (n d:List UInt8) (g:Nat) (h0:lit false (n== [])=true) (h1:lit false (d== [])=true) (h2:lit false (!(nR d))=true) (h3:lit false (!(nR n))=true) (c0:CO 102 [.str n] (.ret (.bool (nR n)))) (c1:CO 102 [.str d] (.ret (.bool (nR d)))) (c2:CO 104 [.str n,.str d] (.ret (.str (ak g)))) (c3:CO 39 [.int .i64 1] (.ret (.str (ak 1)))) (c4:CO 103 [.str (ak g),.str (ak 1)] (.ret (.int .i64 (lu (af (ak g)) (af (ak 1)))))):CO 69 [.agg [.bool neg,.str n,.str d]] (.ret (.bool ((lu (af (ak g)) (af (ak 1)))==((0:Nat):Int)))):=pK [] 4 0 (.k 2 h0 (.k 1 h1 (.k 1 h2 (.c h3 (.n 2 .nil))))) (.c c4 (.c c3 (.c c2 (.c c1 (.c c0 .nil)))))
theorem O5 (neg:Bool) (n d:List UInt8) (g:Nat) (h0:lit true (n== [])=true) (c0:CO 39 [.int .i64 1] (.ret (.str (ak 1)))):CO 72 [.bool neg,.str n,.str d] (.ret (.agg [.bool false,.str [],.str (ak 1)])):=pK [] 1 1 (.k 4 h0 .nil) (.c c0 .nil)
theorem O6 (neg:Bool) (n d:List UInt8) (g:Nat) (h0:lit false (n== [])=true) (c0:CO 104 [.str n,.str d] (.ret (.str (ak g)))) (c1:CO 105 [.str n,.str (ak g)] (.ret (.tup [.str (ak (af n / g)),.str (ak (af n % g)),.bool true]))) (c2:CO 105 [.str d,.str (ak g)] (.ret (.tup [.str (ak (af d / g)),.str (ak (af d % g)),.bool true]))):CO 72 [.bool neg,.str n,.str d] (.ret (.agg [.bool neg,.str (ak (af n / g)),.str (ak (af d / g))])):=pK [] 1 0 (.k 4 h0 .nil) (.c c2 (.c c1 (.c c0 .nil)))
theorem O2 (neg:Bool) (n d:List UInt8) (h0:lit true (decide ((((cg (af n)):Nat):Int)≤((400:Nat):Int)))=true) (h1:lit true (gz neg n d)=true) (c0:CO 69 [.agg [.bool neg,.str n,.str d]] (.ret (.bool (gz neg n d)))) (c1:CO 70 [.str n] (.ret (.int .i64 (((cg (af n)):Nat):Int)))) (c2:CO 70 [.str d] (.ret (.int .i64 (((cg (af d)):Nat):Int)))):CO 45 [.agg [.bool neg,.str n,.str d]] (.ret (.bool (decide ((((cg (af d)):Nat):Int)≤((400:Nat):Int))))):=pK [] 2 3 (.k 1 h0 (.k 1 h1 (.n 3 .nil))) (.c c2 (.c c1 (.c c0 .nil)))
theorem O3 (neg:Bool) (n d:List UInt8) (h0:lit false (decide ((((cg (af n)):Nat):Int)≤((400:Nat):Int)))=true) (h1:lit true (gz neg n d)=true) (c0:CO 69 [.agg [.bool neg,.str n,.str d]] (.ret (.bool (gz neg n d)))) (c1:CO 70 [.str n] (.ret (.int .i64 (((cg (af n)):Nat):Int)))):CO 45 [.agg [.bool neg,.str n,.str d]] (.ret (.bool false)):=pK [] 2 1 (.c h0 (.k 1 h1 (.n 3 .nil))) (.c c1 (.c c0 .nil))
theorem O4 (neg:Bool) (n d:List UInt8) (h0:lit false (gz neg n d)=true) (c0:CO 69 [.agg [.bool neg,.str n,.str d]] (.ret (.bool (gz neg n d)))):CO 45 [.agg [.bool neg,.str n,.str d]] (.ret (.bool false)):=pK [] 2 0 (.k 1 h0 (.n 3 .nil)) (.c c0 .nil)
theorem Pj (neg:Bool) (n d:List UInt8) (h0:lit true (!(gz neg n d))=true) (c0:CO 69 [.agg [.bool neg,.str n,.str d]] (.ret (.bool (gz neg n d)))) (c1:CO 39 [.int .i64 1] (.ret (.str (ak 1)))):CO 71 [.agg [.bool neg,.str n,.str d]] (.ret (.agg [.bool false,.str [],.str (ak 1)])):=pK [] 1 1 (.k 4 h0 (.n 3 .nil)) (.c c1 (.c c0 .nil))
theorem Pk (neg:Bool) (n d:List UInt8) (h0:lit false (!(gz neg n d))=true) (c0:CO 69 [.agg [.bool neg,.str n,.str d]] (.ret (.bool (gz neg n d)))):CO 71 [.agg [.bool neg,.str n,.str d]] (.ret (.agg [.bool neg,.str n,.str d])):=pK [] 1 0 (.k 7 h0 (.n 3 .nil)) (.c c0 .nil)
theorem O7 (v:Int) (x z:Nat) (h0:lit true (decide (((0:Nat):Int)≤v))=true) (c0:CO 39 [.int .i64 v] (.ret (.str (ak z)))) (c1:CO 39 [.int .i64 1] (.ret (.str (ak 1)))):CO 19 [.int .i64 v] (.ret (.agg [.bool false,.str (ak z),.str (ak 1)])):=pK [] 1 1 (.k 4 h0 .nil) (.c c1 (.c c0 .nil))
theorem O8 (v:Int) (x z:Nat) (h0:lit false (decide (((0:Nat):Int)≤v))=true) (c0:CO 39 [.int .i64 (IntKind.wrap .i64 (0 - (IntKind.wrap .i64 (v+((1:Nat):Int)))))] (.ret (.str (ak z)))) (c1:CO 39 [.int .i64 1] (.ret (.str (ak 1)))) (c2:CO 40 [.str (ak z),.str (ak 1)] (.ret (.str (ak x)))) (c3:CO 39 [.int .i64 1] (.ret (.str (ak 1)))):CO 19 [.int .i64 v] (.ret (.agg [.bool true,.str (ak x),.str (ak 1)])):=pK [] 1 0 (.k 4 h0 .nil) (.c c3 (.c c2 (.c c1 (.c c0 .nil))))
theorem Pg (neg sg:Bool) (n d n1 d1:List UInt8) (h0:lit true (n1== [])=true) (c0:CO 71 [.agg [.bool neg,.str n,.str d]] (.ret (.agg [.bool sg,.str n1,.str d1]))):CO 108 [.agg [.bool neg,.str n,.str d]] (.ret (.int .i64 0)):=pK [] 1 1 (.c h0 (.n 5 .nil)) (.c c0 .nil)
theorem Ph (neg sg:Bool) (n d n1 d1:List UInt8) (h0:lit true sg=true) (h1:lit false (n1== [])=true) (c0:CO 71 [.agg [.bool neg,.str n,.str d]] (.ret (.agg [.bool sg,.str n1,.str d1]))):CO 108 [.agg [.bool neg,.str n,.str d]] (.ret (.int .i64 (-1))):=pK [] 2 2 (.c h0 (.k 1 h1 (.n 5 .nil))) (.c c0 .nil)
theorem Pi (neg sg:Bool) (n d n1 d1:List UInt8) (h0:lit false sg=true) (h1:lit false (n1== [])=true) (c0:CO 71 [.agg [.bool neg,.str n,.str d]] (.ret (.agg [.bool sg,.str n1,.str d1]))):CO 108 [.agg [.bool neg,.str n,.str d]] (.ret (.int .i64 1)):=pK [] 2 0 (.c h0 (.k 1 h1 (.n 5 .nil))) (.c c0 .nil)
theorem Ln (s t:List UInt8) (x y z:Nat) (c0:CO 62 [.str s,.int .i64 7] (.ret (.tup [.int .i64 (x:Int),.bool true]))) (c1:CO 62 [.str t,.int .i64 7] (.ret (.tup [.int .i64 (y:Int),.bool true]))) (c2:CO 39 [.int .i64 (IntKind.wrap .i64 ((x:Int)+(y:Int)))] (.ret (.str (ak z)))):CO 40 [.str s,.str t] (.ret (.str (ak z))):=pK [] 2 3 (.n 2 .nil) (.c c2 (.c c1 (.c c0 .nil)))
theorem Bs {x:Nat}:((lu x (af (ak 1)))==((0:Nat):Int))=decide (x=1):=by
 rw [aT]
 unfold lu
 rcases Nat.lt_trichotomy x 1 with h|h|h
 ·rw [if_pos h,decide_eq_false (by omega)];rfl
 ·rw [if_neg (by omega),if_neg (by omega),decide_eq_true h];rfl
 ·rw [if_neg (by omega),if_pos h,decide_eq_false (by omega)];rfl
theorem su (neg:Bool) (n d:List UInt8) (hn:n.length<2^33) (hd:d.length<2^33):CO 69 [.agg [.bool neg,.str n,.str d]] (.ret (.bool (gz neg n d))):=by
 have h1:=ES n
 have h2:=ES d
 have h3:=ik 1 (by omega)
 have hl1:(ak 1).length≤1:=ic (by omega)
 have hc:=EN d (ak 1) (by omega) (by omega)
 have hg:=AW n d hn hd
 have hsg:=@Bs (af d)
 cases hbn:nR n with
 |false=>
  have e:gz neg n d=false:=by unfold gz;rw [hbn];rfl
  rw [e]
  exact O_ neg n d 0 (by rw [hbn];rfl) h1 h2
 | true=>
  cases hbd:nR d with
  |false=>
   have e:gz neg n d=false:=by unfold gz;rw [hbd];simp
   rw [e]
   exact Pa neg n d 0 (by rw [hbd];rfl) (by rw [hbn];rfl) h1 h2
  | true=>
   have en:=(jO n).1 hbn
   have ed:=(jO d).1 hbd
   by_cases hd0:d= []
   ·have e:gz neg n d=false:=by
     subst hd0;unfold gz;simp [show af []=0 from rfl]
    rw [e]
    exact Pb neg n d 0 (by rw [hd0];rfl) (by rw [hbd];rfl) (by rw [hbn];rfl) h1 h2
   ·have hdp:0<af d:=by
     rcases Nat.eq_zero_or_pos (af d) with h|h
     ·rw [h,dD] at ed;exact absurd ed.symm hd0
     ·exact h
    have hd0':(d== [])=false:=by simpa using hd0
    by_cases hn0:n= []
    ·have hn0':(n== [])=true:=by simpa using hn0
     have hv0:af n=0:=by rw [hn0];rfl
     cases neg with
     | false=>
      have h:=Pc false n d 0 rfl (by rw [hn0'];rfl) (by rw [hd0'];rfl) (by rw [hbd];rfl) (by rw [hbn];rfl) h1 h2 h3 hc
      rw [hsg] at h
      have e:gz false n d=decide (af d=1):=by
       rw [Bool.eq_iff_iff,gG,hv0,Nat.gcd_zero_left]
       simp [hbn,hbd];omega
      rw [e];exact h
     | true=>
      have h:=Pd true n d 0 rfl (by rw [hn0'];rfl) (by rw [hd0'];rfl) (by rw [hbd];rfl) (by rw [hbn];rfl) h1 h2
      have e:gz true n d=false:=by
       rw [Bool.eq_false_iff];intro h
       have:=(gG.1 h).2.2.2.2 rfl
       omega
      rw [e];exact h
    ·have hn0':(n== [])=false:=by simpa using hn0
     have hnp:0<af n:=by
      rcases Nat.eq_zero_or_pos (af n) with h|h
      ·rw [h,dD] at en;exact absurd en.symm hn0
      ·exact h
     have hgl:(ak (Nat.gcd (af n) (af d))).length≤d.length:=fX (Nat.gcd_le_right _ hdp)
     have hc2:=EN (ak (Nat.gcd (af n) (af d))) (ak 1) (by omega) (by omega)
     have h:=Pe neg n d (Nat.gcd (af n) (af d)) (by rw [hn0'];rfl) (by rw [hd0'];rfl) (by rw [hbd];rfl) (by rw [hbn];rfl) h1 h2 hg h3 hc2
     rw [Bs,aT] at h
     have e:gz neg n d=decide (Nat.gcd (af n) (af d)=1):=by
      rw [Bool.eq_iff_iff,gG]
      simp [hbn,hbd,hdp,hnp]
     rw [e];exact h
theorem oI (neg:Bool) (n d:List UInt8) (hn:n.length<2^33) (hd:d.length<2^33):CO 45 [.agg [.bool neg,.str n,.str d]] (.ret (.bool (gb neg n d))):=by
 have hr:=su neg n d hn hd
 have h1:=xF n (by omega)
 have h2:=xF d (by omega)
 unfold gb
 cases hb:gz neg n d with
 |false=>exact O4 neg n d (by rw [hb];rfl) hr
 | true=>
  by_cases h3:cg (af n)≤400
  ·have h:=O2 neg n d (by rw [bI,decide_eq_true h3];rfl) (by rw [hb];rfl) hr h1 h2
   rw [bI] at h
   rw [decide_eq_true h3]
   exact h
  ·have h:=O3 neg n d (by rw [bI,decide_eq_false h3];rfl) (by rw [hb];rfl) hr h1
   rw [decide_eq_false h3]
   exact h
structure RQ where
 neg:Bool
 n:Nat
 d:Nat
def RQ.ok (q:RQ):Prop:=0<q.d∧Nat.gcd q.n q.d=1∧(q.neg=true→0<q.n)
def qA (q:RQ):AV:= .agg [.bool q.neg,.str (ak q.n),.str (ak q.d)]
def q0:RQ:=⟨false,0,1⟩
def mA (neg:Bool) (n d:Nat):RQ:=⟨neg && decide (0<n),n / Nat.gcd n d,d / Nat.gcd n d⟩
def vQ (neg:Bool) (n d:List UInt8):RQ:=if gz neg n d=true then ⟨neg,af n,af d⟩ else q0
theorem yX (q:RQ) (h:q.ok):gz q.neg (ak q.n) (ak q.d)=true:=by
 rw [gG,aT,aT]
 exact ⟨qx _,qx _,h⟩
theorem GU {neg:Bool} {n d:List UInt8} (h:gz neg n d=true):AV.agg [.bool neg,.str n,.str d]=qA ⟨neg,af n,af d⟩:=by
 obtain ⟨h1,h2,_⟩:=gG.1 h
 unfold qA
 rw [(jO n).1 h1,(jO d).1 h2]
theorem G_ {neg:Bool} {n d:Nat} (h:0<d):(mA neg n d).ok:=by
 have hg:0<Nat.gcd n d:=Nat.gcd_pos_of_pos_right _ h
 refine ⟨Nat.div_pos (Nat.gcd_le_right _ h) hg, ?_, ?_⟩
 ·show Nat.gcd (n / Nat.gcd n d) (d / Nat.gcd n d)=1
  rw [Nat.gcd_div (Nat.gcd_dvd_left _ _) (Nat.gcd_dvd_right _ _),Nat.div_self hg]
 ·intro hn
  have:0<n:=by simp [mA] at hn;exact hn.2
  exact Nat.div_pos (Nat.gcd_le_left _ this) hg
theorem sw (neg:Bool) (n d:List UInt8) (hn:n.length<2^33) (hd:d.length<2^33):CO 71 [.agg [.bool neg,.str n,.str d]] (.ret (qA (vQ neg n d))):=by
 have hr:=su neg n d hn hd
 unfold vQ
 cases hb:gz neg n d with
 |false=>
  have h:=Pj neg n d (by rw [hb];rfl) hr (ik 1 (by omega))
  rw [if_neg (by simp)]
  unfold qA q0
  rw [dD];exact h
 |true=>
  have h:=Pk neg n d (by rw [hb];rfl) hr
  rw [if_pos rfl,← GU hb]
  exact h
theorem EI (neg:Bool) (n d:Nat) (hn:(ak n).length<2^33) (hd:(ak d).length<2^33) (h0:0<d):CO 72 [.bool neg,.str (ak n),.str (ak d)] (.ret (qA (mA neg n d))):=by
 have hg:=AW (ak n) (ak d) hn hd
 rw [aT,aT] at hg
 have hgp:0<Nat.gcd n d:=Nat.gcd_pos_of_pos_right _ h0
 have hgl:(ak (Nat.gcd n d)).length≤(ak d).length:=fX (by rw [aT];exact Nat.gcd_le_right _ h0)
 have q1:=vU (ak n) (ak (Nat.gcd n d)) hn (by omega) (by rw [aT];exact hgp)
 have q2:=vU (ak d) (ak (Nat.gcd n d)) hd (by omega) (by rw [aT];exact hgp)
 simp only [aT] at q1 q2
 rcases Nat.eq_zero_or_pos n with rfl|hp
 ·have h:=O5 neg (ak 0) (ak d) 0 (by rw [dD];rfl) (ik 1 (by omega))
  unfold qA mA
  simp only [Nat.lt_irrefl,decide_false,Bool.and_false,Nat.gcd_zero_left,Nat.zero_div,Nat.div_self h0,dD]
  rw [dD] at h
  exact h
 ·have hne:ak n ≠ []:=fun h=>by have:=gm.1 h;omega
  have h:=O6 neg (ak n) (ak d) (Nat.gcd n d) (by simp [lit,hne])
  simp only [aT] at h
  unfold qA mA
  simp only [hp,decide_true,Bool.and_true]
  exact h hg q1 q2
def Lr (q:RQ):Int:=if q.n=0 then 0 else if q.neg then -1 else 1
theorem Lp (neg:Bool) (n d:List UInt8):oM neg n d=Lr (vQ neg n d):=by
 unfold oM Lr vQ
 cases hb:gz neg n d with
 |false=>simp [q0]
 | true=>
  simp only [true_and,if_true]
  by_cases h:0<af n
  ·have h':¬ af n=0:=by omega
   simp [h,h']
  ·have h':af n=0:=by omega
   simp [h']
theorem Cw (neg:Bool) (n d:List UInt8) (hn:n.length<2^33) (hd:d.length<2^33):CO 108 [.agg [.bool neg,.str n,.str d]] (.ret (.int .i64 (oM neg n d))):=by
 have hv:=sw neg n d hn hd
 rw [Lp]
 generalize vQ neg n d=q at*
 obtain ⟨sg,N,D⟩:=q
 unfold qA at hv
 unfold Lr
 simp only at hv ⊢
 rcases Nat.eq_zero_or_pos N with rfl|hp
 ·rw [if_pos rfl]
  exact Pg neg sg n d (ak 0) (ak D) (by rw [dD];rfl) hv
 ·have hne:ak N ≠ []:=fun h=>by have:=gm.1 h;omega
  have hne':(ak N== [])=false:=by simpa using hne
  rw [if_neg (by omega)]
  cases sg with
  |true=>exact Ph neg true n d (ak N) (ak D) rfl (by rw [hne'];rfl) hv
  |false=>exact Pi neg false n d (ak N) (ak D) rfl (by rw [hne'];rfl) hv
def i_ (neg:Bool) (n d:List UInt8) (a:Nat):Bool:=((neg==false) && ((n==(ak a)) && ((d==(ak 1)) && true)))
theorem Kv (a:Nat) (ha:a<9223372036854775808):CO 19 [.int .i64 (a:Int)] (.ret (xD false a 1)):=
 O7 (a:Int) 0 a (by simp [lit]) (ik a ha) (ik 1 (by omega))
theorem IZ:CO 19 [.int .i64 0] (.ret (xD false 0 1)):=Kv 0 (by omega)
theorem O9:CO 19 [.int .i64 1] (.ret (xD false 1 1)):=Kv 1 (by omega)
structure Ty where
 tr:Bool
 m:Int
 d:Int
def bC (t:Ty):List AV:= [.bool t.tr,.int .i64 t.m,.int .i64 t.d]
def eC (m d:Int):Bool:=decide (-3≤m∧m≤3∧ -3≤d∧d≤3)
def aI (t:Ty):Bool:=cond t.tr ((t.m==0) && (t.d==0)) (eC t.m t.d)
def iy (t:Ty) (neg:Bool) (n d:List UInt8):Bool:=aI t && (gb neg n d && (!t.tr||(i_ neg n d 0||i_ neg n d 1)))
theorem nU (t:Ty):CO 20 [.agg [.int .i64 t.m,.int .i64 t.d]] (.ret (.bool (eC t.m t.d))):=by
 rcases tf (decide ((if t.d>t.m then t.d else t.m)≤((3:Nat):Int))) with b0|b0
 ·have e:eC t.m t.d=(decide ((-3:Int)≤(if t.d<t.m then t.d else t.m))):=by
   unfold eC
   simp only [decide_eq_true_eq,decide_eq_false_iff_not,beq_iff_eq,beq_eq_false_iff_ne] at*
   first|omega|(split at b0<;>omega)|(rw [Bool.eq_iff_iff];simp only [decide_eq_true_eq];first|omega|(split at b0<;>split<;>omega))
  rw [e]
  exact pK [] 1 1 (.k 2 (aQ b0) (.n 2 .nil)) (.nil)
 ·have e:eC t.m t.d=false:=by
   unfold eC
   simp only [decide_eq_true_eq,decide_eq_false_iff_not,beq_iff_eq,beq_eq_false_iff_ne] at*
   first|omega|(split at b0<;>omega)|(rw [Bool.eq_iff_iff];simp only [decide_eq_true_eq];first|omega|(split at b0<;>split<;>omega))
  rw [e]
  exact pK [] 1 0 (.c (aU b0) (.n 2 .nil)) (.nil)
theorem E2 (t:Ty):CO 21 [.agg [.int .i64 t.m,.int .i64 t.d]] (.ret (.bool (eC t.m t.d))):=by
 rcases tf (decide ((-3:Int)≤t.m)) with b0|b0
 ·rcases tf (decide (t.m≤((3:Nat):Int))) with b1|b1
  ·rcases tf (decide ((-3:Int)≤t.d)) with b2|b2
   ·have e:eC t.m t.d=(decide (t.d≤((3:Nat):Int))):=by
     unfold eC
     simp only [decide_eq_true_eq,decide_eq_false_iff_not,beq_iff_eq,beq_eq_false_iff_ne] at*
     first|omega|(split at b0<;>omega)|(rw [Bool.eq_iff_iff];simp only [decide_eq_true_eq];first|omega|(split at b0<;>split<;>omega))
    rw [e]
    exact pK [] 3 7 (.k 1 (aQ b2) (.k 1 (aQ b1) (.k 1 (aQ b0) (.n 1 .nil)))) (.nil)
   ·have e:eC t.m t.d=false:=by
     unfold eC
     simp only [decide_eq_true_eq,decide_eq_false_iff_not,beq_iff_eq,beq_eq_false_iff_ne] at*
     first|omega|(split at b0<;>omega)|(rw [Bool.eq_iff_iff];simp only [decide_eq_true_eq];first|omega|(split at b0<;>split<;>omega))
    rw [e]
    exact pK [] 3 3 (.c (aU b2) (.k 1 (aQ b1) (.k 1 (aQ b0) (.n 1 .nil)))) (.nil)
  ·have e:eC t.m t.d=false:=by
    unfold eC
    simp only [decide_eq_true_eq,decide_eq_false_iff_not,beq_iff_eq,beq_eq_false_iff_ne] at*
    first|omega|(split at b0<;>omega)|(rw [Bool.eq_iff_iff];simp only [decide_eq_true_eq];first|omega|(split at b0<;>split<;>omega))
   rw [e]
   exact pK [] 3 1 (.k 1 (aU b1) (.k 1 (aQ b0) (.n 1 .nil))) (.nil)
 ·have e:eC t.m t.d=false:=by
   unfold eC
   simp only [decide_eq_true_eq,decide_eq_false_iff_not,beq_iff_eq,beq_eq_false_iff_ne] at*
   first|omega|(split at b0<;>omega)|(rw [Bool.eq_iff_iff];simp only [decide_eq_true_eq];first|omega|(split at b0<;>split<;>omega))
  rw [e]
  exact pK [] 3 0 (.k 2 (aU b0) (.n 1 .nil)) (.nil)
theorem eG (t:Ty):CO 41 [.agg (bC t)] (.ret (.bool (aI t))):=by
 rcases tf t.tr with b0|b0
 ·have e:aI t=((t.tr==true) && ((t.m==((0:Nat):Int)) && ((t.d==((0:Nat):Int)) && true))):=by first|(simp only [aI,b0]<;>rfl)|(unfold aI;rw [b0];simp [b0])
  rw [e]
  exact pK [] 1 1 (.k 6 (aQ b0) (.n 1 .nil)) (.nil)
 ·have e:aI t=(eC t.m t.d):=by first|(simp only [aI,b0]<;>rfl)|(unfold aI;rw [b0];simp [b0])
  rw [e]
  exact pK [] 1 0 (.k 2 (aU b0) (.n 1 .nil)) (.c (nU t) .nil)
theorem eB (t:Ty):CO 44 [.agg (bC t)] (.ret (.bool (aI t))):=by
 rcases tf ((t.tr==true) && ((t.m==((0:Nat):Int)) && ((t.d==((0:Nat):Int)) && true))) with b0|b0
 ·have e:aI t=true:=by first|(simp only [aI,b0]<;>rfl)|(unfold aI;cases htr:t.tr<;>simp_all)
  rw [e]
  exact pK [] 1 1 (.c (aQ b0) (.n 3 .nil)) (.nil)
 ·rcases tf t.tr with b1|b1
  ·have e:aI t=false:=by first|(simp only [aI,b0,b1]<;>rfl)|(unfold aI;cases htr:t.tr<;>simp_all)
   rw [e]
   exact pK [] 2 0 (.c (aG b1) (.k 1 (aU b0) (.n 3 .nil))) (.nil)
  ·have e:aI t=(eC t.m t.d):=by first|(simp only [aI,b0,b1]<;>rfl)|(unfold aI;cases htr:t.tr<;>simp_all)
   rw [e]
   exact pK [] 2 2 (.k 2 (bm b1) (.k 1 (aU b0) (.n 3 .nil))) (.c (E2 t) .nil)
theorem sS (t:Ty) (neg:Bool) (n d:List UInt8) (hn:n.length<2^33) (hd:d.length<2^33):CO 22 [.agg (bC t),.agg [.bool neg,.str n,.str d]] (.ret (.bool (iy t neg n d))):=by
 rcases tf (aI t) with b0|b0
 ·rcases tf (gb neg n d) with b1|b1
  ·rcases tf t.tr with b2|b2
   ·rcases tf ((neg==false) && ((n==(ak 0)) && ((d==(ak 1)) && true))) with b3|b3
    ·have e:iy t neg n d=true:=by first|(simp only [iy,i_,b0,b1,b2,b3]<;>rfl)
     rw [e]
     exact pK [] 4 11 (.c (aQ b3) (.k 3 (aG b2) (.k 1 (aQ b1) (.k 3 (aQ b0) (.n 3 .nil))))) (.c (fR) (.c (dz neg n d (Nat.lt_trans hn (by decide)) (Nat.lt_trans hd (by decide))) (.c (eG t) .nil)))
    ·have e:iy t neg n d=((neg==false) && ((n==(ak 1)) && ((d==(ak 1)) && true))):=by first|(simp only [iy,i_,b0,b1,b2,b3]<;>rfl)
     rw [e]
     exact pK [] 4 3 (.k 3 (aU b3) (.k 3 (aG b2) (.k 1 (aQ b1) (.k 3 (aQ b0) (.n 3 .nil))))) (.c (oK) (.c (fR) (.c (dz neg n d (Nat.lt_trans hn (by decide)) (Nat.lt_trans hd (by decide))) (.c (eG t) .nil))))
   ·have e:iy t neg n d=true:=by first|(simp only [iy,i_,b0,b1,b2]<;>rfl)
    rw [e]
    exact pK [] 4 15 (.k 1 (bm b2) (.k 1 (aQ b1) (.k 3 (aQ b0) (.n 3 .nil)))) (.c (dz neg n d (Nat.lt_trans hn (by decide)) (Nat.lt_trans hd (by decide))) (.c (eG t) .nil))
  ·have e:iy t neg n d=false:=by first|(simp only [iy,i_,b0,b1]<;>rfl)
   rw [e]
   exact pK [] 2 1 (.c (aU b1) (.k 3 (aQ b0) (.n 3 .nil))) (.c (dz neg n d (Nat.lt_trans hn (by decide)) (Nat.lt_trans hd (by decide))) (.c (eG t) .nil))
 ·have e:iy t neg n d=false:=by first|(simp only [iy,i_,b0]<;>rfl)
  rw [e]
  exact pK [] 2 0 (.k 1 (aU b0) (.n 3 .nil)) (.c (eG t) .nil)
def BM:List UInt8:= [97,98,99,100,101,102,103,104,105,106,107,108,109,110,111,112,113,114,115,116,117,118,119,120,121,122,48,49,50,51,52,53,54,55,56,57,95]
def uS:List AV:= [.bool false,.bool false,.bool false,.bool false,.bool false,.bool false,.bool false,.bool false,.bool false,.bool false,.bool false,.bool false,.bool false,.bool false,.bool false,.bool false,.bool false,.bool false,.bool false,.bool false,.bool false,.bool false,.bool false,.bool false,.bool false,.bool false,.bool false,.bool false,.bool false,.bool false,.bool false,.bool false,.bool false,.bool false,.bool false,.bool false,.bool false,.bool false,.bool false,.bool false,.bool false,.bool false,.bool false,.bool false,.bool false,.bool false,.bool false,.bool false,.bool true,.bool true,.bool true,.bool true,.bool true,.bool true,.bool true,.bool true,.bool true,.bool true,.bool false,.bool false,.bool false,.bool false,.bool false,.bool false,.bool false,.bool false,.bool false,.bool false,.bool false,.bool false,.bool false,.bool false,.bool false,.bool false,.bool false,.bool false,.bool false,.bool false,.bool false,.bool false,.bool false,.bool false,.bool false,.bool false,.bool false,.bool false,.bool false,.bool false,.bool false,.bool false,.bool false,.bool false,.bool false,.bool false,.bool false,.bool true,.bool false,.bool true,.bool true,.bool true,.bool true,.bool true,.bool true,.bool true,.bool true,.bool true,.bool true,.bool true,.bool true,.bool true,.bool true,.bool true,.bool true,.bool true,.bool true,.bool true,.bool true,.bool true,.bool true,.bool true,.bool true,.bool true,.bool true,.bool false,.bool false,.bool false,.bool false,.bool false,.bool false,.bool false,.bool false,.bool false,.bool false,.bool false,.bool false,.bool false,.bool false,.bool false,.bool false,.bool false,.bool false,.bool false,.bool false,.bool false,.bool false,.bool false,.bool false,.bool false,.bool false,.bool false,.bool false,.bool false,.bool false,.bool false,.bool false,.bool false,.bool false,.bool false,.bool false,.bool false,.bool false,.bool false,.bool false,.bool false,.bool false,.bool false,.bool false,.bool false,.bool false,.bool false,.bool false,.bool false,.bool false,.bool false,.bool false,.bool false,.bool false,.bool false,.bool false,.bool false,.bool false,.bool false,.bool false,.bool false,.bool false,.bool false,.bool false,.bool false,.bool false,.bool false,.bool false,.bool false,.bool false,.bool false,.bool false,.bool false,.bool false,.bool false,.bool false,.bool false,.bool false,.bool false,.bool false,.bool false,.bool false,.bool false,.bool false,.bool false,.bool false,.bool false,.bool false,.bool false,.bool false,.bool false,.bool false,.bool false,.bool false,.bool false,.bool false,.bool false,.bool false,.bool false,.bool false,.bool false,.bool false,.bool false,.bool false,.bool false,.bool false,.bool false,.bool false,.bool false,.bool false,.bool false,.bool false,.bool false,.bool false,.bool false,.bool false,.bool false,.bool false,.bool false,.bool false,.bool false,.bool false,.bool false,.bool false,.bool false,.bool false,.bool false,.bool false,.bool false,.bool false,.bool false,.bool false,.bool false]
theorem Jz:CO 132 [.str BM] (.ret (.tup [.agg uS,.bool true])):=fN kH (lf:=3000) (n:=4) (ans:= []) .nil (by kernel_rfl)
theorem MZ (xs:List AV) (c:Nat) (h0:(chk .bool (List.headD (List.drop (0+((Int.toNat (c:Int))*1)) xs) .dead))=true) (h1:(decide (((0:Nat):Int)≤(c:Int)))=true) (h2:(decide ((c:Int)<((256:Nat):Int)))=true):CO 145 [.pp xs 0,.int .u8 (c:Int)] (.ret (.bool (AV.toBool (List.headD (List.drop (0+((Int.toNat (c:Int))*1)) xs) .dead)))):=pK [] 0 0 (.c h0 (.c h1 (.c h2 .nil))) (.nil)
theorem SP {nt:Nat} (hn:16≤nt) (s:List UInt8) (xs:List AV) (b:Bool) (h0:lit true (!b)=true) (h1:(decide (((0:Nat):Int)<(((List.length s):Nat):Int)))=true) (h2:lit true (decide (((0:Nat):Int)<(((List.length s):Nat):Int)))=true) (c0:CO 145 [.pp xs 0,.int .u8 ((UInt8.toNat (List.getD s 0 0):Nat):Int)] (.ret (.bool b))):ah prog ap [] nt (ac 0 (ae f133)) ⟨[(0,.str s),(1,.pp xs 0)],[],.dead,[]⟩ (.exit 0) ⟨[(0,.str s)],[],.dead,[]⟩:=pJ 133 [] 2 3 (.c h0 (.k 1 h1 (.c h2 .nil))) (.c c0 .nil) hn
theorem SQ {nt:Nat} (hn:16≤nt) (s:List UInt8) (xs:List AV) (b:Bool) (h0:(decide (((1:Nat):Int)≤(((List.length s):Nat):Int)))=true) (h1:(decide ((((List.length s):Nat):Int)≤(((List.length s):Nat):Int)))=true) (h2:lit false (!b)=true) (h3:(decide (((0:Nat):Int)<(((List.length s):Nat):Int)))=true) (h4:lit true (decide (((0:Nat):Int)<(((List.length s):Nat):Int)))=true) (c0:CO 145 [.pp xs 0,.int .u8 ((UInt8.toNat (List.getD s 0 0):Nat):Int)] (.ret (.bool b))):ah prog ap [] nt (ac 0 (ae f133)) ⟨[(0,.str s),(1,.pp xs 0)],[],.dead,[]⟩ (.normal) ⟨[(0,.str (List.drop 1 (List.take (Int.toNat (((List.length s):Nat):Int)) s))),(1,.pp xs 0)],[],.dead,[]⟩:=pJ 133 [] 2 1 (.k 1 h0 (.c h1 (.c h2 (.k 1 h3 (.c h4 .nil))))) (.c c0 .nil) hn
theorem SR {nt:Nat} (hn:16≤nt) (s:List UInt8) (xs:List AV) (b:Bool) (h0:lit false (decide (((0:Nat):Int)<(((List.length s):Nat):Int)))=true):ah prog ap [] nt (ac 0 (ae f133)) ⟨[(0,.str s),(1,.pp xs 0)],[],.dead,[]⟩ (.exit 0) ⟨[(0,.str s)],[],.dead,[]⟩:=pJ 133 [] 1 0 (.c h0 .nil) (.nil) hn
theorem QF (s r:List UInt8) (xs:List AV) (l0:aC prog ap [] 16 (.block 0 (.loop (ac 0 (ae f133)))) ⟨[(0,.str s),(1,.pp xs 0),(4,.str []),(7,.dead),(12,.dead)],[],.dead,[]⟩ (.normal) ⟨[(0,.str r)],[],.dead,[]⟩):CO 133 [.str s,.pp xs 0] (.ret (.str r)):=pK [0] 0 0 .nil (.l l0 .nil)
theorem SU {nt:Nat} (hn:22≤nt) (s:List UInt8) (xs:List AV) (b:Bool) (h0:lit true (!b)=true) (h1:(decide (((0:Nat):Int)≤(IntKind.wrap .i64 ((((List.length s):Nat):Int) - ((1:Nat):Int)))))=true) (h2:(decide ((IntKind.wrap .i64 ((((List.length s):Nat):Int) - ((1:Nat):Int)))<(((List.length s):Nat):Int)))=true) (h3:lit true (decide (((0:Nat):Int)<(((List.length s):Nat):Int)))=true) (c0:CO 145 [.pp xs 0,.int .u8 ((UInt8.toNat (List.getD s (Int.toNat (IntKind.wrap .i64 ((((List.length s):Nat):Int) - ((1:Nat):Int)))) 0):Nat):Int)] (.ret (.bool b))):ah prog ap [] nt (ac 0 (ae f136)) ⟨[(0,.str s),(1,.pp xs 0)],[],.dead,[]⟩ (.exit 0) ⟨[(0,.str s)],[],.dead,[]⟩:=pJ 136 [] 2 3 (.c h0 (.c h1 (.c h2 (.c h3 .nil)))) (.c c0 .nil) hn
theorem SV {nt:Nat} (hn:22≤nt) (s:List UInt8) (xs:List AV) (b:Bool) (h0:(decide (((0:Nat):Int)≤(IntKind.wrap .i64 ((((List.length s):Nat):Int) - ((1:Nat):Int)))))=true) (h1:(decide ((IntKind.wrap .i64 ((((List.length s):Nat):Int) - ((1:Nat):Int)))≤(((List.length s):Nat):Int)))=true) (h2:lit false (!b)=true) (h3:(decide ((IntKind.wrap .i64 ((((List.length s):Nat):Int) - ((1:Nat):Int)))<(((List.length s):Nat):Int)))=true) (h4:lit true (decide (((0:Nat):Int)<(((List.length s):Nat):Int)))=true) (c0:CO 145 [.pp xs 0,.int .u8 ((UInt8.toNat (List.getD s (Int.toNat (IntKind.wrap .i64 ((((List.length s):Nat):Int) - ((1:Nat):Int)))) 0):Nat):Int)] (.ret (.bool b))):ah prog ap [] nt (ac 0 (ae f136)) ⟨[(0,.str s),(1,.pp xs 0)],[],.dead,[]⟩ (.normal) ⟨[(0,.str (List.drop 0 (List.take (Int.toNat (IntKind.wrap .i64 ((((List.length s):Nat):Int) - ((1:Nat):Int)))) s))),(1,.pp xs 0)],[],.dead,[]⟩:=pJ 136 [] 2 1 (.k 1 h0 (.c h1 (.c h2 (.c h0 (.c h3 (.c h4 .nil)))))) (.c c0 .nil) hn
theorem SW {nt:Nat} (hn:22≤nt) (s:List UInt8) (xs:List AV) (b:Bool) (h0:lit false (decide (((0:Nat):Int)<(((List.length s):Nat):Int)))=true):ah prog ap [] nt (ac 0 (ae f136)) ⟨[(0,.str s),(1,.pp xs 0)],[],.dead,[]⟩ (.exit 0) ⟨[(0,.str s)],[],.dead,[]⟩:=pJ 136 [] 1 0 (.c h0 .nil) (.nil) hn
theorem QQ (s r:List UInt8) (xs:List AV) (l0:aC prog ap [] 22 (.block 0 (.loop (ac 0 (ae f136)))) ⟨[(0,.str s),(1,.pp xs 0),(4,.str []),(7,.dead),(15,.dead)],[],.dead,[]⟩ (.normal) ⟨[(0,.str r)],[],.dead,[]⟩):CO 136 [.str s,.pp xs 0] (.ret (.str r)):=pK [0] 0 0 .nil (.l l0 .nil)
def Jw:List Bool:= [false,false,false,false,false,false,false,false,false,false,false,false,false,false,false,false,false,false,false,false,false,false,false,false,false,false,false,false,false,false,false,false,false,false,false,false,false,false,false,false,false,false,false,false,false,false,false,false,true,true,true,true,true,true,true,true,true,true,false,false,false,false,false,false,false,false,false,false,false,false,false,false,false,false,false,false,false,false,false,false,false,false,false,false,false,false,false,false,false,false,false,false,false,false,false,true,false,true,true,true,true,true,true,true,true,true,true,true,true,true,true,true,true,true,true,true,true,true,true,true,true,true,true,false,false,false,false,false,false,false,false,false,false,false,false,false,false,false,false,false,false,false,false,false,false,false,false,false,false,false,false,false,false,false,false,false,false,false,false,false,false,false,false,false,false,false,false,false,false,false,false,false,false,false,false,false,false,false,false,false,false,false,false,false,false,false,false,false,false,false,false,false,false,false,false,false,false,false,false,false,false,false,false,false,false,false,false,false,false,false,false,false,false,false,false,false,false,false,false,false,false,false,false,false,false,false,false,false,false,false,false,false,false,false,false,false,false,false,false,false,false,false,false,false,false,false,false,false,false,false,false,false,false,false,false,false]
theorem Jy:uS=Jw.map AV.bool:=rfl
def J0 (c:Nat):Bool:=(decide (97≤c) && decide (c≤122))||(decide (48≤c) && decide (c≤57))||decide (c=95)
def dr (c:UInt8):Bool:=J0 c.toNat
theorem Ga:∀ i:Fin 256,Jw.getD i.val false=J0 i.val:=by decide
theorem DK (c:UInt8):CO 145 [.pp uS 0,.int .u8 (c.toNat:Int)] (.ret (.bool (dr c))):=by
 have hc:c.toNat<256:=UInt8.toNat_lt c
 have hl:Jw.length=256:=by decide
 have hh:List.headD (List.drop c.toNat uS) .dead= .bool (dr c):=by
  have h1:=Ga ⟨c.toNat,hc⟩
  simp only at h1
  rw [Jy,← List.map_drop,List.drop_eq_getElem_cons (by omega),List.map_cons,List.headD_cons]
  rw [List.getD_eq_getElem?_getD,List.getElem?_eq_getElem (by omega)] at h1
  unfold dr
  rw [← h1];rfl
 have h:=MZ uS c.toNat
 rw [aD,Nat.zero_add,Nat.mul_one,hh] at h
 exact h rfl (by rw [bI];exact decide_eq_true (by omega)) (by rw [aP];exact decide_eq_true hc)
def Qj (s:List UInt8):St:=⟨[(0,.str s),(1,.pp uS 0)],[],.dead,[]⟩
def I2 (s:List UInt8):St:=⟨[(0,.str s)],[],.dead,[]⟩
theorem Ik {nt:Nat} (hn:16≤nt):∀ (s:List UInt8),s.length<2^40→aA prog ap [] nt (ac 0 (ae f133)) (fun _=> .exit 0) Qj I2 s (s.dropWhile dr):=by
 intro s
 induction s with
 |nil=>exact fun _=> .done (SR hn [] uS true rfl)
 | cons c s ih=>
  intro hl
  simp only [List.length_cons] at hl
  rw [List.dropWhile_cons]
  have hc:=DK c
  cases hb:dr c with
  |true=>
   rw [hb] at hc
   refine .next ?_ (by simpa using ih (by omega))
   have h:=SQ hn (c::s) uS true
   have e1:List.drop 1 (List.take (s.length+1) (c::s))=s:=by simp
   simp only [List.length_cons,List.getD_cons_zero] at h
   simp (disch:=first|omega|(simp [ai,ar]<;>omega)) only [bI,aY,Bool.not_true,bO,Bool.not_false,aP,bd,aD,e1] at h
   apply h<;>first|exact True.intro|omega|assumption|exact rfl
  |false=>
   rw [hb] at hc
   refine .done ?_
   have h:=SP hn (c::s) uS false
   simp only [List.length_cons,List.getD_cons_zero] at h
   simp (disch:=first|omega|(simp [ai,ar]<;>omega)) only [Bool.not_false,bd,aP,aY] at h
   apply h<;>first|exact True.intro|omega|assumption|exact rfl
def Fu (s:List UInt8):List UInt8:=(s.reverse.dropWhile dr).reverse
theorem Fv (s:List UInt8) (c:UInt8):Fu (s++ [c])=if dr c=true then Fu s else s++ [c]:=by
 unfold Fu
 rw [List.reverse_append]
 simp only [List.reverse_cons,List.reverse_nil,List.nil_append,List.singleton_append,List.dropWhile_cons]
 by_cases h:dr c=true
 ·simp [h]
 ·simp [h]
theorem Iu {nt:Nat} (hn:22≤nt):∀ (k:Nat) (s:List UInt8),s.length=k→k<2^40→aA prog ap [] nt (ac 0 (ae f136)) (fun _=> .exit 0) Qj I2 s (Fu s):=by
 intro k
 induction k with
 |zero=>
  intro s hs _
  have:s= []:=List.eq_nil_of_length_eq_zero hs
  subst this
  exact .done (SW hn [] uS true rfl)
 | succ k ih=>
  intro s hs hk
  rcases List.eq_nil_or_concat s with rfl|⟨s',c,rfl⟩
  ·simp at hs
  ·rw [List.concat_eq_append] at hs ⊢
   have hs':s'.length=k:=by simpa using hs
   rw [Fv]
   have hc:=DK c
   have hg:(s'++ [c]).getD s'.length 0=c:=by simp
   have e1:s'.length+1 - 1=s'.length:=rfl
   have htk:List.take s'.length (s'++ [c])=s':=by simp
   cases hb:dr c with
   |true=>
    rw [hb] at hc
    rw [if_pos rfl]
    refine .next ?_ (ih s' hs' (by omega))
    have h:=SV hn (s'++ [c]) uS true
    simp (disch:=first|omega|(simp [ai,ar]<;>omega)) only [List.length_append,List.length_cons,List.length_nil,Nat.zero_add,eV,e1,bI,aY,Bool.not_true,bO,Bool.not_false,aP,bd,aD,hg,htk,List.drop_zero] at h
    apply h<;>first|exact True.intro|omega|assumption|exact rfl
   |false=>
    rw [hb] at hc
    rw [if_neg (by simp)]
    refine .done ?_
    have h:=SU hn (s'++ [c]) uS false
    simp (disch:=first|omega|(simp [ai,ar]<;>omega)) only [Bool.not_false,bd,List.length_append,List.length_cons,List.length_nil,Nat.zero_add,eV,e1,bI,aY,aP,aD,hg] at h
    apply h<;>first|exact True.intro|omega|assumption|exact rfl
theorem Iv (s u v:List UInt8) (h0:lit true (s== [])=true):CO 128 [.str s,.str BM] (.ret (.str s)):=pK [] 2 3 (.k 1 h0 .nil) (.nil)
theorem Iw (s u v:List UInt8) (h0:lit false (s== [])=true) (c0:CO 132 [.str BM] (.ret (.tup [.agg uS,.bool true]))) (c1:CO 136 [.str s,.pp uS 0] (.ret (.str u))) (c2:CO 133 [.str u,.pp uS 0] (.ret (.str v))):CO 128 [.str s,.str BM] (.ret (.str v)):=pK [] 5 16 (.k 5 h0 .nil) (.c c2 (.c c1 (.c c0 .nil)))
theorem Hg (s v:List UInt8) (h0:lit true (s== [])=true):CO 111 [.str s] (.ret (.bool false)):=pK [] 4 15 (.k 3 h0 .nil) (.nil)
theorem Hh (s v:List UInt8) (h0:lit true (decide (((20:Nat):Int)<(((List.length s):Nat):Int)))=true) (h1:lit false (s== [])=true):CO 111 [.str s] (.ret (.bool false)):=pK [] 4 14 (.k 2 h0 (.c h1 .nil)) (.nil)
theorem Hi (s v:List UInt8) (h0:lit true (decide (((UInt8.toNat (List.getD s 0 0):Nat):Int)<((97:Nat):Int)))=true) (h1:(decide (((0:Nat):Int)<(((List.length s):Nat):Int)))=true) (h2:lit false (decide (((20:Nat):Int)<(((List.length s):Nat):Int)))=true) (h3:lit false (s== [])=true):CO 111 [.str s] (.ret (.bool false)):=pK [] 4 12 (.k 1 h0 (.k 1 h1 (.c h2 (.c h3 .nil)))) (.nil)
theorem Hj (s v:List UInt8) (h0:lit true (decide (((122:Nat):Int)<((UInt8.toNat (List.getD s 0 0):Nat):Int)))=true) (h1:(decide (((0:Nat):Int)<(((List.length s):Nat):Int)))=true) (h2:lit false (decide (((UInt8.toNat (List.getD s 0 0):Nat):Int)<((97:Nat):Int)))=true) (h3:lit false (decide (((20:Nat):Int)<(((List.length s):Nat):Int)))=true) (h4:lit false (s== [])=true):CO 111 [.str s] (.ret (.bool false)):=pK [] 4 8 (.c h0 (.k 1 h1 (.c h2 (.k 1 h1 (.c h3 (.c h4 .nil)))))) (.nil)
theorem Hk (s v:List UInt8) (h0:lit false (decide (((122:Nat):Int)<((UInt8.toNat (List.getD s 0 0):Nat):Int)))=true) (h1:(decide (((0:Nat):Int)<(((List.length s):Nat):Int)))=true) (h2:lit false (decide (((UInt8.toNat (List.getD s 0 0):Nat):Int)<((97:Nat):Int)))=true) (h3:lit false (decide (((20:Nat):Int)<(((List.length s):Nat):Int)))=true) (h4:lit false (s== [])=true) (c0:CO 128 [.str s,.str BM] (.ret (.str v))):CO 111 [.str s] (.ret (.bool (v== []))):=pK [] 4 0 (.c h0 (.k 1 h1 (.c h2 (.k 1 h1 (.c h3 (.c h4 .nil)))))) (.c c0 .nil)
theorem PJ {nt:Nat} (hn:50≤nt) (s:List UInt8) (k:Nat) (h0:lit true (!(((UInt8.toNat (List.getD s (Int.toNat (k:Int)) 0):Nat):Int)==((95:Nat):Int)))=true) (h1:lit true (decide (((UInt8.toNat (List.getD s (Int.toNat (k:Int)) 0):Nat):Int)<((48:Nat):Int)))=true) (h2:lit true (decide (((UInt8.toNat (List.getD s (Int.toNat (k:Int)) 0):Nat):Int)<((97:Nat):Int)))=true) (h3:(decide (((0:Nat):Int)≤(k:Int)))=true) (h4:(decide ((k:Int)<(((List.length s):Nat):Int)))=true) (h5:lit true (decide ((k:Int)<(((List.length s):Nat):Int)))=true):ah prog ap [] nt (ac 0 (ae f76)) ⟨[(0,.str s),(3,.int .i64 (k:Int))],[],.dead,[]⟩ (.ret) ⟨[(2,.bool false)],[],.dead,[]⟩:=pJ 76 [] 6 63 (.c h0 (.k 1 h1 (.k 1 h2 (.c h3 (.c h4 (.c h5 .nil)))))) (.nil) hn
theorem PK {nt:Nat} (hn:50≤nt) (s:List UInt8) (k:Nat) (h0:lit false (!(((UInt8.toNat (List.getD s (Int.toNat (k:Int)) 0):Nat):Int)==((95:Nat):Int)))=true) (h1:lit true (decide (((UInt8.toNat (List.getD s (Int.toNat (k:Int)) 0):Nat):Int)<((48:Nat):Int)))=true) (h2:lit true (decide (((UInt8.toNat (List.getD s (Int.toNat (k:Int)) 0):Nat):Int)<((97:Nat):Int)))=true) (h3:(decide (((0:Nat):Int)≤(k:Int)))=true) (h4:(decide ((k:Int)<(((List.length s):Nat):Int)))=true) (h5:lit true (decide ((k:Int)<(((List.length s):Nat):Int)))=true):ah prog ap [] nt (ac 0 (ae f76)) ⟨[(0,.str s),(3,.int .i64 (k:Int))],[],.dead,[]⟩ (.normal) ⟨[(0,.str s),(3,.int .i64 (IntKind.wrap .i64 ((k:Int)+((1:Nat):Int))))],[],.dead,[]⟩:=pJ 76 [] 6 31 (.c h0 (.k 1 h1 (.k 1 h2 (.c h3 (.c h4 (.c h5 .nil)))))) (.nil) hn
theorem PL {nt:Nat} (hn:50≤nt) (s:List UInt8) (k:Nat) (h0:lit true (!(((UInt8.toNat (List.getD s (Int.toNat (k:Int)) 0):Nat):Int)==((95:Nat):Int)))=true) (h1:lit true (decide (((57:Nat):Int)<((UInt8.toNat (List.getD s (Int.toNat (k:Int)) 0):Nat):Int)))=true) (h2:lit false (decide (((UInt8.toNat (List.getD s (Int.toNat (k:Int)) 0):Nat):Int)<((48:Nat):Int)))=true) (h3:lit true (decide (((UInt8.toNat (List.getD s (Int.toNat (k:Int)) 0):Nat):Int)<((97:Nat):Int)))=true) (h4:(decide (((0:Nat):Int)≤(k:Int)))=true) (h5:(decide ((k:Int)<(((List.length s):Nat):Int)))=true) (h6:lit true (decide ((k:Int)<(((List.length s):Nat):Int)))=true):ah prog ap [] nt (ac 0 (ae f76)) ⟨[(0,.str s),(3,.int .i64 (k:Int))],[],.dead,[]⟩ (.ret) ⟨[(2,.bool false)],[],.dead,[]⟩:=pJ 76 [] 6 55 (.c h0 (.c h1 (.c h2 (.k 1 h3 (.c h4 (.c h5 (.c h6 .nil))))))) (.nil) hn
theorem PM {nt:Nat} (hn:50≤nt) (s:List UInt8) (k:Nat) (h0:lit false (!(((UInt8.toNat (List.getD s (Int.toNat (k:Int)) 0):Nat):Int)==((95:Nat):Int)))=true) (h1:lit true (decide (((57:Nat):Int)<((UInt8.toNat (List.getD s (Int.toNat (k:Int)) 0):Nat):Int)))=true) (h2:lit false (decide (((UInt8.toNat (List.getD s (Int.toNat (k:Int)) 0):Nat):Int)<((48:Nat):Int)))=true) (h3:lit true (decide (((UInt8.toNat (List.getD s (Int.toNat (k:Int)) 0):Nat):Int)<((97:Nat):Int)))=true) (h4:(decide (((0:Nat):Int)≤(k:Int)))=true) (h5:(decide ((k:Int)<(((List.length s):Nat):Int)))=true) (h6:lit true (decide ((k:Int)<(((List.length s):Nat):Int)))=true):ah prog ap [] nt (ac 0 (ae f76)) ⟨[(0,.str s),(3,.int .i64 (k:Int))],[],.dead,[]⟩ (.normal) ⟨[(0,.str s),(3,.int .i64 (IntKind.wrap .i64 ((k:Int)+((1:Nat):Int))))],[],.dead,[]⟩:=pJ 76 [] 6 23 (.c h0 (.c h1 (.c h2 (.k 1 h3 (.c h4 (.c h5 (.c h6 .nil))))))) (.nil) hn
theorem PN {nt:Nat} (hn:50≤nt) (s:List UInt8) (k:Nat) (h0:lit false (decide (((57:Nat):Int)<((UInt8.toNat (List.getD s (Int.toNat (k:Int)) 0):Nat):Int)))=true) (h1:lit false (decide (((UInt8.toNat (List.getD s (Int.toNat (k:Int)) 0):Nat):Int)<((48:Nat):Int)))=true) (h2:lit true (decide (((UInt8.toNat (List.getD s (Int.toNat (k:Int)) 0):Nat):Int)<((97:Nat):Int)))=true) (h3:(decide (((0:Nat):Int)≤(k:Int)))=true) (h4:(decide ((k:Int)<(((List.length s):Nat):Int)))=true) (h5:lit true (decide ((k:Int)<(((List.length s):Nat):Int)))=true):ah prog ap [] nt (ac 0 (ae f76)) ⟨[(0,.str s),(3,.int .i64 (k:Int))],[],.dead,[]⟩ (.normal) ⟨[(0,.str s),(3,.int .i64 (IntKind.wrap .i64 ((k:Int)+((1:Nat):Int))))],[],.dead,[]⟩:=pJ 76 [] 6 7 (.k 1 h0 (.c h1 (.k 1 h2 (.c h3 (.c h4 (.c h5 .nil)))))) (.nil) hn
theorem PO {nt:Nat} (hn:50≤nt) (s:List UInt8) (k:Nat) (h0:lit true (!(((UInt8.toNat (List.getD s (Int.toNat (k:Int)) 0):Nat):Int)==((95:Nat):Int)))=true) (h1:lit true (decide (((UInt8.toNat (List.getD s (Int.toNat (k:Int)) 0):Nat):Int)<((48:Nat):Int)))=true) (h2:lit true (decide (((122:Nat):Int)<((UInt8.toNat (List.getD s (Int.toNat (k:Int)) 0):Nat):Int)))=true) (h3:lit false (decide (((UInt8.toNat (List.getD s (Int.toNat (k:Int)) 0):Nat):Int)<((97:Nat):Int)))=true) (h4:(decide (((0:Nat):Int)≤(k:Int)))=true) (h5:(decide ((k:Int)<(((List.length s):Nat):Int)))=true) (h6:lit true (decide ((k:Int)<(((List.length s):Nat):Int)))=true):ah prog ap [] nt (ac 0 (ae f76)) ⟨[(0,.str s),(3,.int .i64 (k:Int))],[],.dead,[]⟩ (.ret) ⟨[(2,.bool false)],[],.dead,[]⟩:=pJ 76 [] 6 61 (.c h0 (.k 1 h1 (.c h2 (.c h3 (.c h4 (.c h5 (.c h6 .nil))))))) (.nil) hn
theorem PP {nt:Nat} (hn:50≤nt) (s:List UInt8) (k:Nat) (h0:lit false (!(((UInt8.toNat (List.getD s (Int.toNat (k:Int)) 0):Nat):Int)==((95:Nat):Int)))=true) (h1:lit true (decide (((UInt8.toNat (List.getD s (Int.toNat (k:Int)) 0):Nat):Int)<((48:Nat):Int)))=true) (h2:lit true (decide (((122:Nat):Int)<((UInt8.toNat (List.getD s (Int.toNat (k:Int)) 0):Nat):Int)))=true) (h3:lit false (decide (((UInt8.toNat (List.getD s (Int.toNat (k:Int)) 0):Nat):Int)<((97:Nat):Int)))=true) (h4:(decide (((0:Nat):Int)≤(k:Int)))=true) (h5:(decide ((k:Int)<(((List.length s):Nat):Int)))=true) (h6:lit true (decide ((k:Int)<(((List.length s):Nat):Int)))=true):ah prog ap [] nt (ac 0 (ae f76)) ⟨[(0,.str s),(3,.int .i64 (k:Int))],[],.dead,[]⟩ (.normal) ⟨[(0,.str s),(3,.int .i64 (IntKind.wrap .i64 ((k:Int)+((1:Nat):Int))))],[],.dead,[]⟩:=pJ 76 [] 6 29 (.c h0 (.k 1 h1 (.c h2 (.c h3 (.c h4 (.c h5 (.c h6 .nil))))))) (.nil) hn
theorem PQ {nt:Nat} (hn:50≤nt) (s:List UInt8) (k:Nat) (h0:lit true (!(((UInt8.toNat (List.getD s (Int.toNat (k:Int)) 0):Nat):Int)==((95:Nat):Int)))=true) (h1:lit true (decide (((57:Nat):Int)<((UInt8.toNat (List.getD s (Int.toNat (k:Int)) 0):Nat):Int)))=true) (h2:lit false (decide (((UInt8.toNat (List.getD s (Int.toNat (k:Int)) 0):Nat):Int)<((48:Nat):Int)))=true) (h3:lit true (decide (((122:Nat):Int)<((UInt8.toNat (List.getD s (Int.toNat (k:Int)) 0):Nat):Int)))=true) (h4:lit false (decide (((UInt8.toNat (List.getD s (Int.toNat (k:Int)) 0):Nat):Int)<((97:Nat):Int)))=true) (h5:(decide (((0:Nat):Int)≤(k:Int)))=true) (h6:(decide ((k:Int)<(((List.length s):Nat):Int)))=true) (h7:lit true (decide ((k:Int)<(((List.length s):Nat):Int)))=true):ah prog ap [] nt (ac 0 (ae f76)) ⟨[(0,.str s),(3,.int .i64 (k:Int))],[],.dead,[]⟩ (.ret) ⟨[(2,.bool false)],[],.dead,[]⟩:=pJ 76 [] 6 53 (.c h0 (.c h1 (.c h2 (.c h3 (.c h4 (.c h5 (.c h6 (.c h7 .nil)))))))) (.nil) hn
theorem PT {nt:Nat} (hn:50≤nt) (s:List UInt8) (k:Nat) (h0:lit false (!(((UInt8.toNat (List.getD s (Int.toNat (k:Int)) 0):Nat):Int)==((95:Nat):Int)))=true) (h1:lit true (decide (((57:Nat):Int)<((UInt8.toNat (List.getD s (Int.toNat (k:Int)) 0):Nat):Int)))=true) (h2:lit false (decide (((UInt8.toNat (List.getD s (Int.toNat (k:Int)) 0):Nat):Int)<((48:Nat):Int)))=true) (h3:lit true (decide (((122:Nat):Int)<((UInt8.toNat (List.getD s (Int.toNat (k:Int)) 0):Nat):Int)))=true) (h4:lit false (decide (((UInt8.toNat (List.getD s (Int.toNat (k:Int)) 0):Nat):Int)<((97:Nat):Int)))=true) (h5:(decide (((0:Nat):Int)≤(k:Int)))=true) (h6:(decide ((k:Int)<(((List.length s):Nat):Int)))=true) (h7:lit true (decide ((k:Int)<(((List.length s):Nat):Int)))=true):ah prog ap [] nt (ac 0 (ae f76)) ⟨[(0,.str s),(3,.int .i64 (k:Int))],[],.dead,[]⟩ (.normal) ⟨[(0,.str s),(3,.int .i64 (IntKind.wrap .i64 ((k:Int)+((1:Nat):Int))))],[],.dead,[]⟩:=pJ 76 [] 6 21 (.c h0 (.c h1 (.c h2 (.c h3 (.c h4 (.c h5 (.c h6 (.c h7 .nil)))))))) (.nil) hn
theorem PU {nt:Nat} (hn:50≤nt) (s:List UInt8) (k:Nat) (h0:lit false (decide (((57:Nat):Int)<((UInt8.toNat (List.getD s (Int.toNat (k:Int)) 0):Nat):Int)))=true) (h1:lit false (decide (((UInt8.toNat (List.getD s (Int.toNat (k:Int)) 0):Nat):Int)<((48:Nat):Int)))=true) (h2:lit true (decide (((122:Nat):Int)<((UInt8.toNat (List.getD s (Int.toNat (k:Int)) 0):Nat):Int)))=true) (h3:lit false (decide (((UInt8.toNat (List.getD s (Int.toNat (k:Int)) 0):Nat):Int)<((97:Nat):Int)))=true) (h4:(decide (((0:Nat):Int)≤(k:Int)))=true) (h5:(decide ((k:Int)<(((List.length s):Nat):Int)))=true) (h6:lit true (decide ((k:Int)<(((List.length s):Nat):Int)))=true):ah prog ap [] nt (ac 0 (ae f76)) ⟨[(0,.str s),(3,.int .i64 (k:Int))],[],.dead,[]⟩ (.normal) ⟨[(0,.str s),(3,.int .i64 (IntKind.wrap .i64 ((k:Int)+((1:Nat):Int))))],[],.dead,[]⟩:=pJ 76 [] 6 5 (.k 1 h0 (.c h1 (.c h2 (.c h3 (.c h4 (.c h5 (.c h6 .nil))))))) (.nil) hn
theorem K_ {nt:Nat} (hn:50≤nt) (s:List UInt8) (k:Nat) (h0:lit false (decide (((122:Nat):Int)<((UInt8.toNat (List.getD s (Int.toNat (k:Int)) 0):Nat):Int)))=true) (h1:lit false (decide (((UInt8.toNat (List.getD s (Int.toNat (k:Int)) 0):Nat):Int)<((97:Nat):Int)))=true) (h2:(decide (((0:Nat):Int)≤(k:Int)))=true) (h3:(decide ((k:Int)<(((List.length s):Nat):Int)))=true) (h4:lit true (decide ((k:Int)<(((List.length s):Nat):Int)))=true):ah prog ap [] nt (ac 0 (ae f76)) ⟨[(0,.str s),(3,.int .i64 (k:Int))],[],.dead,[]⟩ (.normal) ⟨[(0,.str s),(3,.int .i64 (IntKind.wrap .i64 ((k:Int)+((1:Nat):Int))))],[],.dead,[]⟩:=pJ 76 [] 5 1 (.k 2 h0 (.c h1 (.c h2 (.c h3 (.c h4 .nil))))) (.nil) hn
theorem La {nt:Nat} (hn:50≤nt) (s:List UInt8) (k:Nat) (h0:lit false (decide ((k:Int)<(((List.length s):Nat):Int)))=true):ah prog ap [] nt (ac 0 (ae f76)) ⟨[(0,.str s),(3,.int .i64 (k:Int))],[],.dead,[]⟩ (.exit 0) ⟨[],[],.dead,[]⟩:=pJ 76 [] 1 0 (.c h0 .nil) (.nil) hn
theorem K4 (s:List UInt8) (h0:lit true (decide ((((List.length s):Nat):Int)<((1:Nat):Int)))=true):CO 76 [.str s] (.ret (.bool false)):=pK [0] 4 15 (.k 3 h0 .nil) (.nil)
theorem K5 (s:List UInt8) (h0:lit true (decide (((20:Nat):Int)<(((List.length s):Nat):Int)))=true) (h1:lit false (decide ((((List.length s):Nat):Int)<((1:Nat):Int)))=true):CO 76 [.str s] (.ret (.bool false)):=pK [0] 4 14 (.k 2 h0 (.c h1 .nil)) (.nil)
theorem K6 (s:List UInt8) (h0:lit true (decide (((UInt8.toNat (List.getD s 0 0):Nat):Int)<((97:Nat):Int)))=true) (h1:(decide (((0:Nat):Int)<(((List.length s):Nat):Int)))=true) (h2:lit false (decide (((20:Nat):Int)<(((List.length s):Nat):Int)))=true) (h3:lit false (decide ((((List.length s):Nat):Int)<((1:Nat):Int)))=true):CO 76 [.str s] (.ret (.bool false)):=pK [0] 4 12 (.k 1 h0 (.k 1 h1 (.c h2 (.c h3 .nil)))) (.nil)
theorem K7 (s:List UInt8) (h0:lit true (decide (((122:Nat):Int)<((UInt8.toNat (List.getD s 0 0):Nat):Int)))=true) (h1:(decide (((0:Nat):Int)<(((List.length s):Nat):Int)))=true) (h2:lit false (decide (((UInt8.toNat (List.getD s 0 0):Nat):Int)<((97:Nat):Int)))=true) (h3:lit false (decide (((20:Nat):Int)<(((List.length s):Nat):Int)))=true) (h4:lit false (decide ((((List.length s):Nat):Int)<((1:Nat):Int)))=true):CO 76 [.str s] (.ret (.bool false)):=pK [0] 4 8 (.c h0 (.k 1 h1 (.c h2 (.k 1 h1 (.c h3 (.c h4 .nil)))))) (.nil)
theorem K8 (s:List UInt8) (h0:lit false (decide (((122:Nat):Int)<((UInt8.toNat (List.getD s 0 0):Nat):Int)))=true) (h1:(decide (((0:Nat):Int)<(((List.length s):Nat):Int)))=true) (h2:lit false (decide (((UInt8.toNat (List.getD s 0 0):Nat):Int)<((97:Nat):Int)))=true) (h3:lit false (decide (((20:Nat):Int)<(((List.length s):Nat):Int)))=true) (h4:lit false (decide ((((List.length s):Nat):Int)<((1:Nat):Int)))=true) (l0:aC prog ap [] 50 (.block 0 (.loop (ac 0 (ae f76)))) ⟨[(0,.str s),(2,.bool false),(3,.int .i64 0),(4,.dead),(22,.bool (decide (((122:Nat):Int)<((UInt8.toNat (List.getD s 0 0):Nat):Int)))),(26,.dead),(49,.dead)],[],.dead,[]⟩ (.normal) ⟨[],[],.dead,[]⟩):CO 76 [.str s] (.ret (.bool true)):=pK [0] 4 0 (.c h0 (.k 1 h1 (.c h2 (.k 1 h1 (.c h3 (.c h4 .nil)))))) (.l l0 .nil)
theorem K9 (s:List UInt8) (h0:lit false (decide (((122:Nat):Int)<((UInt8.toNat (List.getD s 0 0):Nat):Int)))=true) (h1:(decide (((0:Nat):Int)<(((List.length s):Nat):Int)))=true) (h2:lit false (decide (((UInt8.toNat (List.getD s 0 0):Nat):Int)<((97:Nat):Int)))=true) (h3:lit false (decide (((20:Nat):Int)<(((List.length s):Nat):Int)))=true) (h4:lit false (decide ((((List.length s):Nat):Int)<((1:Nat):Int)))=true) (l0:aC prog ap [] 50 (.block 0 (.loop (ac 0 (ae f76)))) ⟨[(0,.str s),(2,.bool false),(3,.int .i64 0),(4,.dead),(22,.bool (decide (((122:Nat):Int)<((UInt8.toNat (List.getD s 0 0):Nat):Int)))),(26,.dead),(49,.dead)],[],.dead,[]⟩ (.ret) ⟨[(2,.bool false)],[],.dead,[]⟩):CO 76 [.str s] (.ret (.bool false)):=pK [0] 4 0 (.c h0 (.k 1 h1 (.c h2 (.k 1 h1 (.c h3 (.c h4 .nil)))))) (.l l0 .nil)
def kN (s:List UInt8):Bool:= !(s== []) && decide (s.length≤20) && decide (97≤(s.getD 0 0).toNat) && decide ((s.getD 0 0).toNat≤122) && s.all dr
theorem ve {p:UInt8→Bool}:∀ {l:List UInt8},l.dropWhile p= []↔∀ x ∈ l,p x=true
 | []=>by simp
 |c::l=>by
  rw [List.dropWhile_cons]
  cases h:p c with
  |true=>simp [h,ve (l:=l)]
  |false=>simp [h]
theorem Fy {s:List UInt8}:(Fu s).dropWhile dr= []↔s.all dr=true:=by
 unfold Fu
 rw [List.all_eq_true]
 constructor
 ·intro h
  have h1:∀ x ∈ (s.reverse.dropWhile dr),dr x=true:=by
   intro x hx
   exact ve.1 h x (by simpa using hx)
  have h2:s.reverse.dropWhile dr= []:=by
   cases hd:s.reverse.dropWhile dr with
   |nil=>rfl
   | cons y r=>
    exfalso
    have h3:=h1 y (by rw [hd];simp)
    have h4:∀ (l:List UInt8),l.dropWhile dr=y::r→dr y=false:=by
     intro l
     induction l with
     |nil=>intro h;simp at h
     | cons z l ih=>
      intro h
      rw [List.dropWhile_cons] at h
      split at h
      ·exact ih h
      ·rename_i hz
       cases h
       simpa using hz
    rw [h4 _ hd] at h3
    cases h3
  intro x hx
  exact ve.1 h2 x (by simpa using hx)
 ·intro h
  have:s.reverse.dropWhile dr= []:=ve.2 fun x hx=>h x (by simpa using hx)
  rw [this];rfl
theorem LA (s:List UInt8) (hs:s.length<2^40):CO 133 [.str s,.pp uS 0] (.ret (.str (s.dropWhile dr))):=
 QF s _ uS (aA.blk (fun nt hn=>Ik hn s hs) (by simp) rfl (aF.of ⟨rfl,rfl,trivial⟩) (aF.of ⟨rfl,trivial⟩))
theorem LB (s:List UInt8) (hs:s.length<2^40):CO 136 [.str s,.pp uS 0] (.ret (.str (Fu s))):=
 QQ s _ uS (aA.blk (fun nt hn=>Iu hn _ s rfl hs) (by simp) rfl (aF.of ⟨rfl,rfl,trivial⟩) (aF.of ⟨rfl,trivial⟩))
theorem Ir (s:List UInt8):(Fu s).length≤s.length:=by
 unfold Fu
 rw [List.length_reverse]
 have:=(List.dropWhile_sublist dr (l:=s.reverse)).length_le
 simpa using this
theorem Iy (s:List UInt8) (hs:s.length<2^40):CO 128 [.str s,.str BM] (.ret (.str ((Fu s).dropWhile dr))):=by
 by_cases h:s= []
 ·subst h
  exact Iv [] [] [] rfl
 ·have hl:=Ir s
  exact Iw s _ _ (by simp [lit,h]) Jz (LB s hs) (LA _ (by omega))
theorem fW (s:List UInt8):CO 111 [.str s] (.ret (.bool (kN s))):=by
 unfold kN
 by_cases h0:s= []
 ·subst h0;exact Hg [] [] rfl
 ·have hne:(s== [])=false:=by simpa using h0
  have hl0:0<s.length:=by cases s with|nil=>exact absurd rfl h0|cons _ _=>simp
  rw [hne]
  by_cases h1:s.length≤20
  ·have c1:lit false (decide (((20:Nat):Int)<(s.length:Int)))=true:=by rw [aP];simp [lit,h1]
   have cl:decide (((0:Nat):Int)<(s.length:Int))=true:=by rw [aP];exact decide_eq_true hl0
   rw [decide_eq_true h1]
   by_cases h2:97≤(s.getD 0 0).toNat
   ·rw [decide_eq_true h2]
    have c2:lit false (decide (((s.getD 0 0).toNat:Int)<((97:Nat):Int)))=true:=by rw [aP];simp only [lit,Bool.not_eq_true'];exact decide_eq_false (by omega)
    by_cases h3:(s.getD 0 0).toNat≤122
    ·rw [decide_eq_true h3]
     have c3:lit false (decide (((122:Nat):Int)<((s.getD 0 0).toNat:Int)))=true:=by rw [aP];simp only [lit,Bool.not_eq_true'];exact decide_eq_false (by omega)
     have h:=Hk s _ c3 cl c2 c1 (by rw [hne];rfl) (Iy s (by omega))
     have e:((Fu s).dropWhile dr== [])=s.all dr:=by
      rw [Bool.eq_iff_iff,← Fy];simp
     rw [e] at h
     exact h
    ·rw [decide_eq_false h3]
     exact Hj s [] (by rw [aP];exact decide_eq_true (by omega)) cl c2 c1 (by rw [hne];rfl)
   ·rw [decide_eq_false h2]
    exact Hi s [] (by rw [aP];exact decide_eq_true (by omega)) cl c1 (by rw [hne];rfl)
  ·rw [decide_eq_false h1]
   exact Hh s [] (by rw [aP];exact decide_eq_true (by omega)) (by rw [hne];rfl)
def ET (s:List UInt8) (k:Nat):St:=⟨[(0,.str s),(3,.int .i64 (k:Int))],[],.dead,[]⟩
def ER:Bool→St
 |true=> ⟨[],[],.dead,[]⟩
 |false=> ⟨[(2,.bool false)],[],.dead,[]⟩
def Sl:Bool→bk
 |true=> .exit 0
 |false=> .ret
theorem EU {nt:Nat} (hn:50≤nt) (s:List UInt8) (k c:Nat) (hk:k<s.length) (hs:s.length<2^40) (hg:(s.getD k 0).toNat=c):
  (J0 c=true→ah prog ap [] nt (ac 0 (ae f76)) (ET s k) .normal (ET s (k+1)))∧(J0 c=false→ah prog ap [] nt (ac 0 (ae f76)) (ET s k) .ret (ER false)):=by
 have hIn:J0 c=true↔((97≤c∧c≤122)∨(48≤c∧c≤57))∨c=95:=by unfold J0;simp
 unfold ET ER
 have b0:=PJ hn s k
 simp (disch:=first|omega|(simp [ai,ar]<;>omega)) only [aD,hg,eP,bd,bY,b_,aP,aY,bI] at b0
 have b1:=PK hn s k
 simp (disch:=first|omega|(simp [ai,ar]<;>omega)) only [aD,hg,eP,bO,bY,pD,aY,aP,bd,bI,bG,aZ] at b1
 have b2:=PL hn s k
 simp (disch:=first|omega|(simp [ai,ar]<;>omega)) only [aD,hg,eP,bd,bY,b_,aP,aY,bO,bI] at b2
 have b3:=PM hn s k
 simp (disch:=first|omega|(simp [ai,ar]<;>omega)) only [aD,hg,eP,bO,bY,pD,aY,aP,bd,b_,bI,bG,aZ] at b3
 have b4:=PN hn s k
 simp (disch:=first|omega|(simp [ai,ar]<;>omega)) only [aD,hg,aP,bO,bY,b_,bd,aY,bI,bG,aZ] at b4
 have b5:=PO hn s k
 simp (disch:=first|omega|(simp [ai,ar]<;>omega)) only [aD,hg,eP,bd,bY,b_,aP,aY,bO,bI] at b5
 have b6:=PP hn s k
 simp (disch:=first|omega|(simp [ai,ar]<;>omega)) only [aD,hg,eP,bO,bY,pD,aY,aP,bd,b_,bI,bG,aZ] at b6
 have b7:=PQ hn s k
 simp (disch:=first|omega|(simp [ai,ar]<;>omega)) only [aD,hg,eP,bd,bY,b_,aP,aY,bO,bI] at b7
 have b8:=PT hn s k
 simp (disch:=first|omega|(simp [ai,ar]<;>omega)) only [aD,hg,eP,bO,bY,pD,aY,aP,bd,b_,bI,bG,aZ] at b8
 have b9:=PU hn s k
 simp (disch:=first|omega|(simp [ai,ar]<;>omega)) only [aD,hg,aP,bO,bY,b_,bd,aY,bI,bG,aZ] at b9
 have b10:=K_ hn s k
 simp (disch:=first|omega|(simp [ai,ar]<;>omega)) only [aD,hg,aP,bO,bY,b_,bI,aY,bd,bG,aZ] at b10
 constructor
 ·intro hi
  have hi':=hIn.1 hi
  by_cases h1:c<97<;>by_cases h2:122<c<;>by_cases h3:c<48<;>by_cases h4:57<c<;>by_cases h5:c=95<;>first
   |(exfalso;omega)
   |(apply b1<;>omega)
   |(apply b3<;>omega)
   |(apply b4<;>omega)
   |(apply b6<;>omega)
   |(apply b8<;>omega)
   |(apply b9<;>omega)
   |(apply b10<;>omega)
 ·intro hi
  have hi':¬ (((97≤c∧c≤122)∨(48≤c∧c≤57))∨c=95):=by rw [← hIn,hi];simp
  have e1:c ≠ 95:=fun h=>hi' (.inr h)
  have e2:c<97∨122<c:=by
   rcases Nat.lt_or_ge c 97 with h|h
   ·exact .inl h
   ·rcases Nat.lt_or_ge 122 c with h'|h'
    ·exact .inr h'
    ·exact absurd (.inl (.inl ⟨h,h'⟩)) hi'
  have e3:c<48∨57<c:=by
   rcases Nat.lt_or_ge c 48 with h|h
   ·exact .inl h
   ·rcases Nat.lt_or_ge 57 c with h'|h'
    ·exact .inr h'
    ·exact absurd (.inl (.inr ⟨h,h'⟩)) hi'
  clear hi'
  by_cases h1:c<97<;>by_cases h2:122<c<;>by_cases h3:c<48<;>by_cases h4:57<c<;>by_cases h5:c=95<;>first
   |(exfalso;omega)
   |(apply b0<;>omega)
   |(apply b2<;>omega)
   |(apply b5<;>omega)
   |(apply b7<;>omega)
theorem HW {nt:Nat} (hn:50≤nt) (s:List UInt8) (hs:s.length<2^40):∀ (r p:List UInt8),p++r=s→aA prog ap [] nt (ac 0 (ae f76)) Sl (ET s) ER p.length (r.all dr):=by
 intro r
 induction r with
 |nil=>
  intro p h
  have hp:p.length=s.length:=by rw [← h];simp
  rw [hp]
  exact .done (La hn s _ (by rw [aP];simp [lit]))
 | cons c r ih=>
  intro p h
  have hl:p.length+(r.length+1)=s.length:=by rw [← h];simp
  have hg:s.getD p.length 0=c:=by rw [← h];exact Bv rfl
  obtain ⟨r1,r2⟩:=EU hn s p.length c.toNat (by omega) hs (by rw [hg])
  rw [List.all_cons]
  have e:dr c=J0 c.toNat:=rfl
  cases hb:dr c with
  |true=>
   have hnext:=ih (p++ [c]) (by simp [h])
   rw [List.length_append,List.length_singleton] at hnext
   rw [Bool.true_and]
   exact .next (r1 (e ▸ hb)) hnext
  |false=>exact .done (r2 (e ▸ hb))
theorem EV (s:List UInt8):CO 76 [.str s] (.ret (.bool (kN s))):=by
 unfold kN
 by_cases h0:s= []
 ·subst h0;exact K4 [] rfl
 ·have hne:(s== [])=false:=by simpa using h0
  have hl0:0<s.length:=by cases s with|nil=>exact absurd rfl h0|cons _ _=>simp
  have c0:lit false (decide ((s.length:Int)<((1:Nat):Int)))=true:=by rw [aP];simp only [lit,Bool.not_eq_true'];exact decide_eq_false (by omega)
  rw [hne]
  by_cases h1:s.length≤20
  ·have c1:lit false (decide (((20:Nat):Int)<(s.length:Int)))=true:=by rw [aP];simp [lit,h1]
   have cl:decide (((0:Nat):Int)<(s.length:Int))=true:=by rw [aP];exact decide_eq_true hl0
   rw [decide_eq_true h1]
   by_cases h2:97≤(s.getD 0 0).toNat
   ·rw [decide_eq_true h2]
    have c2:lit false (decide (((s.getD 0 0).toNat:Int)<((97:Nat):Int)))=true:=by rw [aP];simp only [lit,Bool.not_eq_true'];exact decide_eq_false (by omega)
    by_cases h3:(s.getD 0 0).toNat≤122
    ·rw [decide_eq_true h3]
     have c3:lit false (decide (((122:Nat):Int)<((s.getD 0 0).toNat:Int)))=true:=by rw [aP];simp only [lit,Bool.not_eq_true'];exact decide_eq_false (by omega)
     have hloop:=fun nt (hn:50≤nt)=>HW hn s (by omega) s [] rfl
     cases hb:s.all dr with
     |true=>
      rw [hb] at hloop
      have h:=K8 s c3 cl c2 c1 c0
      exact h (aA.blk hloop (by simp [Sl]) rfl (aF.of ⟨rfl,rfl,trivial⟩) (aF.of trivial))
     |false=>
      rw [hb] at hloop
      have h:=K9 s c3 cl c2 c1 c0
      exact h (aA.blk hloop (by simp [Sl]) rfl (aF.of ⟨rfl,rfl,trivial⟩) (aF.of ⟨rfl,trivial⟩))
    ·rw [decide_eq_false h3]
     exact K7 s (by rw [aP];exact decide_eq_true (by omega)) cl c2 c1 c0
   ·rw [decide_eq_false h2]
    exact K6 s (by rw [aP];exact decide_eq_true (by omega)) cl c1 c0
  ·rw [decide_eq_false h1]
   exact K5 s (by rw [aP];exact decide_eq_true (by omega)) c0
def eR:List AV:= [.str [],.int .i64 0,.bool false,.bool false,.bool false,.str [36],.int .i64 0,.bool true,.bool false,.bool false,.str [],.int .i64 0,.bool true,.bool false,.bool false,.str [],.int .i64 0,.bool true,.bool false,.bool false,.str [],.int .i64 0,.bool true,.bool false,.bool false,.str [102,97,99,116,46],.int .i64 0,.bool false,.bool true,.bool false,.str [111,119,110,46],.int .i64 0,.bool false,.bool true,.bool false,.str [112,114,105,111,114,46],.int .i64 0,.bool false,.bool true,.bool false,.str [115,112,111,117,115,101,46],.int .i64 0,.bool false,.bool true,.bool false,.str [97,100,100],.int .i64 2,.bool false,.bool false,.bool false,.str [115,117,98],.int .i64 2,.bool false,.bool false,.bool false,.str [109,117,108],.int .i64 2,.bool false,.bool false,.bool false,.str [100,105,118],.int .i64 2,.bool false,.bool false,.bool false,.str [109,105,110],.int .i64 2,.bool false,.bool false,.bool false,.str [109,97,120],.int .i64 2,.bool false,.bool false,.bool false,.str [105,102],.int .i64 3,.bool false,.bool false,.bool false,.str [108,101,115,115],.int .i64 2,.bool false,.bool false,.bool false,.str [101,113,117,97,108],.int .i64 2,.bool false,.bool false,.bool false,.str [97,110,100],.int .i64 2,.bool false,.bool false,.bool false,.str [111,114],.int .i64 2,.bool false,.bool false,.bool false,.str [110,111,116],.int .i64 1,.bool false,.bool false,.bool false,.str [100,111,119,110],.int .i64 1,.bool false,.bool false,.bool true,.str [117,112],.int .i64 1,.bool false,.bool false,.bool true,.str [110,101,97,114],.int .i64 1,.bool false,.bool false,.bool true,.str [114,97,116,101,46],.int .i64 1,.bool false,.bool true,.bool false]
theorem Ol (op:Int) (h0:lit true (decide (op<((1:Nat):Int)))=true):CO 109 [.int .i64 op] (.ret (.tup [.agg [.str [],.int .i64 0,.bool false,.bool false,.bool false],.bool false])):=pK [] 2 3 (.k 7 h0 .nil) (.nil)
theorem Om (op:Int) (h0:lit true (decide (((24:Nat):Int)<op))=true) (h1:lit false (decide (op<((1:Nat):Int)))=true):CO 109 [.int .i64 op] (.ret (.tup [.agg [.str [],.int .i64 0,.bool false,.bool false,.bool false],.bool false])):=pK [] 2 2 (.k 6 h0 (.c h1 .nil)) (.nil)
theorem Oo (op:Int) (h0:(chk .str (List.headD (List.drop (0+((Int.toNat op)*5)) eR) .dead))=true) (h1:(chk (.int .i64) (List.headD (List.tail (List.drop (0+((Int.toNat op)*5)) eR)) .dead))=true) (h2:(chk .bool (List.headD (List.tail (List.tail (List.drop (0+((Int.toNat op)*5)) eR))) .dead))=true) (h3:(chk .bool (List.headD (List.tail (List.tail (List.tail (List.drop (0+((Int.toNat op)*5)) eR)))) .dead))=true) (h4:(chk .bool (List.headD (List.tail (List.tail (List.tail (List.tail (List.drop (0+((Int.toNat op)*5)) eR))))) .dead))=true) (h5:(decide (((0:Nat):Int)≤op))=true) (h6:(decide (op<((25:Nat):Int)))=true) (h7:lit false (decide (((24:Nat):Int)<op))=true) (h8:lit false (decide (op<((1:Nat):Int)))=true):CO 109 [.int .i64 op] (.ret (.tup [.agg [.str (AV.toStr (List.headD (List.drop (0+((Int.toNat op)*5)) eR) .dead)),.int .i64 (AV.toInt (List.headD (List.tail (List.drop (0+((Int.toNat op)*5)) eR)) .dead)),.bool (AV.toBool (List.headD (List.tail (List.tail (List.drop (0+((Int.toNat op)*5)) eR))) .dead)),.bool (AV.toBool (List.headD (List.tail (List.tail (List.tail (List.drop (0+((Int.toNat op)*5)) eR)))) .dead)),.bool (AV.toBool (List.headD (List.tail (List.tail (List.tail (List.tail (List.drop (0+((Int.toNat op)*5)) eR))))) .dead))],.bool true])):=pK [] 2 0 (.k 6 h0 (.c h1 (.c h2 (.c h3 (.c h4 (.c h5 (.c h6 (.c h7 (.c h8 .nil))))))))) (.nil)
theorem Jm (op:Int) (h0:lit true (op==((15:Nat):Int))=true):CO 48 [.int .i64 op] (.ret (.int .i64 3)):=pK [] 1 1 (.c h0 .nil) (.nil)
theorem Jn (op:Int) (h0:lit true (decide (op≤((14:Nat):Int)))=true) (h1:lit true (decide (((9:Nat):Int)≤op))=true) (h2:lit false (op==((15:Nat):Int))=true):CO 48 [.int .i64 op] (.ret (.int .i64 2)):=pK [] 4 14 (.k 1 h0 (.c h1 (.c h2 .nil))) (.nil)
theorem Jo (op:Int) (h0:lit true (decide (op≤((19:Nat):Int)))=true) (h1:lit true (decide (((16:Nat):Int)≤op))=true) (h2:lit false (decide (op≤((14:Nat):Int)))=true) (h3:lit true (decide (((9:Nat):Int)≤op))=true) (h4:lit false (op==((15:Nat):Int))=true):CO 48 [.int .i64 op] (.ret (.int .i64 2)):=pK [] 5 26 (.c h0 (.c h1 (.c h2 (.c h3 (.c h4 .nil))))) (.nil)
theorem Jp (op:Int) (h0:lit true (decide (op≤((24:Nat):Int)))=true) (h1:lit true (decide (((20:Nat):Int)≤op))=true) (h2:lit false (decide (op≤((19:Nat):Int)))=true) (h3:lit true (decide (((16:Nat):Int)≤op))=true) (h4:lit false (decide (op≤((14:Nat):Int)))=true) (h5:lit true (decide (((9:Nat):Int)≤op))=true) (h6:lit false (op==((15:Nat):Int))=true):CO 48 [.int .i64 op] (.ret (.int .i64 1)):=pK [] 7 106 (.c h0 (.c h1 (.c h2 (.c h3 (.c h4 (.c h5 (.c h6 .nil))))))) (.nil)
theorem Jq (op:Int) (h0:lit false (decide (op≤((24:Nat):Int)))=true) (h1:lit true (decide (((20:Nat):Int)≤op))=true) (h2:lit false (decide (op≤((19:Nat):Int)))=true) (h3:lit true (decide (((16:Nat):Int)≤op))=true) (h4:lit false (decide (op≤((14:Nat):Int)))=true) (h5:lit true (decide (((9:Nat):Int)≤op))=true) (h6:lit false (op==((15:Nat):Int))=true):CO 48 [.int .i64 op] (.ret (.int .i64 0)):=pK [] 7 42 (.c h0 (.c h1 (.c h2 (.c h3 (.c h4 (.c h5 (.c h6 .nil))))))) (.nil)
theorem Jr (op:Int) (h0:lit false (decide (((20:Nat):Int)≤op))=true) (h1:lit false (decide (op≤((19:Nat):Int)))=true) (h2:lit true (decide (((16:Nat):Int)≤op))=true) (h3:lit false (decide (op≤((14:Nat):Int)))=true) (h4:lit true (decide (((9:Nat):Int)≤op))=true) (h5:lit false (op==((15:Nat):Int))=true):CO 48 [.int .i64 op] (.ret (.int .i64 0)):=pK [] 7 10 (.k 1 h0 (.c h1 (.c h2 (.c h3 (.c h4 (.c h5 .nil)))))) (.nil)
theorem Js (op:Int) (h0:lit true (decide (op≤((24:Nat):Int)))=true) (h1:lit true (decide (((20:Nat):Int)≤op))=true) (h2:lit false (decide (((16:Nat):Int)≤op))=true) (h3:lit false (decide (op≤((14:Nat):Int)))=true) (h4:lit true (decide (((9:Nat):Int)≤op))=true) (h5:lit false (op==((15:Nat):Int))=true):CO 48 [.int .i64 op] (.ret (.int .i64 1)):=pK [] 7 98 (.c h0 (.c h1 (.k 1 h2 (.c h3 (.c h4 (.c h5 .nil)))))) (.nil)
theorem Jt (op:Int) (h0:lit false (decide (op≤((24:Nat):Int)))=true) (h1:lit true (decide (((20:Nat):Int)≤op))=true) (h2:lit false (decide (((16:Nat):Int)≤op))=true) (h3:lit false (decide (op≤((14:Nat):Int)))=true) (h4:lit true (decide (((9:Nat):Int)≤op))=true) (h5:lit false (op==((15:Nat):Int))=true):CO 48 [.int .i64 op] (.ret (.int .i64 0)):=pK [] 7 34 (.c h0 (.c h1 (.k 1 h2 (.c h3 (.c h4 (.c h5 .nil)))))) (.nil)
theorem Ju (op:Int) (h0:lit false (decide (((20:Nat):Int)≤op))=true) (h1:lit false (decide (((16:Nat):Int)≤op))=true) (h2:lit false (decide (op≤((14:Nat):Int)))=true) (h3:lit true (decide (((9:Nat):Int)≤op))=true) (h4:lit false (op==((15:Nat):Int))=true):CO 48 [.int .i64 op] (.ret (.int .i64 0)):=pK [] 7 2 (.k 1 h0 (.k 1 h1 (.c h2 (.c h3 (.c h4 .nil))))) (.nil)
theorem Jv (op:Int) (h0:lit true (decide (op≤((19:Nat):Int)))=true) (h1:lit true (decide (((16:Nat):Int)≤op))=true) (h2:lit false (decide (((9:Nat):Int)≤op))=true) (h3:lit false (op==((15:Nat):Int))=true):CO 48 [.int .i64 op] (.ret (.int .i64 2)):=pK [] 5 24 (.c h0 (.c h1 (.k 1 h2 (.c h3 .nil)))) (.nil)
theorem F5 (op:Int) (h0:lit true (decide (op≤((24:Nat):Int)))=true) (h1:lit true (decide (((20:Nat):Int)≤op))=true) (h2:lit false (decide (op≤((19:Nat):Int)))=true) (h3:lit true (decide (((16:Nat):Int)≤op))=true) (h4:lit false (decide (((9:Nat):Int)≤op))=true) (h5:lit false (op==((15:Nat):Int))=true):CO 48 [.int .i64 op] (.ret (.int .i64 1)):=pK [] 7 104 (.c h0 (.c h1 (.c h2 (.c h3 (.k 1 h4 (.c h5 .nil)))))) (.nil)
theorem F6 (op:Int) (h0:lit false (decide (op≤((24:Nat):Int)))=true) (h1:lit true (decide (((20:Nat):Int)≤op))=true) (h2:lit false (decide (op≤((19:Nat):Int)))=true) (h3:lit true (decide (((16:Nat):Int)≤op))=true) (h4:lit false (decide (((9:Nat):Int)≤op))=true) (h5:lit false (op==((15:Nat):Int))=true):CO 48 [.int .i64 op] (.ret (.int .i64 0)):=pK [] 7 40 (.c h0 (.c h1 (.c h2 (.c h3 (.k 1 h4 (.c h5 .nil)))))) (.nil)
theorem F7 (op:Int) (h0:lit false (decide (((20:Nat):Int)≤op))=true) (h1:lit false (decide (op≤((19:Nat):Int)))=true) (h2:lit true (decide (((16:Nat):Int)≤op))=true) (h3:lit false (decide (((9:Nat):Int)≤op))=true) (h4:lit false (op==((15:Nat):Int))=true):CO 48 [.int .i64 op] (.ret (.int .i64 0)):=pK [] 7 8 (.k 1 h0 (.c h1 (.c h2 (.k 1 h3 (.c h4 .nil))))) (.nil)
theorem F8 (op:Int) (h0:lit true (decide (op≤((24:Nat):Int)))=true) (h1:lit true (decide (((20:Nat):Int)≤op))=true) (h2:lit false (decide (((16:Nat):Int)≤op))=true) (h3:lit false (decide (((9:Nat):Int)≤op))=true) (h4:lit false (op==((15:Nat):Int))=true):CO 48 [.int .i64 op] (.ret (.int .i64 1)):=pK [] 7 96 (.c h0 (.c h1 (.k 1 h2 (.k 1 h3 (.c h4 .nil))))) (.nil)
theorem F9 (op:Int) (h0:lit false (decide (op≤((24:Nat):Int)))=true) (h1:lit true (decide (((20:Nat):Int)≤op))=true) (h2:lit false (decide (((16:Nat):Int)≤op))=true) (h3:lit false (decide (((9:Nat):Int)≤op))=true) (h4:lit false (op==((15:Nat):Int))=true):CO 48 [.int .i64 op] (.ret (.int .i64 0)):=pK [] 7 32 (.c h0 (.c h1 (.k 1 h2 (.k 1 h3 (.c h4 .nil))))) (.nil)
theorem F_ (op:Int) (h0:lit false (decide (((20:Nat):Int)≤op))=true) (h1:lit false (decide (((16:Nat):Int)≤op))=true) (h2:lit false (decide (((9:Nat):Int)≤op))=true) (h3:lit false (op==((15:Nat):Int))=true):CO 48 [.int .i64 op] (.ret (.int .i64 0)):=pK [] 7 0 (.k 1 h0 (.k 1 h1 (.k 1 h2 (.c h3 .nil)))) (.nil)
theorem Kg (op:Int) (h0:lit true (decide (op≤((8:Nat):Int)))=true) (h1:lit true (decide (((5:Nat):Int)≤op))=true):CO 74 [.int .i64 op] (.ret (.bool true)):=pK [] 2 3 (.c h0 (.c h1 .nil)) (.nil)
theorem Kh (op:Int) (h0:lit false (decide (op≤((8:Nat):Int)))=true) (h1:lit true (decide (((5:Nat):Int)≤op))=true):CO 74 [.int .i64 op] (.ret (.bool (op==((24:Nat):Int)))):=pK [] 2 1 (.c h0 (.c h1 .nil)) (.nil)
theorem Ki (op:Int) (h0:lit false (decide (((5:Nat):Int)≤op))=true):CO 74 [.int .i64 op] (.ret (.bool (op==((24:Nat):Int)))):=pK [] 2 0 (.k 1 h0 .nil) (.nil)
theorem J9 (op:Int) (h0:lit true (decide (((1:Nat):Int)≤op))=true):CO 106 [.int .i64 op] (.ret (.bool (decide (op≤((4:Nat):Int))))):=pK [] 1 1 (.c h0 .nil) (.nil)
theorem J_ (op:Int) (h0:lit false (decide (((1:Nat):Int)≤op))=true):CO 106 [.int .i64 op] (.ret (.bool false)):=pK [] 1 0 (.c h0 .nil) (.nil)
theorem Lt (op:Int) (h0:lit true (decide (((21:Nat):Int)≤op))=true):CO 107 [.int .i64 op] (.ret (.bool (decide (op≤((23:Nat):Int))))):=pK [] 1 1 (.c h0 .nil) (.nil)
theorem Lu (op:Int) (h0:lit false (decide (((21:Nat):Int)≤op))=true):CO 107 [.int .i64 op] (.ret (.bool false)):=pK [] 1 0 (.c h0 .nil) (.nil)
def bB (op:Int):Nat:=if op=15 then 3 else if (9≤op∧op≤14)∨(16≤op∧op≤19) then 2 else if 20≤op∧op≤24 then 1 else 0
def br (op:Int):Bool:=decide ((5≤op∧op≤8)∨op=24)
def p_ (op:Int):Bool:=decide (1≤op∧op≤4)
def qc (op:Int):Bool:=decide (21≤op∧op≤23)
def FG (op:Int):List UInt8:=AV.toStr (List.headD (List.drop (0+((Int.toNat op)*5)) eR) .dead)
theorem zX (op:Int):CO 48 [.int .i64 op] (.ret (.int .i64 ((bB op:Nat):Int))):=by
 cases hb0:(op==((15:Nat):Int)) with
 | true=>
  have h:=Jm op (by rw [hb0];rfl)
  have e:bB op=3:=by
   clear h
   simp only [decide_eq_true_eq,decide_eq_false_iff_not,beq_iff_eq,beq_eq_false_iff_ne] at*
   unfold bB;(repeat' split)<;>omega
  rw [e];exact h
 | false =>
  cases hb1:(decide (((9:Nat):Int)≤op)) with
  | true =>
   cases hb2:(decide (op≤((14:Nat):Int))) with
   | true=>
    have h:=Jn op (by rw [hb2];rfl) (by rw [hb1];rfl) (by rw [hb0];rfl)
    have e:bB op=2:=by
     clear h
     simp only [decide_eq_true_eq,decide_eq_false_iff_not,beq_iff_eq,beq_eq_false_iff_ne] at*
     unfold bB;(repeat' split)<;>omega
    rw [e];exact h
   | false=>
    cases hb3:(decide (((16:Nat):Int)≤op)) with
    | true=>
     cases hb4:(decide (op≤((19:Nat):Int))) with
     | true=>
      have h:=Jo op (by rw [hb4];rfl) (by rw [hb3];rfl) (by rw [hb2];rfl) (by rw [hb1];rfl) (by rw [hb0];rfl)
      have e:bB op=2:=by
       clear h
       simp only [decide_eq_true_eq,decide_eq_false_iff_not,beq_iff_eq,beq_eq_false_iff_ne] at*
       unfold bB;(repeat' split)<;>omega
      rw [e];exact h
     | false=>
      cases hb5:(decide (((20:Nat):Int)≤op)) with
      | true=>
       cases hb6:(decide (op≤((24:Nat):Int))) with
       | true=>
        have h:=Jp op (by rw [hb6];rfl) (by rw [hb5];rfl) (by rw [hb4];rfl) (by rw [hb3];rfl) (by rw [hb2];rfl) (by rw [hb1];rfl) (by rw [hb0];rfl)
        have e:bB op=1:=by
         clear h
         simp only [decide_eq_true_eq,decide_eq_false_iff_not,beq_iff_eq,beq_eq_false_iff_ne] at*
         unfold bB;(repeat' split)<;>omega
        rw [e];exact h
       | false=>
        have h:=Jq op (by rw [hb6];rfl) (by rw [hb5];rfl) (by rw [hb4];rfl) (by rw [hb3];rfl) (by rw [hb2];rfl) (by rw [hb1];rfl) (by rw [hb0];rfl)
        have e:bB op=0:=by
         clear h
         simp only [decide_eq_true_eq,decide_eq_false_iff_not,beq_iff_eq,beq_eq_false_iff_ne] at*
         unfold bB;(repeat' split)<;>omega
        rw [e];exact h
      | false=>
       have h:=Jr op (by rw [hb5];rfl) (by rw [hb4];rfl) (by rw [hb3];rfl) (by rw [hb2];rfl) (by rw [hb1];rfl) (by rw [hb0];rfl)
       have e:bB op=0:=by
        clear h
        simp only [decide_eq_true_eq,decide_eq_false_iff_not,beq_iff_eq,beq_eq_false_iff_ne] at*
        unfold bB;(repeat' split)<;>omega
       rw [e];exact h
    | false=>
     cases hb4:(decide (((20:Nat):Int)≤op)) with
     | true=>
      cases hb5:(decide (op≤((24:Nat):Int))) with
      | true=>
       have h:=Js op (by rw [hb5];rfl) (by rw [hb4];rfl) (by rw [hb3];rfl) (by rw [hb2];rfl) (by rw [hb1];rfl) (by rw [hb0];rfl)
       have e:bB op=1:=by
        clear h
        simp only [decide_eq_true_eq,decide_eq_false_iff_not,beq_iff_eq,beq_eq_false_iff_ne] at*
        unfold bB;(repeat' split)<;>omega
       rw [e];exact h
      | false=>
       have h:=Jt op (by rw [hb5];rfl) (by rw [hb4];rfl) (by rw [hb3];rfl) (by rw [hb2];rfl) (by rw [hb1];rfl) (by rw [hb0];rfl)
       have e:bB op=0:=by
        clear h
        simp only [decide_eq_true_eq,decide_eq_false_iff_not,beq_iff_eq,beq_eq_false_iff_ne] at*
        unfold bB;(repeat' split)<;>omega
       rw [e];exact h
     | false=>
      have h:=Ju op (by rw [hb4];rfl) (by rw [hb3];rfl) (by rw [hb2];rfl) (by rw [hb1];rfl) (by rw [hb0];rfl)
      have e:bB op=0:=by
       clear h
       simp only [decide_eq_true_eq,decide_eq_false_iff_not,beq_iff_eq,beq_eq_false_iff_ne] at*
       unfold bB;(repeat' split)<;>omega
      rw [e];exact h
  | false=>
   cases hb2:(decide (((16:Nat):Int)≤op)) with
   | true=>
    cases hb3:(decide (op≤((19:Nat):Int))) with
    | true=>
     have h:=Jv op (by rw [hb3];rfl) (by rw [hb2];rfl) (by rw [hb1];rfl) (by rw [hb0];rfl)
     have e:bB op=2:=by
      clear h
      simp only [decide_eq_true_eq,decide_eq_false_iff_not,beq_iff_eq,beq_eq_false_iff_ne] at*
      unfold bB;(repeat' split)<;>omega
     rw [e];exact h
    | false=>
     cases hb4:(decide (((20:Nat):Int)≤op)) with
     | true=>
      cases hb5:(decide (op≤((24:Nat):Int))) with
      | true=>
       have h:=F5 op (by rw [hb5];rfl) (by rw [hb4];rfl) (by rw [hb3];rfl) (by rw [hb2];rfl) (by rw [hb1];rfl) (by rw [hb0];rfl)
       have e:bB op=1:=by
        clear h
        simp only [decide_eq_true_eq,decide_eq_false_iff_not,beq_iff_eq,beq_eq_false_iff_ne] at*
        unfold bB;(repeat' split)<;>omega
       rw [e];exact h
      | false=>
       have h:=F6 op (by rw [hb5];rfl) (by rw [hb4];rfl) (by rw [hb3];rfl) (by rw [hb2];rfl) (by rw [hb1];rfl) (by rw [hb0];rfl)
       have e:bB op=0:=by
        clear h
        simp only [decide_eq_true_eq,decide_eq_false_iff_not,beq_iff_eq,beq_eq_false_iff_ne] at*
        unfold bB;(repeat' split)<;>omega
       rw [e];exact h
     | false=>
      have h:=F7 op (by rw [hb4];rfl) (by rw [hb3];rfl) (by rw [hb2];rfl) (by rw [hb1];rfl) (by rw [hb0];rfl)
      have e:bB op=0:=by
       clear h
       simp only [decide_eq_true_eq,decide_eq_false_iff_not,beq_iff_eq,beq_eq_false_iff_ne] at*
       unfold bB;(repeat' split)<;>omega
      rw [e];exact h
   | false=>
    cases hb3:(decide (((20:Nat):Int)≤op)) with
    | true=>
     cases hb4:(decide (op≤((24:Nat):Int))) with
     | true=>
      have h:=F8 op (by rw [hb4];rfl) (by rw [hb3];rfl) (by rw [hb2];rfl) (by rw [hb1];rfl) (by rw [hb0];rfl)
      have e:bB op=1:=by
       clear h
       simp only [decide_eq_true_eq,decide_eq_false_iff_not,beq_iff_eq,beq_eq_false_iff_ne] at*
       unfold bB;(repeat' split)<;>omega
      rw [e];exact h
     | false=>
      have h:=F9 op (by rw [hb4];rfl) (by rw [hb3];rfl) (by rw [hb2];rfl) (by rw [hb1];rfl) (by rw [hb0];rfl)
      have e:bB op=0:=by
       clear h
       simp only [decide_eq_true_eq,decide_eq_false_iff_not,beq_iff_eq,beq_eq_false_iff_ne] at*
       unfold bB;(repeat' split)<;>omega
      rw [e];exact h
    | false=>
     have h:=F_ op (by rw [hb3];rfl) (by rw [hb2];rfl) (by rw [hb1];rfl) (by rw [hb0];rfl)
     have e:bB op=0:=by
      clear h
      simp only [decide_eq_true_eq,decide_eq_false_iff_not,beq_iff_eq,beq_eq_false_iff_ne] at*
      unfold bB;(repeat' split)<;>omega
     rw [e];exact h
theorem Hf (op:Int):CO 74 [.int .i64 op] (.ret (.bool (br op))):=by
 cases hb0:(decide (((5:Nat):Int)≤op)) with
 | true=>
  cases hb1:(decide (op≤((8:Nat):Int))) with
  | true=>
   have h:=Kg op (by rw [hb1];rfl) (by rw [hb0];rfl)
   have e:br op=true:=by
    clear h
    simp only [decide_eq_true_eq,decide_eq_false_iff_not,beq_iff_eq,beq_eq_false_iff_ne] at*
    unfold br;first|(rw [decide_eq_true_eq];omega)|(rw [Bool.eq_iff_iff];simp only [decide_eq_true_eq,beq_iff_eq];omega)
   rw [e];exact h
  | false=>
   have h:=Kh op (by rw [hb1];rfl) (by rw [hb0];rfl)
   have e:br op=(op==((24:Nat):Int)):=by
    clear h
    simp only [decide_eq_true_eq,decide_eq_false_iff_not,beq_iff_eq,beq_eq_false_iff_ne] at*
    unfold br;first|(rw [decide_eq_true_eq];omega)|(rw [Bool.eq_iff_iff];simp only [decide_eq_true_eq,beq_iff_eq];omega)
   rw [e];exact h
 | false=>
  have h:=Ki op (by rw [hb0];rfl)
  have e:br op=(op==((24:Nat):Int)):=by
   clear h
   simp only [decide_eq_true_eq,decide_eq_false_iff_not,beq_iff_eq,beq_eq_false_iff_ne] at*
   unfold br;first|(rw [decide_eq_true_eq];omega)|(rw [Bool.eq_iff_iff];simp only [decide_eq_true_eq,beq_iff_eq];omega)
  rw [e];exact h
theorem qw (op:Int):CO 106 [.int .i64 op] (.ret (.bool (p_ op))):=by
 cases hb0:(decide (((1:Nat):Int)≤op)) with
 | true=>
  have h:=J9 op (by rw [hb0];rfl)
  have e:p_ op=(decide (op≤((4:Nat):Int))):=by
   clear h
   simp only [decide_eq_true_eq,decide_eq_false_iff_not,beq_iff_eq,beq_eq_false_iff_ne] at*
   unfold p_;first|(rw [decide_eq_false_iff_not];omega)|(rw [Bool.eq_iff_iff];simp only [decide_eq_true_eq,beq_iff_eq];omega)
  rw [e];exact h
 | false=>
  have h:=J_ op (by rw [hb0];rfl)
  have e:p_ op=false:=by
   clear h
   simp only [decide_eq_true_eq,decide_eq_false_iff_not,beq_iff_eq,beq_eq_false_iff_ne] at*
   unfold p_;first|(rw [decide_eq_false_iff_not];omega)|(rw [Bool.eq_iff_iff];simp only [decide_eq_true_eq,beq_iff_eq];omega)
  rw [e];exact h
theorem vW (op:Int):CO 107 [.int .i64 op] (.ret (.bool (qc op))):=by
 cases hb0:(decide (((21:Nat):Int)≤op)) with
 | true=>
  have h:=Lt op (by rw [hb0];rfl)
  have e:qc op=(decide (op≤((23:Nat):Int))):=by
   clear h
   simp only [decide_eq_true_eq,decide_eq_false_iff_not,beq_iff_eq,beq_eq_false_iff_ne] at*
   unfold qc;first|(rw [decide_eq_false_iff_not];omega)|(rw [Bool.eq_iff_iff];simp only [decide_eq_true_eq,beq_iff_eq];omega)
  rw [e];exact h
 | false=>
  have h:=Lu op (by rw [hb0];rfl)
  have e:qc op=false:=by
   clear h
   simp only [decide_eq_true_eq,decide_eq_false_iff_not,beq_iff_eq,beq_eq_false_iff_ne] at*
   unfold qc;first|(rw [decide_eq_false_iff_not];omega)|(rw [Bool.eq_iff_iff];simp only [decide_eq_true_eq,beq_iff_eq];omega)
  rw [e];exact h
theorem kO {op:Int} (h:1≤op) (h':op≤24):op=1∨op=2∨op=3∨op=4∨op=5∨op=6∨op=7∨op=8∨op=9∨op=10∨op=11∨op=12∨op=13∨op=14∨op=15∨op=16∨op=17∨op=18∨op=19∨op=20∨op=21∨op=22∨op=23∨op=24:=by omega
abbrev SK (op:Int):AV:= .agg [.str (FG op),.int .i64 ((bB op:Nat):Int),.bool (p_ op),.bool (br op),.bool (qc op)]
theorem OM {op:Int} (h:1≤op) (h':op≤24):CO 109 [.int .i64 op] (.ret (.tup [SK op,.bool true])):=by
 rcases kO h h' with rfl|rfl|rfl|rfl|rfl|rfl|rfl|rfl|rfl|rfl|rfl|rfl|rfl|rfl|rfl|rfl|rfl|rfl|rfl|rfl|rfl|rfl|rfl|rfl
 all_goals exact Oo _ rfl rfl rfl rfl rfl rfl rfl rfl rfl
theorem Kq {op:Int} (h:op<1∨24<op):CO 109 [.int .i64 op] (.ret (.tup [.agg [.str [],.int .i64 0,.bool false,.bool false,.bool false],.bool false])):=by
 by_cases h1:op<1
 ·exact Ol op (by simp [lit];omega)
 ·exact Om op (by simp [lit];omega) (by simp [lit];omega)
theorem zI {op:Int} (h:1≤op) (h':op≤24):List.headD (List.drop (op.toNat*5+1) eR) .dead= .int .i64 ((bB op:Nat):Int):=by
 rcases kO h h' with rfl|rfl|rfl|rfl|rfl|rfl|rfl|rfl|rfl|rfl|rfl|rfl|rfl|rfl|rfl|rfl|rfl|rfl|rfl|rfl|rfl|rfl|rfl|rfl
 all_goals rfl
def Ch (op:Int):Bool:=decide (1≤op∧op≤24)
theorem bA (op:Int):CO 109 [.int .i64 op] (.ret (.tup [SK op,.bool (Ch op)])):=by
 by_cases h:1≤op∧op≤24
 ·have e:Ch op=true:=decide_eq_true h
  rw [e];exact OM h.1 h.2
 ·have e:Ch op=false:=decide_eq_false h
  have e1:bB op=0:=by unfold bB;(repeat' split)<;>omega
  have e2:p_ op=false:=by unfold p_;rw [decide_eq_false_iff_not];omega
  have e3:br op=false:=by unfold br;rw [decide_eq_false_iff_not];omega
  have e4:qc op=false:=by unfold qc;rw [decide_eq_false_iff_not];omega
  have e5:FG op= []:=by
   unfold FG
   by_cases h1:op<1
   ·have:op.toNat=0:=by omega
    rw [this];rfl
   ·have hl:eR.length=125:=by decide
    rw [List.drop_of_length_le (by omega)];rfl
  unfold SK
  rw [e,e1,e2,e3,e4,e5]
  exact Kq (by omega)
structure Nd where
 op:Int
 neg:Bool
 num:List UInt8
 den:List UInt8
 name:List UInt8
def fk (x:Nd):List AV:= [.int .i64 x.op,.bool x.neg,.str x.num,.str x.den,.str x.name]
def Nd.sm (x:Nd):Prop:=x.num.length<2^33∧x.den.length<2^33
def cX (x:Nd):Bool:=cond (x.op==((4:Nat):Int)) (i_ x.neg x.num x.den 0||i_ x.neg x.num x.den 1) (cond (p_ x.op) (gb x.neg x.num x.den) (cond (qc x.op) (gb x.neg x.num x.den && decide (((0:Nat):Int)<oM x.neg x.num x.den)) ((x.neg==false) && ((x.num== []) && ((x.den== []) && true)))))
def az (x:Nd):Int:=cond (!Ch x.op||(!br x.op && !(x.name== []))) 11 (cond (!cX x) 11 (cond (br x.op && !kN x.name) 12 0))
theorem FH (x:Nd) (hx:x.sm):CO 77 [.agg (fk x)] (.ret (.int .i64 (az x))):=by
 have h1:x.num.length<2^36:=Nat.lt_trans hx.1 (by decide)
 have h2:x.den.length<2^36:=Nat.lt_trans hx.2 (by decide)
 rcases tf (Ch x.op) with b0|b0
 ·rcases tf (br x.op) with b1|b1
  ·rcases tf (x.op==((4:Nat):Int)) with b2|b2
   ·rcases tf ((x.neg==false) && ((x.num==(ak 0)) && ((x.den==(ak 1)) && true))) with b3|b3
    ·rcases tf (kN x.name) with b4|b4
     ·rw [show az x=0 by simp only [az,cX,i_,b0,b1,b2,b3,b4]<;>rfl]
      exact pK [] 8 88 (.c (aG b4) (.k 1 (aQ b1) (.k 2 (aQ b3) (.k 3 (aQ b2) (.k 2 (aG b1) (.k 1 (aG b0) (.n 2 .nil))))))) (.c (fW x.name) (.c (fR) (.c (bA x.op) .nil)))
     ·rw [show az x=12 by simp only [az,cX,i_,b0,b1,b2,b3,b4]<;>rfl]
      exact pK [] 8 216 (.c (bm b4) (.k 1 (aQ b1) (.k 2 (aQ b3) (.k 3 (aQ b2) (.k 2 (aG b1) (.k 1 (aG b0) (.n 2 .nil))))))) (.c (fW x.name) (.c (fR) (.c (bA x.op) .nil)))
    ·rcases tf ((x.neg==false) && ((x.num==(ak 1)) && ((x.den==(ak 1)) && true))) with b4|b4
     ·rcases tf (kN x.name) with b5|b5
      ·rw [show az x=0 by simp only [az,cX,i_,b0,b1,b2,b3,b4,b5]<;>rfl]
       exact pK [] 8 72 (.c (aG b5) (.k 1 (aQ b1) (.k 1 (aG b4) (.k 3 (aU b3) (.k 3 (aQ b2) (.k 2 (aG b1) (.k 1 (aG b0) (.n 2 .nil)))))))) (.c (fW x.name) (.c (oK) (.c (fR) (.c (bA x.op) .nil))))
      ·rw [show az x=12 by simp only [az,cX,i_,b0,b1,b2,b3,b4,b5]<;>rfl]
       exact pK [] 8 200 (.c (bm b5) (.k 1 (aQ b1) (.k 1 (aG b4) (.k 3 (aU b3) (.k 3 (aQ b2) (.k 2 (aG b1) (.k 1 (aG b0) (.n 2 .nil)))))))) (.c (fW x.name) (.c (oK) (.c (fR) (.c (bA x.op) .nil))))
     ·rw [show az x=11 by simp only [az,cX,i_,b0,b1,b2,b3,b4]<;>rfl]
      exact pK [] 6 40 (.c (bm b4) (.k 3 (aU b3) (.k 3 (aQ b2) (.k 2 (aG b1) (.k 1 (aG b0) (.n 2 .nil)))))) (.c (oK) (.c (fR) (.c (bA x.op) .nil)))
   ·rcases tf (p_ x.op) with b3|b3
    ·rcases tf (gb x.neg x.num x.den) with b4|b4
     ·rcases tf (kN x.name) with b5|b5
      ·rw [show az x=0 by simp only [az,cX,i_,b0,b1,b2,b3,b4,b5]<;>rfl]
       exact pK [] 8 80 (.c (aG b5) (.k 1 (aQ b1) (.k 1 (aG b4) (.k 3 (aQ b3) (.k 1 (aU b2) (.k 2 (aG b1) (.k 1 (aG b0) (.n 2 .nil)))))))) (.c (fW x.name) (.c (dz x.neg x.num x.den h1 h2) (.c (bA x.op) .nil)))
      ·rw [show az x=12 by simp only [az,cX,i_,b0,b1,b2,b3,b4,b5]<;>rfl]
       exact pK [] 8 208 (.c (bm b5) (.k 1 (aQ b1) (.k 1 (aG b4) (.k 3 (aQ b3) (.k 1 (aU b2) (.k 2 (aG b1) (.k 1 (aG b0) (.n 2 .nil)))))))) (.c (fW x.name) (.c (dz x.neg x.num x.den h1 h2) (.c (bA x.op) .nil)))
     ·rw [show az x=11 by simp only [az,cX,i_,b0,b1,b2,b3,b4]<;>rfl]
      exact pK [] 6 48 (.c (bm b4) (.k 3 (aQ b3) (.k 1 (aU b2) (.k 2 (aG b1) (.k 1 (aG b0) (.n 2 .nil)))))) (.c (dz x.neg x.num x.den h1 h2) (.c (bA x.op) .nil))
    ·rcases tf (qc x.op) with b4|b4
     ·rcases tf (gb x.neg x.num x.den) with b5|b5
      ·rcases tf (decide (((0:Nat):Int)<(oM x.neg x.num x.den))) with b6|b6
       ·rcases tf (kN x.name) with b7|b7
        ·rw [show az x=0 by simp only [az,cX,i_,b0,b1,b2,b3,b4,b5,b6,b7]<;>rfl]
         exact pK [] 10 352 (.c (aG b7) (.k 1 (aQ b1) (.k 1 (aG b6) (.k 3 (aQ b5) (.k 3 (aQ b4) (.k 1 (aU b3) (.k 1 (aU b2) (.k 2 (aG b1) (.k 1 (aG b0) (.n 2 .nil)))))))))) (.c (fW x.name) (.c (kU x.neg x.num x.den h1 h2) (.c (dz x.neg x.num x.den h1 h2) (.c (bA x.op) .nil))))
        ·rw [show az x=12 by simp only [az,cX,i_,b0,b1,b2,b3,b4,b5,b6,b7]<;>rfl]
         exact pK [] 10 864 (.c (bm b7) (.k 1 (aQ b1) (.k 1 (aG b6) (.k 3 (aQ b5) (.k 3 (aQ b4) (.k 1 (aU b3) (.k 1 (aU b2) (.k 2 (aG b1) (.k 1 (aG b0) (.n 2 .nil)))))))))) (.c (fW x.name) (.c (kU x.neg x.num x.den h1 h2) (.c (dz x.neg x.num x.den h1 h2) (.c (bA x.op) .nil))))
       ·rw [show az x=11 by simp only [az,cX,i_,b0,b1,b2,b3,b4,b5,b6]<;>rfl]
        exact pK [] 8 224 (.c (bm b6) (.k 3 (aQ b5) (.k 3 (aQ b4) (.k 1 (aU b3) (.k 1 (aU b2) (.k 2 (aG b1) (.k 1 (aG b0) (.n 2 .nil)))))))) (.c (kU x.neg x.num x.den h1 h2) (.c (dz x.neg x.num x.den h1 h2) (.c (bA x.op) .nil)))
      ·rw [show az x=11 by simp only [az,cX,i_,b0,b1,b2,b3,b4,b5]<;>rfl]
       exact pK [] 8 160 (.k 1 (aU b5) (.k 3 (aQ b4) (.k 1 (aU b3) (.k 1 (aU b2) (.k 2 (aG b1) (.k 1 (aG b0) (.n 2 .nil))))))) (.c (dz x.neg x.num x.den h1 h2) (.c (bA x.op) .nil))
     ·rcases tf ((x.neg==false) && ((x.num== []) && ((x.den== []) && true))) with b5|b5
      ·rcases tf (kN x.name) with b6|b6
       ·rw [show az x=0 by simp only [az,cX,i_,b0,b1,b2,b3,b4,b5,b6]<;>rfl]
        exact pK [] 9 128 (.c (aG b6) (.k 1 (aQ b1) (.k 1 (aG b5) (.k 3 (aU b4) (.k 1 (aU b3) (.k 1 (aU b2) (.k 2 (aG b1) (.k 1 (aG b0) (.n 2 .nil))))))))) (.c (fW x.name) (.c (bA x.op) .nil))
       ·rw [show az x=12 by simp only [az,cX,i_,b0,b1,b2,b3,b4,b5,b6]<;>rfl]
        exact pK [] 9 384 (.c (bm b6) (.k 1 (aQ b1) (.k 1 (aG b5) (.k 3 (aU b4) (.k 1 (aU b3) (.k 1 (aU b2) (.k 2 (aG b1) (.k 1 (aG b0) (.n 2 .nil))))))))) (.c (fW x.name) (.c (bA x.op) .nil))
      ·rw [show az x=11 by simp only [az,cX,i_,b0,b1,b2,b3,b4,b5]<;>rfl]
       exact pK [] 7 64 (.c (bm b5) (.k 3 (aU b4) (.k 1 (aU b3) (.k 1 (aU b2) (.k 2 (aG b1) (.k 1 (aG b0) (.n 2 .nil))))))) (.c (bA x.op) .nil)
  ·rcases tf (x.name== []) with b2|b2
   ·rcases tf (x.op==((4:Nat):Int)) with b3|b3
    ·rcases tf ((x.neg==false) && ((x.num==(ak 0)) && ((x.den==(ak 1)) && true))) with b4|b4
     ·rw [show az x=0 by simp only [az,cX,i_,b0,b1,b2,b3,b4]<;>rfl]
      exact pK [] 8 26 (.k 1 (aU b1) (.k 2 (aQ b4) (.k 3 (aQ b3) (.k 1 (aG b2) (.k 1 (bm b1) (.k 1 (aG b0) (.n 2 .nil))))))) (.c (fR) (.c (bA x.op) .nil))
     ·rcases tf ((x.neg==false) && ((x.num==(ak 1)) && ((x.den==(ak 1)) && true))) with b5|b5
      ·rw [show az x=0 by simp only [az,cX,i_,b0,b1,b2,b3,b4,b5]<;>rfl]
       exact pK [] 8 10 (.k 1 (aU b1) (.k 1 (aG b5) (.k 3 (aU b4) (.k 3 (aQ b3) (.k 1 (aG b2) (.k 1 (bm b1) (.k 1 (aG b0) (.n 2 .nil)))))))) (.c (oK) (.c (fR) (.c (bA x.op) .nil)))
      ·rw [show az x=11 by simp only [az,cX,i_,b0,b1,b2,b3,b4,b5]<;>rfl]
       exact pK [] 6 42 (.c (bm b5) (.k 3 (aU b4) (.k 3 (aQ b3) (.k 1 (aG b2) (.k 1 (bm b1) (.k 1 (aG b0) (.n 2 .nil))))))) (.c (oK) (.c (fR) (.c (bA x.op) .nil)))
    ·rcases tf (p_ x.op) with b4|b4
     ·rcases tf (gb x.neg x.num x.den) with b5|b5
      ·rw [show az x=0 by simp only [az,cX,i_,b0,b1,b2,b3,b4,b5]<;>rfl]
       exact pK [] 8 18 (.k 1 (aU b1) (.k 1 (aG b5) (.k 3 (aQ b4) (.k 1 (aU b3) (.k 1 (aG b2) (.k 1 (bm b1) (.k 1 (aG b0) (.n 2 .nil)))))))) (.c (dz x.neg x.num x.den h1 h2) (.c (bA x.op) .nil))
      ·rw [show az x=11 by simp only [az,cX,i_,b0,b1,b2,b3,b4,b5]<;>rfl]
       exact pK [] 6 50 (.c (bm b5) (.k 3 (aQ b4) (.k 1 (aU b3) (.k 1 (aG b2) (.k 1 (bm b1) (.k 1 (aG b0) (.n 2 .nil))))))) (.c (dz x.neg x.num x.den h1 h2) (.c (bA x.op) .nil))
     ·rcases tf (qc x.op) with b5|b5
      ·rcases tf (gb x.neg x.num x.den) with b6|b6
       ·rcases tf (decide (((0:Nat):Int)<(oM x.neg x.num x.den))) with b7|b7
        ·rw [show az x=0 by simp only [az,cX,i_,b0,b1,b2,b3,b4,b5,b6,b7]<;>rfl]
         exact pK [] 10 98 (.k 1 (aU b1) (.k 1 (aG b7) (.k 3 (aQ b6) (.k 3 (aQ b5) (.k 1 (aU b4) (.k 1 (aU b3) (.k 1 (aG b2) (.k 1 (bm b1) (.k 1 (aG b0) (.n 2 .nil)))))))))) (.c (kU x.neg x.num x.den h1 h2) (.c (dz x.neg x.num x.den h1 h2) (.c (bA x.op) .nil)))
        ·rw [show az x=11 by simp only [az,cX,i_,b0,b1,b2,b3,b4,b5,b6,b7]<;>rfl]
         exact pK [] 8 226 (.c (bm b7) (.k 3 (aQ b6) (.k 3 (aQ b5) (.k 1 (aU b4) (.k 1 (aU b3) (.k 1 (aG b2) (.k 1 (bm b1) (.k 1 (aG b0) (.n 2 .nil))))))))) (.c (kU x.neg x.num x.den h1 h2) (.c (dz x.neg x.num x.den h1 h2) (.c (bA x.op) .nil)))
       ·rw [show az x=11 by simp only [az,cX,i_,b0,b1,b2,b3,b4,b5,b6]<;>rfl]
        exact pK [] 8 162 (.k 1 (aU b6) (.k 3 (aQ b5) (.k 1 (aU b4) (.k 1 (aU b3) (.k 1 (aG b2) (.k 1 (bm b1) (.k 1 (aG b0) (.n 2 .nil)))))))) (.c (dz x.neg x.num x.den h1 h2) (.c (bA x.op) .nil))
      ·rcases tf ((x.neg==false) && ((x.num== []) && ((x.den== []) && true))) with b6|b6
       ·rw [show az x=0 by simp only [az,cX,i_,b0,b1,b2,b3,b4,b5,b6]<;>rfl]
        exact pK [] 9 2 (.k 1 (aU b1) (.k 1 (aG b6) (.k 3 (aU b5) (.k 1 (aU b4) (.k 1 (aU b3) (.k 1 (aG b2) (.k 1 (bm b1) (.k 1 (aG b0) (.n 2 .nil))))))))) (.c (bA x.op) .nil)
       ·rw [show az x=11 by simp only [az,cX,i_,b0,b1,b2,b3,b4,b5,b6]<;>rfl]
        exact pK [] 7 66 (.c (bm b6) (.k 3 (aU b5) (.k 1 (aU b4) (.k 1 (aU b3) (.k 1 (aG b2) (.k 1 (bm b1) (.k 1 (aG b0) (.n 2 .nil)))))))) (.c (bA x.op) .nil)
   ·rw [show az x=11 by simp only [az,cX,i_,b0,b1,b2]<;>rfl]
    exact pK [] 3 6 (.c (bm b2) (.k 1 (bm b1) (.k 1 (aG b0) (.n 2 .nil)))) (.c (bA x.op) .nil)
 ·rw [show az x=11 by simp only [az,cX,i_,b0]<;>rfl]
  exact pK [] 2 3 (.k 1 (bm b0) (.n 2 .nil)) (.c (bA x.op) .nil)
theorem xy (x:Nd) (hx:x.sm):CO 75 [.agg (fk x)] (.ret (.bool (cX x))):=by
 rcases tf (x.op==((4:Nat):Int)) with b0|b0
 ·rcases tf ((x.neg==false) && ((x.num==(ak 0)) && ((x.den==(ak 1)) && true))) with b1|b1
  ·rw [show cX x=true by simp only [cX,i_,b0,b1]<;>rfl]
   exact pK [] 2 3 (.c (aQ b1) (.k 3 (aQ b0) (.n 1 .nil))) (.c (IZ) .nil)
  ·rw [show cX x=((x.neg==false) && ((x.num==(ak 1)) && ((x.den==(ak 1)) && true))) by simp only [cX,i_,b0,b1]<;>rfl]
   exact pK [] 2 1 (.k 3 (aU b1) (.k 3 (aQ b0) (.n 1 .nil))) (.c (O9) (.c (IZ) .nil))
 ·rcases tf (p_ x.op) with b1|b1
  ·rw [show cX x=(gb x.neg x.num x.den) by simp only [cX,i_,b0,b1]<;>rfl]
   exact pK [] 2 2 (.k 3 (aQ b1) (.k 1 (aU b0) (.n 1 .nil))) (.c (oI x.neg x.num x.den hx.1 hx.2) (.c (qw x.op) .nil))
  ·rcases tf (qc x.op) with b2|b2
   ·rcases tf (gb x.neg x.num x.den) with b3|b3
    ·rw [show cX x=(decide (((0:Nat):Int)<(oM x.neg x.num x.den))) by simp only [cX,i_,b0,b1,b2,b3]<;>rfl]
     exact pK [] 4 12 (.k 3 (aQ b3) (.k 3 (aQ b2) (.k 1 (aU b1) (.k 1 (aU b0) (.n 1 .nil))))) (.c (Cw x.neg x.num x.den hx.1 hx.2) (.c (oI x.neg x.num x.den hx.1 hx.2) (.c (vW x.op) (.c (qw x.op) .nil))))
    ·rw [show cX x=false by simp only [cX,i_,b0,b1,b2,b3]<;>rfl]
     exact pK [] 4 4 (.c (aU b3) (.k 3 (aQ b2) (.k 1 (aU b1) (.k 1 (aU b0) (.n 1 .nil))))) (.c (oI x.neg x.num x.den hx.1 hx.2) (.c (vW x.op) (.c (qw x.op) .nil)))
   ·rw [show cX x=((x.neg==false) && ((x.num== []) && ((x.den== []) && true))) by simp only [cX,i_,b0,b1,b2]<;>rfl]
    exact pK [] 3 0 (.k 3 (aU b2) (.k 1 (aU b1) (.k 1 (aU b0) (.n 1 .nil)))) (.c (vW x.op) (.c (qw x.op) .nil))
def aw (l:List Nd):List AV:=l.flatMap fk
theorem Rn {nt:Nat} (hn:35≤nt) (l:List Nd) (nn:Bool) (k d:Nat) (w:Int) (x:Nd) (r:List Nd) (hdr:(List.drop ((Int.toNat (k:Int))*5) (aw l))=fk x++aw r) (h0:lit true (!(w==((0:Nat):Int)))=true) (h1:(decide (((0:Nat):Int)≤(k:Int)))=true) (h2:(decide ((k:Int)<(l.length:Int)))=true) (h3:lit true (decide ((k:Int)<(l.length:Int)))=true) (c0:CO 77 [.agg [.int .i64 x.op,.bool x.neg,.str x.num,.str x.den,.str x.name]] (.ret (.int .i64 w))):ah prog ap [] nt (ac 0 (ae f49)) ⟨[(10,.sl (aw l) l.length nn),(11,.int .i64 (l.length:Int)),(12,.int .i64 (k:Int)),(3,.int .i64 (d:Int))],[],.dead,[]⟩ (.ret) ⟨[(2,.int .i64 w)],[],.dead,[]⟩:=
 have h:ah prog ap [] nt (ac 0 (ae f49)) ⟨[(10,.sl (aw l) l.length nn),(11,.int .i64 (l.length:Int)),(12,.int .i64 (k:Int)),(3,.int .i64 (d:Int))],[],.dead,[]⟩ (.ret) ⟨[(2,.int .i64 w)],[(0,⟨[.int .i64 x.op,.bool x.neg,.str x.num,.str x.den,.str x.name],0,false,0,0,true⟩)],.dead,[]⟩:=pJ 49 [] 2 3 (.c h0 (.k 11 h1 (.c h2 (.c h3 .nil)))) (.c c0 (.v 14 (.ppt hdr) .nil)) hn
 h.forgetD 0 ⟨[.int .i64 x.op,.bool x.neg,.str x.num,.str x.den,.str x.name],0,false,0,0,true⟩ (by intro v h;cases h) (by decide) rfl ⟨Fz.same rfl,trivial⟩ rfl rfl
theorem Ro {nt:Nat} (hn:35≤nt) (l:List Nd) (nn:Bool) (k d:Nat) (w:Int) (x:Nd) (r:List Nd) (hdr:(List.drop ((Int.toNat (k:Int))*5) (aw l))=fk x++aw r) (h0:lit true (decide ((IntKind.wrap .i64 ((d:Int) - (AV.toInt (List.headD (List.drop ((0+((Int.toNat x.op)*5))+1) eR) .dead))))<((0:Nat):Int)))=true) (h1:(chk (.int .i64) (List.headD (List.drop ((0+((Int.toNat x.op)*5))+1) eR) .dead))=true) (h2:(decide (((0:Nat):Int)≤x.op))=true) (h3:(decide (x.op<((25:Nat):Int)))=true) (h4:lit false (!(w==((0:Nat):Int)))=true) (h5:(decide (((0:Nat):Int)≤(k:Int)))=true) (h6:(decide ((k:Int)<(l.length:Int)))=true) (h7:lit true (decide ((k:Int)<(l.length:Int)))=true) (c0:CO 77 [.agg [.int .i64 x.op,.bool x.neg,.str x.num,.str x.den,.str x.name]] (.ret (.int .i64 w))):ah prog ap [] nt (ac 0 (ae f49)) ⟨[(10,.sl (aw l) l.length nn),(11,.int .i64 (l.length:Int)),(12,.int .i64 (k:Int)),(3,.int .i64 (d:Int))],[],.dead,[]⟩ (.ret) ⟨[(2,.int .i64 11)],[],.dead,[]⟩:=
 have h:ah prog ap [] nt (ac 0 (ae f49)) ⟨[(10,.sl (aw l) l.length nn),(11,.int .i64 (l.length:Int)),(12,.int .i64 (k:Int)),(3,.int .i64 (d:Int))],[],.dead,[]⟩ (.ret) ⟨[(2,.int .i64 11)],[(0,⟨[.int .i64 x.op,.bool x.neg,.str x.num,.str x.den,.str x.name],0,false,0,0,true⟩)],.dead,[]⟩:=pJ 49 [] 3 5 (.c h0 (.c h1 (.c h2 (.c h3 (.k 1 h4 (.k 11 h5 (.c h6 (.c h7 .nil)))))))) (.c c0 (.v 14 (.ppt hdr) .nil)) hn
 h.forgetD 0 ⟨[.int .i64 x.op,.bool x.neg,.str x.num,.str x.den,.str x.name],0,false,0,0,true⟩ (by intro v h;cases h) (by decide) rfl ⟨Fz.same rfl,trivial⟩ rfl rfl
theorem Rp {nt:Nat} (hn:35≤nt) (l:List Nd) (nn:Bool) (k d:Nat) (w:Int) (x:Nd) (r:List Nd) (hdr:(List.drop ((Int.toNat (k:Int))*5) (aw l))=fk x++aw r) (h0:lit false (decide ((IntKind.wrap .i64 ((d:Int) - (AV.toInt (List.headD (List.drop ((0+((Int.toNat x.op)*5))+1) eR) .dead))))<((0:Nat):Int)))=true) (h1:(chk (.int .i64) (List.headD (List.drop ((0+((Int.toNat x.op)*5))+1) eR) .dead))=true) (h2:(decide (((0:Nat):Int)≤x.op))=true) (h3:(decide (x.op<((25:Nat):Int)))=true) (h4:lit false (!(w==((0:Nat):Int)))=true) (h5:(decide (((0:Nat):Int)≤(k:Int)))=true) (h6:(decide ((k:Int)<(l.length:Int)))=true) (h7:lit true (decide ((k:Int)<(l.length:Int)))=true) (c0:CO 77 [.agg [.int .i64 x.op,.bool x.neg,.str x.num,.str x.den,.str x.name]] (.ret (.int .i64 w))):ah prog ap [] nt (ac 0 (ae f49)) ⟨[(10,.sl (aw l) l.length nn),(11,.int .i64 (l.length:Int)),(12,.int .i64 (k:Int)),(3,.int .i64 (d:Int))],[],.dead,[]⟩ (.normal) ⟨[(10,.sl (aw l) l.length nn),(11,.int .i64 (l.length:Int)),(12,.int .i64 (IntKind.wrap .i64 ((k:Int)+((1:Nat):Int)))),(3,.int .i64 (IntKind.wrap .i64 ((IntKind.wrap .i64 ((d:Int) - (AV.toInt (List.headD (List.drop ((0+((Int.toNat x.op)*5))+1) eR) .dead))))+((1:Nat):Int))))],[],.dead,[]⟩:=
 have h:ah prog ap [] nt (ac 0 (ae f49)) ⟨[(10,.sl (aw l) l.length nn),(11,.int .i64 (l.length:Int)),(12,.int .i64 (k:Int)),(3,.int .i64 (d:Int))],[],.dead,[]⟩ (.normal) ⟨[(10,.sl (aw l) l.length nn),(11,.int .i64 (l.length:Int)),(12,.int .i64 (IntKind.wrap .i64 ((k:Int)+((1:Nat):Int)))),(3,.int .i64 (IntKind.wrap .i64 ((IntKind.wrap .i64 ((d:Int) - (AV.toInt (List.headD (List.drop ((0+((Int.toNat x.op)*5))+1) eR) .dead))))+((1:Nat):Int))))],[(0,⟨[.int .i64 x.op,.bool x.neg,.str x.num,.str x.den,.str x.name],0,false,0,0,true⟩)],.dead,[]⟩:=pJ 49 [] 3 1 (.c h0 (.c h1 (.c h2 (.c h3 (.k 1 h4 (.k 11 h5 (.c h6 (.c h7 .nil)))))))) (.c c0 (.v 14 (.ppt hdr) .nil)) hn
 h.forgetD 0 ⟨[.int .i64 x.op,.bool x.neg,.str x.num,.str x.den,.str x.name],0,false,0,0,true⟩ (by intro v h;cases h) (by decide) rfl ⟨Fz.same rfl,Fz.same rfl,Fz.same rfl,Fz.same rfl,trivial⟩ rfl rfl
theorem DE {nt:Nat} (hn:35≤nt) (l:List Nd) (nn:Bool) (k d:Nat) (w:Int) (h0:lit false (decide ((k:Int)<(l.length:Int)))=true):ah prog ap [] nt (ac 0 (ae f49)) ⟨[(10,.sl (aw l) l.length nn),(11,.int .i64 (l.length:Int)),(12,.int .i64 (k:Int)),(3,.int .i64 (d:Int))],[],.dead,[]⟩ (.exit 0) ⟨[(3,.int .i64 (d:Int))],[],.dead,[]⟩:=pJ 49 [] 1 0 (.c h0 .nil) (.nil) hn
theorem Mv (l:List Nd) (nn:Bool) (d:Nat) (h0:lit true (decide (((60:Nat):Int)<(l.length:Int)))=true):CO 49 [.sl (aw l) l.length nn] (.ret (.int .i64 2)):=pK [0] 1 1 (.c h0 .nil) (.nil)
theorem Mw (l:List Nd) (nn:Bool) (d:Nat) (h0:lit true (!((d:Int)==((1:Nat):Int)))=true) (h1:lit false (decide (((60:Nat):Int)<(l.length:Int)))=true) (l0:aC prog ap [] 35 (.block 0 (.loop (ac 0 (ae f49)))) ⟨[(0,.sl (aw l) l.length nn),(2,.int .i64 0),(3,.int .i64 0),(5,.dead),(6,.dead),(9,.bool (decide (((60:Nat):Int)<(l.length:Int)))),(10,.sl (aw l) l.length nn),(11,.int .i64 (l.length:Int)),(12,.int .i64 0),(13,.dead),(19,.dead),(29,.dead),(34,.dead)],[],.dead,[]⟩ (.normal) ⟨[(3,.int .i64 (d:Int))],[],.dead,[]⟩):CO 49 [.sl (aw l) l.length nn] (.ret (.int .i64 11)):=pK [0] 2 2 (.c h0 (.c h1 .nil)) (.l l0 .nil)
theorem Mx (l:List Nd) (nn:Bool) (d:Nat) (h0:lit false (!((d:Int)==((1:Nat):Int)))=true) (h1:lit false (decide (((60:Nat):Int)<(l.length:Int)))=true) (l0:aC prog ap [] 35 (.block 0 (.loop (ac 0 (ae f49)))) ⟨[(0,.sl (aw l) l.length nn),(2,.int .i64 0),(3,.int .i64 0),(5,.dead),(6,.dead),(9,.bool (decide (((60:Nat):Int)<(l.length:Int)))),(10,.sl (aw l) l.length nn),(11,.int .i64 (l.length:Int)),(12,.int .i64 0),(13,.dead),(19,.dead),(29,.dead),(34,.dead)],[],.dead,[]⟩ (.normal) ⟨[(3,.int .i64 (d:Int))],[],.dead,[]⟩):CO 49 [.sl (aw l) l.length nn] (.ret (.int .i64 0)):=pK [0] 2 0 (.c h0 (.c h1 .nil)) (.l l0 .nil)
theorem My (l:List Nd) (nn:Bool) (w:Int) (h0:lit false (decide (((60:Nat):Int)<(l.length:Int)))=true) (l0:aC prog ap [] 35 (.block 0 (.loop (ac 0 (ae f49)))) ⟨[(0,.sl (aw l) l.length nn),(2,.int .i64 0),(3,.int .i64 0),(5,.dead),(6,.dead),(9,.bool (decide (((60:Nat):Int)<(l.length:Int)))),(10,.sl (aw l) l.length nn),(11,.int .i64 (l.length:Int)),(12,.int .i64 0),(13,.dead),(19,.dead),(29,.dead),(34,.dead)],[],.dead,[]⟩ (.ret) ⟨[(2,.int .i64 w)],[],.dead,[]⟩):CO 49 [.sl (aw l) l.length nn] (.ret (.int .i64 w)):=pK [0] 1 0 (.c h0 .nil) (.l l0 .nil)
theorem Pt {nt:Nat} (hn:69≤nt) (l:List Nd) (nn:Bool) (k d:Nat) (nq nm:Bool) (x:Nd) (r:List Nd) (hdr:(List.drop ((Int.toNat (k:Int))*5) (aw l))=fk x++aw r) (h0:lit true (decide (x.op<((1:Nat):Int)))=true) (h1:(decide (((0:Nat):Int)≤(k:Int)))=true) (h2:(decide ((k:Int)<(l.length:Int)))=true) (h3:lit true (decide ((k:Int)<(l.length:Int)))=true) (c0:CO 74 [.int .i64 x.op] (.ret (.bool (br x.op)))) (c1:CO 75 [.agg [.int .i64 x.op,.bool x.neg,.str x.num,.str x.den,.str x.name]] (.ret (.bool nq))):ah prog ap [] nt (ac 0 (ae f47)) ⟨[(0,.sl (aw l) l.length nn),(4,.int .i64 (k:Int)),(3,.int .i64 (d:Int))],[],.dead,[]⟩ (.ret) ⟨[(2,.int .i64 11)],[],.dead,[]⟩:=
 have h:ah prog ap [] nt (ac 0 (ae f47)) ⟨[(0,.sl (aw l) l.length nn),(4,.int .i64 (k:Int)),(3,.int .i64 (d:Int))],[],.dead,[]⟩ (.ret) ⟨[(2,.int .i64 11)],[(0,⟨[.int .i64 x.op,.bool x.neg,.str x.num,.str x.den,.str x.name],0,false,0,0,true⟩)],.dead,[]⟩:=pJ 47 [] 5 31 (.k 3 h0 (.k 13 h1 (.c h2 (.c h3 .nil)))) (.c c1 (.c c0 (.v 21 (.ppt hdr) .nil))) hn
 h.forgetD 0 ⟨[.int .i64 x.op,.bool x.neg,.str x.num,.str x.den,.str x.name],0,false,0,0,true⟩ (by intro v h;cases h) (by decide) rfl ⟨Fz.same rfl,trivial⟩ rfl rfl
theorem Pu {nt:Nat} (hn:69≤nt) (l:List Nd) (nn:Bool) (k d:Nat) (nq nm:Bool) (x:Nd) (r:List Nd) (hdr:(List.drop ((Int.toNat (k:Int))*5) (aw l))=fk x++aw r) (h0:lit true (decide (((24:Nat):Int)<x.op))=true) (h1:lit false (decide (x.op<((1:Nat):Int)))=true) (h2:(decide (((0:Nat):Int)≤(k:Int)))=true) (h3:(decide ((k:Int)<(l.length:Int)))=true) (h4:lit true (decide ((k:Int)<(l.length:Int)))=true) (c0:CO 74 [.int .i64 x.op] (.ret (.bool (br x.op)))) (c1:CO 75 [.agg [.int .i64 x.op,.bool x.neg,.str x.num,.str x.den,.str x.name]] (.ret (.bool nq))):ah prog ap [] nt (ac 0 (ae f47)) ⟨[(0,.sl (aw l) l.length nn),(4,.int .i64 (k:Int)),(3,.int .i64 (d:Int))],[],.dead,[]⟩ (.ret) ⟨[(2,.int .i64 11)],[],.dead,[]⟩:=
 have h:ah prog ap [] nt (ac 0 (ae f47)) ⟨[(0,.sl (aw l) l.length nn),(4,.int .i64 (k:Int)),(3,.int .i64 (d:Int))],[],.dead,[]⟩ (.ret) ⟨[(2,.int .i64 11)],[(0,⟨[.int .i64 x.op,.bool x.neg,.str x.num,.str x.den,.str x.name],0,false,0,0,true⟩)],.dead,[]⟩:=pJ 47 [] 5 29 (.k 2 h0 (.k 1 h1 (.k 13 h2 (.c h3 (.c h4 .nil))))) (.c c1 (.c c0 (.v 21 (.ppt hdr) .nil))) hn
 h.forgetD 0 ⟨[.int .i64 x.op,.bool x.neg,.str x.num,.str x.den,.str x.name],0,false,0,0,true⟩ (by intro v h;cases h) (by decide) rfl ⟨Fz.same rfl,trivial⟩ rfl rfl
theorem Pv {nt:Nat} (hn:69≤nt) (l:List Nd) (nn:Bool) (k d:Nat) (nq nm:Bool) (x:Nd) (r:List Nd) (hdr:(List.drop ((Int.toNat (k:Int))*5) (aw l))=fk x++aw r) (h0:lit true (!nq)=true) (h1:lit false (decide (((24:Nat):Int)<x.op))=true) (h2:lit false (decide (x.op<((1:Nat):Int)))=true) (h3:(decide (((0:Nat):Int)≤(k:Int)))=true) (h4:(decide ((k:Int)<(l.length:Int)))=true) (h5:lit true (decide ((k:Int)<(l.length:Int)))=true) (c0:CO 74 [.int .i64 x.op] (.ret (.bool (br x.op)))) (c1:CO 75 [.agg [.int .i64 x.op,.bool x.neg,.str x.num,.str x.den,.str x.name]] (.ret (.bool nq))):ah prog ap [] nt (ac 0 (ae f47)) ⟨[(0,.sl (aw l) l.length nn),(4,.int .i64 (k:Int)),(3,.int .i64 (d:Int))],[],.dead,[]⟩ (.ret) ⟨[(2,.int .i64 11)],[],.dead,[]⟩:=
 have h:ah prog ap [] nt (ac 0 (ae f47)) ⟨[(0,.sl (aw l) l.length nn),(4,.int .i64 (k:Int)),(3,.int .i64 (d:Int))],[],.dead,[]⟩ (.ret) ⟨[(2,.int .i64 11)],[(0,⟨[.int .i64 x.op,.bool x.neg,.str x.num,.str x.den,.str x.name],0,false,0,0,true⟩)],.dead,[]⟩:=pJ 47 [] 5 25 (.k 1 h0 (.c h1 (.k 1 h2 (.k 13 h3 (.c h4 (.c h5 .nil)))))) (.c c1 (.c c0 (.v 21 (.ppt hdr) .nil))) hn
 h.forgetD 0 ⟨[.int .i64 x.op,.bool x.neg,.str x.num,.str x.den,.str x.name],0,false,0,0,true⟩ (by intro v h;cases h) (by decide) rfl ⟨Fz.same rfl,trivial⟩ rfl rfl
theorem Pw {nt:Nat} (hn:69≤nt) (l:List Nd) (nn:Bool) (k d:Nat) (nq nm:Bool) (x:Nd) (r:List Nd) (hdr:(List.drop ((Int.toNat (k:Int))*5) (aw l))=fk x++aw r) (h0:lit true (!(x.name== []))=true) (h1:lit true (!(br x.op))=true) (h2:lit false (!nq)=true) (h3:lit false (decide (((24:Nat):Int)<x.op))=true) (h4:lit false (decide (x.op<((1:Nat):Int)))=true) (h5:(decide (((0:Nat):Int)≤(k:Int)))=true) (h6:(decide ((k:Int)<(l.length:Int)))=true) (h7:lit true (decide ((k:Int)<(l.length:Int)))=true) (c0:CO 74 [.int .i64 x.op] (.ret (.bool (br x.op)))) (c1:CO 75 [.agg [.int .i64 x.op,.bool x.neg,.str x.num,.str x.den,.str x.name]] (.ret (.bool nq))):ah prog ap [] nt (ac 0 (ae f47)) ⟨[(0,.sl (aw l) l.length nn),(4,.int .i64 (k:Int)),(3,.int .i64 (d:Int))],[],.dead,[]⟩ (.ret) ⟨[(2,.int .i64 11)],[],.dead,[]⟩:=
 have h:ah prog ap [] nt (ac 0 (ae f47)) ⟨[(0,.sl (aw l) l.length nn),(4,.int .i64 (k:Int)),(3,.int .i64 (d:Int))],[],.dead,[]⟩ (.ret) ⟨[(2,.int .i64 11)],[(0,⟨[.int .i64 x.op,.bool x.neg,.str x.num,.str x.den,.str x.name],0,false,0,0,true⟩)],.dead,[]⟩:=pJ 47 [] 6 49 (.c h0 (.k 1 h1 (.c h2 (.c h3 (.k 1 h4 (.k 13 h5 (.c h6 (.c h7 .nil)))))))) (.c c1 (.c c0 (.v 21 (.ppt hdr) .nil))) hn
 h.forgetD 0 ⟨[.int .i64 x.op,.bool x.neg,.str x.num,.str x.den,.str x.name],0,false,0,0,true⟩ (by intro v h;cases h) (by decide) rfl ⟨Fz.same rfl,trivial⟩ rfl rfl
theorem Px {nt:Nat} (hn:69≤nt) (l:List Nd) (nn:Bool) (k d:Nat) (nq nm:Bool) (x:Nd) (r:List Nd) (hdr:(List.drop ((Int.toNat (k:Int))*5) (aw l))=fk x++aw r) (h0:lit true (decide ((d:Int)<(((bB x.op):Nat):Int)))=true) (h1:lit false (br x.op)=true) (h2:lit false (!(x.name== []))=true) (h3:lit true (!(br x.op))=true) (h4:lit false (!nq)=true) (h5:lit false (decide (((24:Nat):Int)<x.op))=true) (h6:lit false (decide (x.op<((1:Nat):Int)))=true) (h7:(decide (((0:Nat):Int)≤(k:Int)))=true) (h8:(decide ((k:Int)<(l.length:Int)))=true) (h9:lit true (decide ((k:Int)<(l.length:Int)))=true) (c0:CO 74 [.int .i64 x.op] (.ret (.bool (br x.op)))) (c1:CO 75 [.agg [.int .i64 x.op,.bool x.neg,.str x.num,.str x.den,.str x.name]] (.ret (.bool nq))) (c2:CO 76 [.str x.name] (.ret (.bool nm))) (c3:CO 48 [.int .i64 x.op] (.ret (.int .i64 (((bB x.op):Nat):Int)))):ah prog ap [] nt (ac 0 (ae f47)) ⟨[(0,.sl (aw l) l.length nn),(4,.int .i64 (k:Int)),(3,.int .i64 (d:Int))],[],.dead,[]⟩ (.ret) ⟨[(2,.int .i64 11)],[],.dead,[]⟩:=
 have h:ah prog ap [] nt (ac 0 (ae f47)) ⟨[(0,.sl (aw l) l.length nn),(4,.int .i64 (k:Int)),(3,.int .i64 (d:Int))],[],.dead,[]⟩ (.ret) ⟨[(2,.int .i64 11)],[(0,⟨[.int .i64 x.op,.bool x.neg,.str x.num,.str x.den,.str x.name],0,false,0,0,true⟩)],.dead,[]⟩:=pJ 47 [] 9 273 (.c h0 (.k 2 h1 (.k 1 h2 (.k 1 h3 (.c h4 (.c h5 (.k 1 h6 (.k 13 h7 (.c h8 (.c h9 .nil)))))))))) (.c c3 (.c c2 (.c c1 (.c c0 (.v 21 (.ppt hdr) .nil))))) hn
 h.forgetD 0 ⟨[.int .i64 x.op,.bool x.neg,.str x.num,.str x.den,.str x.name],0,false,0,0,true⟩ (by intro v h;cases h) (by decide) rfl ⟨Fz.same rfl,trivial⟩ rfl rfl
theorem Py {nt:Nat} (hn:69≤nt) (l:List Nd) (nn:Bool) (k d:Nat) (nq nm:Bool) (x:Nd) (r:List Nd) (hdr:(List.drop ((Int.toNat (k:Int))*5) (aw l))=fk x++aw r) (h0:lit false (decide ((d:Int)<(((bB x.op):Nat):Int)))=true) (h1:lit false (br x.op)=true) (h2:lit false (!(x.name== []))=true) (h3:lit true (!(br x.op))=true) (h4:lit false (!nq)=true) (h5:lit false (decide (((24:Nat):Int)<x.op))=true) (h6:lit false (decide (x.op<((1:Nat):Int)))=true) (h7:(decide (((0:Nat):Int)≤(k:Int)))=true) (h8:(decide ((k:Int)<(l.length:Int)))=true) (h9:lit true (decide ((k:Int)<(l.length:Int)))=true) (c0:CO 74 [.int .i64 x.op] (.ret (.bool (br x.op)))) (c1:CO 75 [.agg [.int .i64 x.op,.bool x.neg,.str x.num,.str x.den,.str x.name]] (.ret (.bool nq))) (c2:CO 76 [.str x.name] (.ret (.bool nm))) (c3:CO 48 [.int .i64 x.op] (.ret (.int .i64 (((bB x.op):Nat):Int)))):ah prog ap [] nt (ac 0 (ae f47)) ⟨[(0,.sl (aw l) l.length nn),(4,.int .i64 (k:Int)),(3,.int .i64 (d:Int))],[],.dead,[]⟩ (.normal) ⟨[(0,.sl (aw l) l.length nn),(4,.int .i64 (IntKind.wrap .i64 ((k:Int)+((1:Nat):Int)))),(3,.int .i64 (IntKind.wrap .i64 ((IntKind.wrap .i64 ((d:Int) - (((bB x.op):Nat):Int)))+((1:Nat):Int))))],[],.dead,[]⟩:=
 have h:ah prog ap [] nt (ac 0 (ae f47)) ⟨[(0,.sl (aw l) l.length nn),(4,.int .i64 (k:Int)),(3,.int .i64 (d:Int))],[],.dead,[]⟩ (.normal) ⟨[(0,.sl (aw l) l.length nn),(4,.int .i64 (IntKind.wrap .i64 ((k:Int)+((1:Nat):Int)))),(3,.int .i64 (IntKind.wrap .i64 ((IntKind.wrap .i64 ((d:Int) - (((bB x.op):Nat):Int)))+((1:Nat):Int))))],[(0,⟨[.int .i64 x.op,.bool x.neg,.str x.num,.str x.den,.str x.name],0,false,0,0,true⟩)],.dead,[]⟩:=pJ 47 [] 9 17 (.c h0 (.k 2 h1 (.k 1 h2 (.k 1 h3 (.c h4 (.c h5 (.k 1 h6 (.k 13 h7 (.c h8 (.c h9 .nil)))))))))) (.c c3 (.c c2 (.c c1 (.c c0 (.v 21 (.ppt hdr) .nil))))) hn
 h.forgetD 0 ⟨[.int .i64 x.op,.bool x.neg,.str x.num,.str x.den,.str x.name],0,false,0,0,true⟩ (by intro v h;cases h) (by decide) rfl ⟨Fz.same rfl,Fz.same rfl,Fz.same rfl,trivial⟩ rfl rfl
theorem Pz {nt:Nat} (hn:69≤nt) (l:List Nd) (nn:Bool) (k d:Nat) (nq nm:Bool) (x:Nd) (r:List Nd) (hdr:(List.drop ((Int.toNat (k:Int))*5) (aw l))=fk x++aw r) (h0:lit true (!nm)=true) (h1:lit true (br x.op)=true) (h2:lit false (!(br x.op))=true) (h3:lit false (!nq)=true) (h4:lit false (decide (((24:Nat):Int)<x.op))=true) (h5:lit false (decide (x.op<((1:Nat):Int)))=true) (h6:(decide (((0:Nat):Int)≤(k:Int)))=true) (h7:(decide ((k:Int)<(l.length:Int)))=true) (h8:lit true (decide ((k:Int)<(l.length:Int)))=true) (c0:CO 74 [.int .i64 x.op] (.ret (.bool (br x.op)))) (c1:CO 75 [.agg [.int .i64 x.op,.bool x.neg,.str x.num,.str x.den,.str x.name]] (.ret (.bool nq))) (c2:CO 76 [.str x.name] (.ret (.bool nm))):ah prog ap [] nt (ac 0 (ae f47)) ⟨[(0,.sl (aw l) l.length nn),(4,.int .i64 (k:Int)),(3,.int .i64 (d:Int))],[],.dead,[]⟩ (.ret) ⟨[(2,.int .i64 12)],[],.dead,[]⟩:=
 have h:ah prog ap [] nt (ac 0 (ae f47)) ⟨[(0,.sl (aw l) l.length nn),(4,.int .i64 (k:Int)),(3,.int .i64 (d:Int))],[],.dead,[]⟩ (.ret) ⟨[(2,.int .i64 12)],[(0,⟨[.int .i64 x.op,.bool x.neg,.str x.num,.str x.den,.str x.name],0,false,0,0,true⟩)],.dead,[]⟩:=pJ 47 [] 8 193 (.c h0 (.c h1 (.k 2 h2 (.c h3 (.c h4 (.k 1 h5 (.k 13 h6 (.c h7 (.c h8 .nil))))))))) (.c c2 (.c c1 (.c c0 (.v 21 (.ppt hdr) .nil)))) hn
 h.forgetD 0 ⟨[.int .i64 x.op,.bool x.neg,.str x.num,.str x.den,.str x.name],0,false,0,0,true⟩ (by intro v h;cases h) (by decide) rfl ⟨Fz.same rfl,trivial⟩ rfl rfl
theorem PA {nt:Nat} (hn:69≤nt) (l:List Nd) (nn:Bool) (k d:Nat) (nq nm:Bool) (x:Nd) (r:List Nd) (hdr:(List.drop ((Int.toNat (k:Int))*5) (aw l))=fk x++aw r) (h0:lit true (decide ((d:Int)<(((bB x.op):Nat):Int)))=true) (h1:lit false (!nm)=true) (h2:lit true (br x.op)=true) (h3:lit false (!(br x.op))=true) (h4:lit false (!nq)=true) (h5:lit false (decide (((24:Nat):Int)<x.op))=true) (h6:lit false (decide (x.op<((1:Nat):Int)))=true) (h7:(decide (((0:Nat):Int)≤(k:Int)))=true) (h8:(decide ((k:Int)<(l.length:Int)))=true) (h9:lit true (decide ((k:Int)<(l.length:Int)))=true) (c0:CO 74 [.int .i64 x.op] (.ret (.bool (br x.op)))) (c1:CO 75 [.agg [.int .i64 x.op,.bool x.neg,.str x.num,.str x.den,.str x.name]] (.ret (.bool nq))) (c2:CO 76 [.str x.name] (.ret (.bool nm))) (c3:CO 48 [.int .i64 x.op] (.ret (.int .i64 (((bB x.op):Nat):Int)))):ah prog ap [] nt (ac 0 (ae f47)) ⟨[(0,.sl (aw l) l.length nn),(4,.int .i64 (k:Int)),(3,.int .i64 (d:Int))],[],.dead,[]⟩ (.ret) ⟨[(2,.int .i64 11)],[],.dead,[]⟩:=
 have h:ah prog ap [] nt (ac 0 (ae f47)) ⟨[(0,.sl (aw l) l.length nn),(4,.int .i64 (k:Int)),(3,.int .i64 (d:Int))],[],.dead,[]⟩ (.ret) ⟨[(2,.int .i64 11)],[(0,⟨[.int .i64 x.op,.bool x.neg,.str x.num,.str x.den,.str x.name],0,false,0,0,true⟩)],.dead,[]⟩:=pJ 47 [] 9 321 (.c h0 (.k 1 h1 (.c h2 (.k 2 h3 (.c h4 (.c h5 (.k 1 h6 (.k 13 h7 (.c h8 (.c h9 .nil)))))))))) (.c c3 (.c c2 (.c c1 (.c c0 (.v 21 (.ppt hdr) .nil))))) hn
 h.forgetD 0 ⟨[.int .i64 x.op,.bool x.neg,.str x.num,.str x.den,.str x.name],0,false,0,0,true⟩ (by intro v h;cases h) (by decide) rfl ⟨Fz.same rfl,trivial⟩ rfl rfl
theorem PB {nt:Nat} (hn:69≤nt) (l:List Nd) (nn:Bool) (k d:Nat) (nq nm:Bool) (x:Nd) (r:List Nd) (hdr:(List.drop ((Int.toNat (k:Int))*5) (aw l))=fk x++aw r) (h0:lit false (decide ((d:Int)<(((bB x.op):Nat):Int)))=true) (h1:lit false (!nm)=true) (h2:lit true (br x.op)=true) (h3:lit false (!(br x.op))=true) (h4:lit false (!nq)=true) (h5:lit false (decide (((24:Nat):Int)<x.op))=true) (h6:lit false (decide (x.op<((1:Nat):Int)))=true) (h7:(decide (((0:Nat):Int)≤(k:Int)))=true) (h8:(decide ((k:Int)<(l.length:Int)))=true) (h9:lit true (decide ((k:Int)<(l.length:Int)))=true) (c0:CO 74 [.int .i64 x.op] (.ret (.bool (br x.op)))) (c1:CO 75 [.agg [.int .i64 x.op,.bool x.neg,.str x.num,.str x.den,.str x.name]] (.ret (.bool nq))) (c2:CO 76 [.str x.name] (.ret (.bool nm))) (c3:CO 48 [.int .i64 x.op] (.ret (.int .i64 (((bB x.op):Nat):Int)))):ah prog ap [] nt (ac 0 (ae f47)) ⟨[(0,.sl (aw l) l.length nn),(4,.int .i64 (k:Int)),(3,.int .i64 (d:Int))],[],.dead,[]⟩ (.normal) ⟨[(0,.sl (aw l) l.length nn),(4,.int .i64 (IntKind.wrap .i64 ((k:Int)+((1:Nat):Int)))),(3,.int .i64 (IntKind.wrap .i64 ((IntKind.wrap .i64 ((d:Int) - (((bB x.op):Nat):Int)))+((1:Nat):Int))))],[],.dead,[]⟩:=
 have h:ah prog ap [] nt (ac 0 (ae f47)) ⟨[(0,.sl (aw l) l.length nn),(4,.int .i64 (k:Int)),(3,.int .i64 (d:Int))],[],.dead,[]⟩ (.normal) ⟨[(0,.sl (aw l) l.length nn),(4,.int .i64 (IntKind.wrap .i64 ((k:Int)+((1:Nat):Int)))),(3,.int .i64 (IntKind.wrap .i64 ((IntKind.wrap .i64 ((d:Int) - (((bB x.op):Nat):Int)))+((1:Nat):Int))))],[(0,⟨[.int .i64 x.op,.bool x.neg,.str x.num,.str x.den,.str x.name],0,false,0,0,true⟩)],.dead,[]⟩:=pJ 47 [] 9 65 (.c h0 (.k 1 h1 (.c h2 (.k 2 h3 (.c h4 (.c h5 (.k 1 h6 (.k 13 h7 (.c h8 (.c h9 .nil)))))))))) (.c c3 (.c c2 (.c c1 (.c c0 (.v 21 (.ppt hdr) .nil))))) hn
 h.forgetD 0 ⟨[.int .i64 x.op,.bool x.neg,.str x.num,.str x.den,.str x.name],0,false,0,0,true⟩ (by intro v h;cases h) (by decide) rfl ⟨Fz.same rfl,Fz.same rfl,Fz.same rfl,trivial⟩ rfl rfl
theorem CA {nt:Nat} (hn:69≤nt) (l:List Nd) (nn:Bool) (k d:Nat) (nq nm:Bool) (h0:lit false (decide ((k:Int)<(l.length:Int)))=true):ah prog ap [] nt (ac 0 (ae f47)) ⟨[(0,.sl (aw l) l.length nn),(4,.int .i64 (k:Int)),(3,.int .i64 (d:Int))],[],.dead,[]⟩ (.exit 0) ⟨[(3,.int .i64 (d:Int))],[],.dead,[]⟩:=pJ 47 [] 1 0 (.c h0 .nil) (.nil) hn
theorem KJ (l:List Nd) (nn:Bool) (d:Nat) (h0:lit true (decide (((60:Nat):Int)<(l.length:Int)))=true):CO 47 [.sl (aw l) l.length nn] (.ret (.int .i64 2)):=pK [0] 1 1 (.c h0 .nil) (.nil)
theorem KK (l:List Nd) (nn:Bool) (d:Nat) (h0:lit true (!((d:Int)==((1:Nat):Int)))=true) (h1:lit false (decide (((60:Nat):Int)<(l.length:Int)))=true) (l0:aC prog ap [] 69 (.block 0 (.loop (ac 0 (ae f47)))) ⟨[(0,.sl (aw l) l.length nn),(2,.int .i64 0),(3,.int .i64 0),(4,.int .i64 0),(5,.dead),(6,.dead),(7,.dead),(8,.dead),(9,.dead),(12,.bool (decide (((60:Nat):Int)<(l.length:Int)))),(16,.dead),(48,.dead),(56,.dead),(62,.dead),(68,.dead)],[],.dead,[]⟩ (.normal) ⟨[(3,.int .i64 (d:Int))],[],.dead,[]⟩):CO 47 [.sl (aw l) l.length nn] (.ret (.int .i64 11)):=pK [0] 2 2 (.c h0 (.c h1 .nil)) (.l l0 .nil)
theorem KL (l:List Nd) (nn:Bool) (d:Nat) (h0:lit false (!((d:Int)==((1:Nat):Int)))=true) (h1:lit false (decide (((60:Nat):Int)<(l.length:Int)))=true) (l0:aC prog ap [] 69 (.block 0 (.loop (ac 0 (ae f47)))) ⟨[(0,.sl (aw l) l.length nn),(2,.int .i64 0),(3,.int .i64 0),(4,.int .i64 0),(5,.dead),(6,.dead),(7,.dead),(8,.dead),(9,.dead),(12,.bool (decide (((60:Nat):Int)<(l.length:Int)))),(16,.dead),(48,.dead),(56,.dead),(62,.dead),(68,.dead)],[],.dead,[]⟩ (.normal) ⟨[(3,.int .i64 (d:Int))],[],.dead,[]⟩):CO 47 [.sl (aw l) l.length nn] (.ret (.int .i64 0)):=pK [0] 2 0 (.c h0 (.c h1 .nil)) (.l l0 .nil)
theorem KM (l:List Nd) (nn:Bool) (w:Int) (h0:lit false (decide (((60:Nat):Int)<(l.length:Int)))=true) (l0:aC prog ap [] 69 (.block 0 (.loop (ac 0 (ae f47)))) ⟨[(0,.sl (aw l) l.length nn),(2,.int .i64 0),(3,.int .i64 0),(4,.int .i64 0),(5,.dead),(6,.dead),(7,.dead),(8,.dead),(9,.dead),(12,.bool (decide (((60:Nat):Int)<(l.length:Int)))),(16,.dead),(48,.dead),(56,.dead),(62,.dead),(68,.dead)],[],.dead,[]⟩ (.ret) ⟨[(2,.int .i64 w)],[],.dead,[]⟩):CO 47 [.sl (aw l) l.length nn] (.ret (.int .i64 w)):=pK [0] 1 0 (.c h0 .nil) (.l l0 .nil)
theorem xn (x:Nd) (r:List Nd):aw (x::r)=fk x++aw r:=rfl
theorem qy (a b:List Nd):aw (a++b)=aw a++aw b:=by unfold aw;rw [List.flatMap_append]
theorem aJ (l:List Nd):(aw l).length=l.length*5:=by
 induction l with
 |nil=>rfl
 |cons x r ih=>rw [xn,List.length_append,ih,List.length_cons];simp [fk];omega
theorem jP {p r:List Nd} {x:Nd} {k:Nat} (h:k=p.length):List.drop (Int.toNat (k:Int)*5) (aw (p++x::r))=fk x++aw r:=by
 subst h
 rw [aD,qy,xn,← aJ,List.drop_left]
def fB:List Nd→Nat→Nat ⊕ Int
 | [],d=> .inl d
 |x::r,d=>if az x=0 then (if d<bB x.op then .inr 11 else fB r (d - bB x.op+1)) else .inr (az x)
def dX (l:List Nd):Int:=if 60<l.length then 2 else match fB l 0 with| .inl d=>if d=1 then 0 else 11| .inr w=>w
def wJ:Nat ⊕ Int→bk
 | .inl _=> .exit 0
 | .inr _=> .ret
def BP (l:List Nd) (nn:Bool) (p:Nat × Nat):St:=⟨[(10,.sl (aw l) l.length nn),(11,.int .i64 (l.length:Int)),(12,.int .i64 (p.1:Int)),(3,.int .i64 (p.2:Int))],[],.dead,[]⟩
def o_:Nat ⊕ Int→St
 | .inl d=> ⟨[(3,.int .i64 (d:Int))],[],.dead,[]⟩
 | .inr w=> ⟨[(2,.int .i64 w)],[],.dead,[]⟩
theorem qR (op:Int):bB op≤3:=by unfold bB;(repeat' split)<;>omega
theorem sV {x:Nd} (h:az x=0):1≤x.op∧x.op≤24:=by
 cases hb:Ch x.op with
 |true=>simpa [Ch] using hb
 |false=>unfold az at h;rw [hb] at h;simp at h
theorem DF {nt:Nat} (hn:35≤nt) (l p r:List Nd) (nn:Bool) (x:Nd) (d:Nat) (hx:x.sm) (hl:l=p++x::r) (hll:l.length<2^40) (hd:d<2^41):
  (¬ az x=0→ah prog ap [] nt (ac 0 (ae f49)) (BP l nn (p.length,d)) .ret (o_ (.inr (az x))))∧
  (az x=0→d<bB x.op→ah prog ap [] nt (ac 0 (ae f49)) (BP l nn (p.length,d)) .ret (o_ (.inr 11)))∧
  (az x=0→¬ d<bB x.op→ah prog ap [] nt (ac 0 (ae f49)) (BP l nn (p.length,d)) .normal (BP l nn (p.length+1,d - bB x.op+1))):=by
 have hdr:List.drop (Int.toNat (p.length:Int)*5) (aw l)=fk x++aw r:=by rw [hl];exact jP rfl
 have hlen:p.length+(r.length+1)=l.length:=by rw [hl];simp
 have hw:=FH x hx
 have har:=qR x.op
 unfold BP o_
 refine ⟨fun h1=> ?_,fun h1 h2=> ?_,fun h1 h2=> ?_⟩
 ·have hb:=Rn hn l nn p.length d (az x) x r hdr
  have hne:(!(az x==((0:Nat):Int)))=true:=by simpa using h1
  simp (disch:=first|omega|(simp [ai,ar]<;>omega)) only [hne,bd,bI,aY,aP] at hb
  apply hb<;>first|exact True.intro|omega|assumption|exact rfl
 ·obtain ⟨i1,i2⟩:=sV h1
  have ht:=zI i1 i2
  rw [h1] at hw
  have hb:=Ro hn l nn p.length d 0 x r hdr
  have e2:IntKind.wrap .i64 ((d:Int) - ((bB x.op:Nat):Int))=(d:Int) - (bB x.op:Int):=bo (by omega) (by omega)
  simp (disch:=first|omega|(simp [ai,ar]<;>omega)) only [Nat.zero_add,ht,aV,e2,bd,aY,bZ,bO,bY,pD,bI,aP] at hb
  apply hb<;>first|exact True.intro|omega|assumption|exact rfl
 ·obtain ⟨i1,i2⟩:=sV h1
  have ht:=zI i1 i2
  rw [h1] at hw
  have hb:=Rp hn l nn p.length d 0 x r hdr
  have e2:IntKind.wrap .i64 ((d:Int) - ((bB x.op:Nat):Int))=((d - bB x.op:Nat):Int):=by rw [bo]<;>omega
  simp (disch:=first|omega|(simp [ai,ar]<;>omega)) only [Nat.zero_add,ht,aV,e2,aP,bO,bY,b_,bZ,aY,pD,bI,bd,bG,aZ] at hb
  apply hb<;>first|exact True.intro|omega|assumption|exact rfl
theorem Gh {nt:Nat} (hn:35≤nt) (l:List Nd) (nn:Bool) (hll:l.length<2^40) (hsm:∀ x ∈ l,x.sm):∀ (r p:List Nd) (d:Nat),p++r=l→d≤p.length→aA prog ap [] nt (ac 0 (ae f49)) wJ (BP l nn) o_ (p.length,d) (fB r d):=by
 intro r
 induction r with
 |nil=>
  intro p d h _
  have hp:p.length=l.length:=by rw [← h];simp
  rw [hp]
  exact .done (DE hn l nn l.length d 0 (by rw [aP];simp [lit]))
 | cons x r ih=>
  intro p d h hd
  have hl:p.length+(r.length+1)=l.length:=by rw [← h];simp
  obtain ⟨r1,r2,r3⟩:=DF hn l p r nn x d (hsm x (by rw [← h];simp)) h.symm hll (by omega)
  simp only [fB]
  by_cases h1:az x=0
  ·rw [if_pos h1]
   by_cases h2:d<bB x.op
   ·rw [if_pos h2];exact .done (r2 h1 h2)
   ·rw [if_neg h2]
    have hnext:=ih (p++ [x]) (d - bB x.op+1) (by simp [h]) (by simp;omega)
    rw [List.length_append,List.length_singleton] at hnext
    exact .next (r3 h1 h2) hnext
  ·rw [if_neg h1];exact .done (r1 h1)
theorem wI (l:List Nd) (nn:Bool) (hsm:∀ x ∈ l,x.sm):CO 49 [.sl (aw l) l.length nn] (.ret (.int .i64 (dX l))):=by
 unfold dX
 by_cases h60:60<l.length
 ·rw [if_pos h60]
  exact Mv l nn 0 (by rw [aP];exact decide_eq_true h60)
 ·rw [if_neg h60]
  have hc:lit false (decide (((60:Nat):Int)<(l.length:Int)))=true:=by rw [aP];simp only [lit,Bool.not_eq_true'];exact decide_eq_false h60
  have hloop:=fun nt (hn:35≤nt)=>Gh hn l nn (by omega) hsm l [] 0 rfl (by simp)
  cases hr:fB l 0 with
  | inl d=>
   rw [hr] at hloop
   by_cases hd:d=1
   ·have h:=Mx l nn d (by rw [eP,decide_eq_true hd];rfl) hc
    simp only [if_pos hd]
    exact h (aA.blk hloop (by simp [wJ]) rfl (aF.of ⟨rfl,rfl,rfl,rfl,trivial⟩) (aF.of ⟨rfl,trivial⟩))
   ·have h:=Mw l nn d (by rw [eP,decide_eq_false hd];rfl) hc
    simp only [if_neg hd]
    exact h (aA.blk hloop (by simp [wJ]) rfl (aF.of ⟨rfl,rfl,rfl,rfl,trivial⟩) (aF.of ⟨rfl,trivial⟩))
  |inr w=>
   rw [hr] at hloop
   exact My l nn w hc (aA.blk hloop (by simp [wJ]) rfl (aF.of ⟨rfl,rfl,rfl,rfl,trivial⟩) (aF.of ⟨rfl,trivial⟩))
def uJ (l:List Nd) (nn:Bool) (p:Nat × Nat):St:=⟨[(0,.sl (aw l) l.length nn),(4,.int .i64 (p.1:Int)),(3,.int .i64 (p.2:Int))],[],.dead,[]⟩
theorem sU {x:Nd} (h:Ch x.op=false∨cX x=false∨(br x.op=false∧(x.name== [])=false)):az x=11:=by
 unfold az
 rcases h with h|h|⟨h,h'⟩
 ·rw [h];rfl
 ·rw [h];cases (!Ch x.op||(!br x.op && !(x.name== [])))<;>rfl
 ·rw [h,h'];cases Ch x.op<;>rfl
theorem CB {nt:Nat} (hn:69≤nt) (l p r:List Nd) (nn:Bool) (x:Nd) (d:Nat) (hx:x.sm) (hl:l=p++x::r) (hll:l.length<2^40) (hd:d<2^41):
  (¬ az x=0→ah prog ap [] nt (ac 0 (ae f47)) (uJ l nn (p.length,d)) .ret (o_ (.inr (az x))))∧
  (az x=0→d<bB x.op→ah prog ap [] nt (ac 0 (ae f47)) (uJ l nn (p.length,d)) .ret (o_ (.inr 11)))∧
  (az x=0→¬ d<bB x.op→ah prog ap [] nt (ac 0 (ae f47)) (uJ l nn (p.length,d)) .normal (uJ l nn (p.length+1,d - bB x.op+1))):=by
 have hdr:List.drop (Int.toNat (p.length:Int)*5) (aw l)=fk x++aw r:=by rw [hl];exact jP rfl
 have hlen:p.length+(r.length+1)=l.length:=by rw [hl];simp
 have k0:=Hf x.op
 have k1:=xy x hx
 have k2:=EV x.name
 have k3:=zX x.op
 have har:=qR x.op
 have c0:decide (((0:Nat):Int)≤(p.length:Int))=true:=by simp
 have c1:decide ((p.length:Int)<(l.length:Int))=true:=by rw [aP];exact decide_eq_true (by omega)
 have c2:lit true (decide ((p.length:Int)<(l.length:Int)))=true:=c1
 have e2:¬ d<bB x.op→IntKind.wrap .i64 ((d:Int) - ((bB x.op:Nat):Int))=((d - bB x.op:Nat):Int):=fun h=>by rw [bo]<;>omega
 unfold uJ o_
 cases hi:Ch x.op with
 | false=>
  have hw:az x=11:=sU (.inl hi)
  rw [hw]
  refine ⟨fun _=> ?_,fun h1=>(by simp at h1),fun h1=>(by simp at h1)⟩
  have hop:x.op<1∨24<x.op:=by
   have:¬ (1≤x.op∧x.op≤24):=by simpa [Ch] using hi
   omega
  by_cases h1:x.op<1
  ·exact Pt hn l nn p.length d (cX x) true x r hdr (by simp [lit];omega) c0 c1 c2 k0 k1
  ·exact Pu hn l nn p.length d (cX x) true x r hdr (by simp [lit];omega) (by simp [lit];omega) c0 c1 c2 k0 k1
 | true=>
  have hop:1≤x.op∧x.op≤24:=by simpa [Ch] using hi
  have d1:lit false (decide (((24:Nat):Int)<x.op))=true:=by simp [lit];omega
  have d2:lit false (decide (x.op<((1:Nat):Int)))=true:=by simp [lit];omega
  cases hq:cX x with
  |false=>
   have hw:az x=11:=sU (.inr (.inl hq))
   rw [hw]
   rw [hq] at k1
   refine ⟨fun _=> ?_,fun h1=>(by simp at h1),fun h1=>(by simp at h1)⟩
   exact Pv hn l nn p.length d false true x r hdr rfl d1 d2 c0 c1 c2 k0 k1
  | true=>
   rw [hq] at k1
   cases hnm:br x.op with
   | false=>
    rw [hnm] at k0
    cases hne:(x.name== []) with
    |false=>
     have hw:az x=11:=sU (.inr (.inr ⟨hnm,hne⟩))
     rw [hw]
     refine ⟨fun _=> ?_,fun h1=>(by simp at h1),fun h1=>(by simp at h1)⟩
     exact Pw hn l nn p.length d true true x r hdr (by rw [hne];rfl) (by rw [hnm];rfl) rfl d1 d2 c0 c1 c2 (by rw [hnm];exact k0) k1
    | true=>
     have hw:az x=0:=by unfold az;rw [hi,hnm,hne,hq];rfl
     refine ⟨fun h=>absurd hw h,fun _ h2=> ?_,fun _ h2=> ?_⟩
     ·exact Px hn l nn p.length d true _ x r hdr (by rw [aP,decide_eq_true h2];rfl) (by rw [hnm];rfl) (by rw [hne];rfl) (by rw [hnm];rfl) rfl d1 d2 c0 c1 c2 (by rw [hnm];exact k0) k1 k2 k3
     ·have hb:=Py hn l nn p.length d true _ x r hdr (by rw [aP,decide_eq_false h2];rfl) (by rw [hnm];rfl) (by rw [hne];rfl) (by rw [hnm];rfl) rfl d1 d2 c0 c1 c2 (by rw [hnm];exact k0) k1 k2 k3
      rw [e2 h2,nW (by omega),nW (by omega)] at hb
      exact hb
   | true=>
    rw [hnm] at k0
    cases hnq:kN x.name with
    |false=>
     have hw:az x=12:=by unfold az;rw [hi,hnm,hq,hnq];rfl
     rw [hw]
     rw [hnq] at k2
     refine ⟨fun _=> ?_,fun h1=>(by simp at h1),fun h1=>(by simp at h1)⟩
     exact Pz hn l nn p.length d true false x r hdr rfl (by rw [hnm];rfl) (by rw [hnm];rfl) rfl d1 d2 c0 c1 c2 (by rw [hnm];exact k0) k1 k2
    | true=>
     have hw:az x=0:=by unfold az;rw [hi,hnm,hq,hnq];rfl
     rw [hnq] at k2
     refine ⟨fun h=>absurd hw h,fun _ h2=> ?_,fun _ h2=> ?_⟩
     ·exact PA hn l nn p.length d true true x r hdr (by rw [aP,decide_eq_true h2];rfl) rfl (by rw [hnm];rfl) (by rw [hnm];rfl) rfl d1 d2 c0 c1 c2 (by rw [hnm];exact k0) k1 k2 k3
     ·have hb:=PB hn l nn p.length d true true x r hdr (by rw [aP,decide_eq_false h2];rfl) rfl (by rw [hnm];rfl) (by rw [hnm];rfl) rfl d1 d2 c0 c1 c2 (by rw [hnm];exact k0) k1 k2 k3
      rw [e2 h2,nW (by omega),nW (by omega)] at hb
      exact hb
theorem EM {nt:Nat} (hn:69≤nt) (l:List Nd) (nn:Bool) (hll:l.length<2^40) (hsm:∀ x ∈ l,x.sm):∀ (r p:List Nd) (d:Nat),p++r=l→d≤p.length→aA prog ap [] nt (ac 0 (ae f47)) wJ (uJ l nn) o_ (p.length,d) (fB r d):=by
 intro r
 induction r with
 |nil=>
  intro p d h _
  have hp:p.length=l.length:=by rw [← h];simp
  rw [hp]
  exact .done (CA hn l nn l.length d true true (by rw [aP];simp [lit]))
 | cons x r ih=>
  intro p d h hd
  have hl:p.length+(r.length+1)=l.length:=by rw [← h];simp
  obtain ⟨r1,r2,r3⟩:=CB hn l p r nn x d (hsm x (by rw [← h];simp)) h.symm hll (by omega)
  simp only [fB]
  by_cases h1:az x=0
  ·rw [if_pos h1]
   by_cases h2:d<bB x.op
   ·rw [if_pos h2];exact .done (r2 h1 h2)
   ·rw [if_neg h2]
    have hnext:=ih (p++ [x]) (d - bB x.op+1) (by simp [h]) (by simp;omega)
    rw [List.length_append,List.length_singleton] at hnext
    exact .next (r3 h1 h2) hnext
  ·rw [if_neg h1];exact .done (r1 h1)
theorem uI (l:List Nd) (nn:Bool) (hsm:∀ x ∈ l,x.sm):CO 47 [.sl (aw l) l.length nn] (.ret (.int .i64 (dX l))):=by
 unfold dX
 by_cases h60:60<l.length
 ·rw [if_pos h60]
  exact KJ l nn 0 (by rw [aP];exact decide_eq_true h60)
 ·rw [if_neg h60]
  have hc:lit false (decide (((60:Nat):Int)<(l.length:Int)))=true:=by rw [aP];simp only [lit,Bool.not_eq_true'];exact decide_eq_false h60
  have hloop:=fun nt (hn:69≤nt)=>EM hn l nn (by omega) hsm l [] 0 rfl (by simp)
  cases hr:fB l 0 with
  | inl d=>
   rw [hr] at hloop
   by_cases hd:d=1
   ·have h:=KL l nn d (by rw [eP,decide_eq_true hd];rfl) hc
    simp only [if_pos hd]
    exact h (aA.blk hloop (by simp [wJ]) rfl (aF.of ⟨rfl,rfl,rfl,trivial⟩) (aF.of ⟨rfl,trivial⟩))
   ·have h:=KK l nn d (by rw [eP,decide_eq_false hd];rfl) hc
    simp only [if_neg hd]
    exact h (aA.blk hloop (by simp [wJ]) rfl (aF.of ⟨rfl,rfl,rfl,trivial⟩) (aF.of ⟨rfl,trivial⟩))
  |inr w=>
   rw [hr] at hloop
   exact KM l nn w hc (aA.blk hloop (by simp [wJ]) rfl (aF.of ⟨rfl,rfl,rfl,trivial⟩) (aF.of ⟨rfl,trivial⟩))
structure Sg where
 op:Int
 name:List UInt8
 ty:Ty
def LR (s:Sg):List AV:= [.int .i64 s.op,.str s.name,.bool s.ty.tr,.int .i64 s.ty.m,.int .i64 s.ty.d]
def aW (l:List Sg):List AV:=l.flatMap LR
theorem xQ (x:Sg) (r:List Sg):aW (x::r)=LR x++aW r:=rfl
theorem H8 (a b:List Sg):aW (a++b)=aW a++aW b:=by unfold aW;rw [List.flatMap_append]
theorem H9 (l:List Sg):(aW l).length=l.length*5:=by
 induction l with
 |nil=>rfl
 |cons x r ih=>rw [xQ,List.length_append,ih,List.length_cons];simp [LR];omega
theorem Br {p r:List Sg} {x:Sg} {k:Nat} (h:k=p.length):List.drop (Int.toNat (k:Int)*5) (aW (p++x::r))=LR x++aW r:=by
 subst h
 rw [aD,H8,xQ,← H9,List.drop_left]
def gj (s:Sg) (op:Int) (nm:List UInt8):Bool:=(s.op==op) && ((s.name==nm) && (br op && (aI s.ty && (!(op==((24:Nat):Int))|| !s.ty.tr))))
def jN (s:Sg) (op:Int) (nm:List UInt8):Bool:=(s.op==op) && ((s.name==nm) && (aI s.ty && (!(s.op==((24:Nat):Int))|| !s.ty.tr)))
def dL (l:List Sg) (op:Int) (nm:List UInt8):Option Ty:=(l.find? fun s=>gj s op nm).map (·.ty)
def uo (l:List Sg) (op:Int) (nm:List UInt8):Option Ty:=(l.find? fun s=>jN s op nm).map (·.ty)
def zT:Ty:=⟨false,0,0⟩
def uN (hit:Sg→Bool) (_:Unit) (s:Sg):Unit ⊕ Option Ty:=if hit s then .inr (some s.ty) else .inl ()
theorem Bm (hit:Sg→Bool) (l:List Sg):goL (uN hit) (fun _=>none) l ()=(l.find? hit).map (·.ty):=by
 induction l with
 |nil=>rfl
 |cons s r ih=>
  simp only [goL,uN,List.find?_cons]
  cases h:hit s with
  |true=>simp
  |false=>simpa using ih
def LJ:Option Ty→bk
 |none=> .exit 0
 |some _=> .ret
theorem zQ {i:Nat} (h:i<2^62):AV.int .i64 (IntKind.wrap .i64 ((i:Int)+((1:Nat):Int)))= .int .i64 ((i+1:Nat):Int):=by rw [bo]<;>first|rfl|omega
def iL (l:List Int):List AV:=l.map fun a=> .int .i64 a
theorem GS {a:List Int} {i:Nat} (h:i<a.length):List.drop (Int.toNat (i:Int)*1) (iL a)= [AV.int .i64 (a.getD i 0)]++iL (a.drop (i+1)):=by
 unfold iL
 rw [aD,Nat.mul_one,← List.map_drop,List.drop_eq_getElem_cons h,List.getD_eq_getElem?_getD,List.getElem?_eq_getElem h]
 rfl
abbrev dB (xs:List Int) (nn:Bool) (k:Nat):a_:=⟨[.sl (iL xs) xs.length nn,.int .i64 (k:Int)],0,false,0,0,true⟩
theorem zR {i:Nat} (h:i<2^62):AV.int .i64 (IntKind.wrap .i64 (((i+1:Nat):Int) - ((1:Nat):Int)))= .int .i64 (i:Int):=by rw [bo]<;>first|(congr 1;omega)|omega
theorem R1 (xs:List Int) (nn:Bool) (k n:Nat) (h0:lit true (decide ((xs.length:Int)≤(k:Int)))=true):aB prog ap 56 [.ptr 0 0 0,.int .i64 (n:Int)] [⟨[.sl (iL xs) xs.length nn,.int .i64 (k:Int)],0,false,0,0,true⟩] (.ret (.int .i64 0)) [⟨[.sl (iL xs) xs.length nn,.int .i64 (k:Int)],0,false,0,0,true⟩]:=pK [] 1 1 (.c h0 (.n 2 .nil)) (.nil)
theorem R2 (xs:List Int) (nn:Bool) (k n r:Nat) (hk:k<2^62) (hx:List.drop ((Int.toNat (k:Int))*1) (iL xs)= [AV.int .i64 (xs.getD k 0)]++iL (xs.drop (k+1))) (h0:(decide (((0:Nat):Int)≤(k:Int)))=true) (h1:(decide ((k:Int)<(xs.length:Int)))=true) (h2:lit false (decide ((xs.length:Int)≤(k:Int)))=true) (c0:CO 18 [.int .i64 (xs.getD k 0),.int .i64 (n:Int)] (.ret (.int .i64 (r:Int)))):aB prog ap 56 [.ptr 0 0 0,.int .i64 (n:Int)] [⟨[.sl (iL xs) xs.length nn,.int .i64 (k:Int)],0,false,0,0,true⟩] (.ret (.int .i64 (r:Int))) [⟨[.sl (iL xs) xs.length nn,.int .i64 (((k+1):Nat):Int)],0,false,0,0,true⟩]:=pK [] 1 0 (.k 1 h0 (.c h1 (.k 4 h2 (.n 2 .nil)))) (.c c0 (.v 31 (.ppt hx) (.v 30 (.eq (zR hk)) (.v 19 (.eq (zQ hk)) .nil))))
theorem cG (xs:List Int) (nn:Bool) (k n:Nat) (hl:xs.length<2^62) (hk:k≤xs.length) (hn:0<n) (hn2:n<1000):∃ r k':Nat,r<n∧k'≤xs.length∧aB prog ap 56 [.ptr 0 0 0,.int .i64 (n:Int)] [dB xs nn k] (.ret (.int .i64 (r:Int))) [dB xs nn k']:=by
 by_cases h:k<xs.length
 ·obtain ⟨r,hr,hm⟩:=Ej (xs.getD k 0) n hn hn2
  exact ⟨r,k+1,hr,h,R2 xs nn k n r (by omega) (GS h) (decide_eq_true (by omega)) (decide_eq_true (by omega)) (by simp [lit];omega) hm⟩
 ·exact ⟨0,k,hn,hk,R1 xs nn k n (decide_eq_true (by omega))⟩
theorem Od (x y:Nat) (c0:CO 62 [.str (ak x),.int .i64 3] (.ret (.tup [.int .i64 (x:Int),.bool true]))) (c1:CO 62 [.str (ak y),.int .i64 4] (.ret (.tup [.int .i64 (y:Int),.bool true]))) (c2:CO 39 [.int .i64 (IntKind.wrap .i64 ((x:Int)*(y:Int)))] (.ret (.str (ak (x*y))))):CO 73 [.str (ak x),.str (ak y)] (.ret (.str (ak (x*y)))):=pK [] 2 3 (.n 2 .nil) (.c c2 (.c c1 (.c c0 .nil)))
theorem dJ {x:Nat} (h:x<16777216):(ak x).length≤7:=ic (by omega)
theorem Oc (x y:Nat) (hx:x<65536) (hy:y<65536):CO 73 [.str (ak x),.str (ak y)] (.ret (.str (ak (x*y)))):=by
 have l1:=dJ (x:=x) (by omega)
 have l2:=dJ (x:=y) (by omega)
 have s1:=gu (ak x) 3 (by omega) (by omega) (by rw [aT];omega)
 have s2:=gu (ak y) 4 (by omega) (by omega) (by rw [aT];omega)
 rw [aT] at s1 s2
 have hb:x*y<65536*65536:=Nat.mul_lt_mul'' hx hy
 have h3:=ik (x*y) (by omega)
 refine Od x y s1 s2 ?_
 rw [← Int.natCast_mul,bo (by omega) (by omega)]
 exact h3
theorem Pm (neg:Bool) (n k:Nat) (q:RQ) (h0:lit false ((ak k)== [])=true) (c0:CO 71 [.agg [.bool neg,.str (ak n),.str (ak 1)]] (.ret (.agg [.bool neg,.str (ak n),.str (ak 1)]))) (c1:CO 71 [.agg [.bool false,.str (ak k),.str (ak 1)]] (.ret (.agg [.bool false,.str (ak k),.str (ak 1)]))) (c2:CO 73 [.str (ak n),.str (ak 1)] (.ret (.str (ak (n*1))))) (c3:CO 73 [.str (ak 1),.str (ak k)] (.ret (.str (ak (1*k))))) (c4:CO 72 [.bool (!(neg==false)),.str (ak (n*1)),.str (ak (1*k))] (.ret (.agg [.bool q.neg,.str (ak q.n),.str (ak q.d)]))):CO 46 [.agg [.bool neg,.str (ak n),.str (ak 1)],.agg [.bool false,.str (ak k),.str (ak 1)]] (.ret (.tup [.agg [.bool q.neg,.str (ak q.n),.str (ak q.d)],.bool true])):=pK [] 1 0 (.k 10 h0 (.n 9 .nil)) (.c c4 (.c c3 (.c c2 (.c c1 (.c c0 .nil)))))
theorem vB {neg:Bool} {n:Nat} (h:neg=true→0<n):(⟨neg,n,1⟩:RQ).ok:=⟨by simp,by simp,h⟩
theorem BG {neg:Bool} {n d:Nat} (h:(⟨neg,n,d⟩:RQ).ok):vQ neg (ak n) (ak d)=⟨neg,n,d⟩:=by
 unfold vQ
 rw [if_pos (yX ⟨neg,n,d⟩ h),aT,aT]
theorem Hl {k:Nat} (h:0<k):ak k ≠ []:=by
 intro he
 have:=aT k
 rw [he] at this
 simp [af] at this
 omega
theorem tJ (neg:Bool) (n k:Nat) (hneg:neg=true→0<n) (hn:n<65536) (hk:0<k) (hk2:k<65536):CO 46 [qA ⟨neg,n,1⟩,qA ⟨false,k,1⟩] (.ret (.tup [qA (mA neg n k),.bool true])):=by
 have l1:=dJ (x:=n) (by omega)
 have l2:=dJ (x:=k) (by omega)
 have l3:=dJ (x:=1) (by omega)
 have v1:=sw neg (ak n) (ak 1) (by omega) (by omega)
 have v2:=sw false (ak k) (ak 1) (by omega) (by omega)
 rw [BG (vB hneg)] at v1
 rw [BG (vB (by simp))] at v2
 have m1:=Oc n 1 hn (by omega)
 have m2:=Oc 1 k (by omega) hk2
 have l4:(ak (n*1)).length≤7:=dJ (by omega)
 have l5:(ak (1*k)).length≤7:=dJ (by omega)
 have lw:=EI neg (n*1) (1*k) (by omega) (by omega) (by omega)
 rw [Nat.mul_one,Nat.one_mul] at lw
 have e:(!(neg==false))=neg:=by cases neg<;>rfl
 have h:=Pm neg n k (mA neg n k) (by rw [show (ak k== [])=false by simpa using Hl hk];rfl) v1 v2 m1 m2
 rw [e,Nat.mul_one,Nat.one_mul] at h
 exact h lw
theorem HX (x:Nat) (hx:x<1000000):CO 19 [.int .i64 (-((x:Int)+1))] (.ret (xD true (x+1) 1)):=by
 have hx63:x<9223372036854775808:=by omega
 have h1:=ik x hx63
 have h2:=ik 1 (by omega)
 have l1:(ak x).length≤7:=ic (by omega)
 have l2:(ak 1).length≤7:=ic (by omega)
 have s1:=gu (ak x) 7 (by omega) (by omega) (by rw [aT];omega)
 have s2:=gu (ak 1) 7 (by omega) (by omega) (by rw [aT];omega)
 rw [aT] at s1 s2
 have ha:=Ln (ak x) (ak 1) x 1 (x+1)
 rw [nW (by omega)] at ha
 have ha2:=ha s1 s2 (ik (x+1) (by omega))
 have h:=O8 (-((x:Int)+1)) (x+1) x
 have e1:IntKind.wrap .i64 (-((x:Int)+1)+((1:Nat):Int))= -(x:Int):=by rw [bo]<;>omega
 have e2:IntKind.wrap .i64 (0 - -(x:Int))=(x:Int):=by rw [bo]<;>omega
 rw [e1,e2] at h
 exact h (by simp only [lit,Bool.not_eq_true'];exact decide_eq_false (by omega)) h1 h2 ha2 h2
def nG (v:Int):RQ:=⟨decide (v<0),v.natAbs,1⟩
theorem dR (v:Int) (h: -1000000≤v) (h':v≤1000000):CO 19 [.int .i64 v] (.ret (qA (nG v))):=by
 by_cases h0:0≤v
 ·obtain ⟨x,rfl⟩:∃ x:Nat,v=(x:Int):=⟨v.toNat,by omega⟩
  have:=Kv x (by omega)
  unfold nG
  rw [decide_eq_false (by omega),Int.natAbs_natCast]
  exact this
 ·obtain ⟨x,rfl⟩:∃ x:Nat,v= -((x:Int)+1):=⟨(-v - 1).toNat,by omega⟩
  have:=HX x (by omega)
  unfold nG
  rw [decide_eq_true (by omega),show (-((x:Int)+1)).natAbs=x+1 by omega]
  exact this
theorem KD (xs:List Int) (nn:Bool) (k k1 k2 r:Nat) (ls:Int) (q w:RQ) (c0:aB prog ap 56 [.ptr 0 0 0,.int .i64 40] [⟨[.sl (iL xs) xs.length nn,.int .i64 (k:Int)],0,false,0,0,true⟩] (.ret (.int .i64 (r:Int))) [⟨[.sl (iL xs) xs.length nn,.int .i64 (k1:Int)],0,false,0,0,true⟩]) (c1:CO 19 [.int .i64 (IntKind.wrap .i64 (ls+(r:Int)))] (.ret (.agg [.bool q.neg,.str (ak q.n),.str (ak q.d)]))) (c2:aB prog ap 56 [.ptr 0 0 0,.int .i64 4] [⟨[.sl (iL xs) xs.length nn,.int .i64 (k1:Int)],0,false,0,0,true⟩] (.ret (.int .i64 0)) [⟨[.sl (iL xs) xs.length nn,.int .i64 (k2:Int)],0,false,0,0,true⟩]) (c3:CO 19 [.int .i64 1] (.ret (.agg [.bool false,.str (ak 1),.str (ak 1)]))) (c4:CO 46 [.agg [.bool q.neg,.str (ak q.n),.str (ak q.d)],.agg [.bool false,.str (ak 1),.str (ak 1)]] (.ret (.tup [.agg [.bool w.neg,.str (ak w.n),.str (ak w.d)],.bool true]))):aB prog ap 59 [.ptr 0 0 0,.int .i64 ls] [⟨[.sl (iL xs) xs.length nn,.int .i64 (k:Int)],0,false,0,0,true⟩] (.ret (.agg [.bool w.neg,.str (ak w.n),.str (ak w.d)])) [⟨[.sl (iL xs) xs.length nn,.int .i64 (k2:Int)],0,false,0,0,true⟩]:=pK [] 0 0 (.n 11 .nil) (.c c4 (.c c3 (.c c2 (.c c1 (.c c0 .nil)))))
theorem KE (xs:List Int) (nn:Bool) (k k1 k2 r:Nat) (ls:Int) (q w:RQ) (c0:aB prog ap 56 [.ptr 0 0 0,.int .i64 40] [⟨[.sl (iL xs) xs.length nn,.int .i64 (k:Int)],0,false,0,0,true⟩] (.ret (.int .i64 (r:Int))) [⟨[.sl (iL xs) xs.length nn,.int .i64 (k1:Int)],0,false,0,0,true⟩]) (c1:CO 19 [.int .i64 (IntKind.wrap .i64 (ls+(r:Int)))] (.ret (.agg [.bool q.neg,.str (ak q.n),.str (ak q.d)]))) (c2:aB prog ap 56 [.ptr 0 0 0,.int .i64 4] [⟨[.sl (iL xs) xs.length nn,.int .i64 (k1:Int)],0,false,0,0,true⟩] (.ret (.int .i64 1)) [⟨[.sl (iL xs) xs.length nn,.int .i64 (k2:Int)],0,false,0,0,true⟩]) (c3:CO 19 [.int .i64 1] (.ret (.agg [.bool false,.str (ak 1),.str (ak 1)]))) (c4:CO 46 [.agg [.bool q.neg,.str (ak q.n),.str (ak q.d)],.agg [.bool false,.str (ak 1),.str (ak 1)]] (.ret (.tup [.agg [.bool w.neg,.str (ak w.n),.str (ak w.d)],.bool true]))):aB prog ap 59 [.ptr 0 0 0,.int .i64 ls] [⟨[.sl (iL xs) xs.length nn,.int .i64 (k:Int)],0,false,0,0,true⟩] (.ret (.agg [.bool w.neg,.str (ak w.n),.str (ak w.d)])) [⟨[.sl (iL xs) xs.length nn,.int .i64 (k2:Int)],0,false,0,0,true⟩]:=pK [] 0 0 (.n 11 .nil) (.c c4 (.c c3 (.c c2 (.c c1 (.c c0 .nil)))))
theorem KF (xs:List Int) (nn:Bool) (k k1 k2 r:Nat) (ls:Int) (q w:RQ) (c0:aB prog ap 56 [.ptr 0 0 0,.int .i64 40] [⟨[.sl (iL xs) xs.length nn,.int .i64 (k:Int)],0,false,0,0,true⟩] (.ret (.int .i64 (r:Int))) [⟨[.sl (iL xs) xs.length nn,.int .i64 (k1:Int)],0,false,0,0,true⟩]) (c1:CO 19 [.int .i64 (IntKind.wrap .i64 (ls+(r:Int)))] (.ret (.agg [.bool q.neg,.str (ak q.n),.str (ak q.d)]))) (c2:aB prog ap 56 [.ptr 0 0 0,.int .i64 4] [⟨[.sl (iL xs) xs.length nn,.int .i64 (k1:Int)],0,false,0,0,true⟩] (.ret (.int .i64 2)) [⟨[.sl (iL xs) xs.length nn,.int .i64 (k2:Int)],0,false,0,0,true⟩]) (c3:CO 19 [.int .i64 2] (.ret (.agg [.bool false,.str (ak 2),.str (ak 1)]))) (c4:CO 46 [.agg [.bool q.neg,.str (ak q.n),.str (ak q.d)],.agg [.bool false,.str (ak 2),.str (ak 1)]] (.ret (.tup [.agg [.bool w.neg,.str (ak w.n),.str (ak w.d)],.bool true]))):aB prog ap 59 [.ptr 0 0 0,.int .i64 ls] [⟨[.sl (iL xs) xs.length nn,.int .i64 (k:Int)],0,false,0,0,true⟩] (.ret (.agg [.bool w.neg,.str (ak w.n),.str (ak w.d)])) [⟨[.sl (iL xs) xs.length nn,.int .i64 (k2:Int)],0,false,0,0,true⟩]:=pK [] 0 0 (.n 11 .nil) (.c c4 (.c c3 (.c c2 (.c c1 (.c c0 .nil)))))
theorem KG (xs:List Int) (nn:Bool) (k k1 k2 r:Nat) (ls:Int) (q w:RQ) (c0:aB prog ap 56 [.ptr 0 0 0,.int .i64 40] [⟨[.sl (iL xs) xs.length nn,.int .i64 (k:Int)],0,false,0,0,true⟩] (.ret (.int .i64 (r:Int))) [⟨[.sl (iL xs) xs.length nn,.int .i64 (k1:Int)],0,false,0,0,true⟩]) (c1:CO 19 [.int .i64 (IntKind.wrap .i64 (ls+(r:Int)))] (.ret (.agg [.bool q.neg,.str (ak q.n),.str (ak q.d)]))) (c2:aB prog ap 56 [.ptr 0 0 0,.int .i64 4] [⟨[.sl (iL xs) xs.length nn,.int .i64 (k1:Int)],0,false,0,0,true⟩] (.ret (.int .i64 3)) [⟨[.sl (iL xs) xs.length nn,.int .i64 (k2:Int)],0,false,0,0,true⟩]) (c3:CO 19 [.int .i64 10] (.ret (.agg [.bool false,.str (ak 10),.str (ak 1)]))) (c4:CO 46 [.agg [.bool q.neg,.str (ak q.n),.str (ak q.d)],.agg [.bool false,.str (ak 10),.str (ak 1)]] (.ret (.tup [.agg [.bool w.neg,.str (ak w.n),.str (ak w.d)],.bool true]))):aB prog ap 59 [.ptr 0 0 0,.int .i64 ls] [⟨[.sl (iL xs) xs.length nn,.int .i64 (k:Int)],0,false,0,0,true⟩] (.ret (.agg [.bool w.neg,.str (ak w.n),.str (ak w.d)])) [⟨[.sl (iL xs) xs.length nn,.int .i64 (k2:Int)],0,false,0,0,true⟩]:=pK [] 0 0 (.n 11 .nil) (.c c4 (.c c3 (.c c2 (.c c1 (.c c0 .nil)))))
theorem Kb (neg:Bool) (n d:Nat):(mA neg n d).n≤n∧(mA neg n d).d≤d:=⟨Nat.div_le_self _ _,Nat.div_le_self _ _⟩
theorem kQ (xs:List Int) (nn:Bool) (k:Nat) (hl:xs.length<2^62) (hk:k≤xs.length) (ls:Int) (h1: -8≤ls) (h2:ls≤1):∃ (w:RQ) (k':Nat),k'≤xs.length∧w.ok∧w.n<64∧w.d<64∧(ls=1→w.neg=false∧0<w.n)∧aB prog ap 59 [.ptr 0 0 0,.int .i64 ls] [dB xs nn k] (.ret (qA w)) [dB xs nn k']:=by
 obtain ⟨r,k1,hr,hk1,c0⟩:=cG xs nn k 40 hl hk (by omega) (by omega)
 obtain ⟨s,k2,hs,hk2,c2⟩:=cG xs nn k1 4 hl hk1 (by omega) (by omega)
 have hw:IntKind.wrap .i64 (ls+(r:Int))=ls+(r:Int):=bo (by omega) (by omega)
 have c1:=dR (ls+(r:Int)) (by omega) (by omega)
 rw [← hw] at c1
 have hneg:(nG (ls+(r:Int))).neg=true→0<(nG (ls+(r:Int))).n:=by
  intro h;simp only [nG,decide_eq_true_eq] at h ⊢;omega
 have hd1:(nG (ls+(r:Int))).d=1:=rfl
 have hn:(nG (ls+(r:Int))).n<64:=by simp only [nG];omega
 have hp:ls=1→(nG (ls+(r:Int))).neg=false∧0<(nG (ls+(r:Int))).n:=by
  intro h;simp only [nG,decide_eq_false_iff_not];omega
 rw [hw] at c1
 generalize nG (ls+(r:Int))=q at*
 have go:∀ d,0<d→d<64→(mA q.neg q.n d).ok∧(mA q.neg q.n d).n<64∧(mA q.neg q.n d).d<64∧(ls=1→(mA q.neg q.n d).neg=false∧0<(mA q.neg q.n d).n):=by
  intro d hd hd2
  have h3:=Kb q.neg q.n d
  refine ⟨G_ hd,by omega,by omega,fun h=> ?_⟩
  obtain ⟨h4,h5⟩:=hp h
  refine ⟨by simp [mA,h4], ?_⟩
  exact Nat.div_pos (Nat.gcd_le_left _ h5) (Nat.gcd_pos_of_pos_left _ h5)
 have hq:qA q=qA ⟨q.neg,q.n,1⟩:=by unfold qA;rw [hd1]
 have this:s=0∨s=1∨s=2∨s=3:=by omega
 rcases this with rfl|rfl|rfl|rfl
 ·obtain ⟨g1,g2,g3,g4⟩:=go 1 (by omega) (by omega)
  exact ⟨_,k2,hk2,g1,g2,g3,g4,KD xs nn k k1 k2 r ls q _ c0 (by rw [hw];exact c1) c2 (dR 1 (by decide) (by decide)) (by have h:=tJ q.neg q.n 1 hneg (by omega) (by omega) (by omega);rw [← hq] at h;exact h)⟩
 ·obtain ⟨g1,g2,g3,g4⟩:=go 1 (by omega) (by omega)
  exact ⟨_,k2,hk2,g1,g2,g3,g4,KE xs nn k k1 k2 r ls q _ c0 (by rw [hw];exact c1) c2 (dR 1 (by decide) (by decide)) (by have h:=tJ q.neg q.n 1 hneg (by omega) (by omega) (by omega);rw [← hq] at h;exact h)⟩
 ·obtain ⟨g1,g2,g3,g4⟩:=go 2 (by omega) (by omega)
  exact ⟨_,k2,hk2,g1,g2,g3,g4,KF xs nn k k1 k2 r ls q _ c0 (by rw [hw];exact c1) c2 (dR 2 (by decide) (by decide)) (by have h:=tJ q.neg q.n 2 hneg (by omega) (by omega) (by omega);rw [← hq] at h;exact h)⟩
 ·obtain ⟨g1,g2,g3,g4⟩:=go 10 (by omega) (by omega)
  exact ⟨_,k2,hk2,g1,g2,g3,g4,KG xs nn k k1 k2 r ls q _ c0 (by rw [hw];exact c1) c2 (dR 10 (by decide) (by decide)) (by have h:=tJ q.neg q.n 10 hneg (by omega) (by omega) (by omega);rw [← hq] at h;exact h)⟩
theorem ay (op:Int):CO 91 [.int .i64 op] (.ret (.bool (br op))):=by
 rcases tf (decide (((5:Nat):Int)≤op)) with b0|b0
 ·rcases tf (decide (op≤((8:Nat):Int))) with b1|b1
  ·have e:br op=true:=by
    simp only [decide_eq_true_eq,decide_eq_false_iff_not,beq_iff_eq,beq_eq_false_iff_ne] at*
    unfold br;first|(rw [decide_eq_true_eq];omega)|(rw [Bool.eq_iff_iff];simp only [decide_eq_true_eq,beq_iff_eq];omega)
   rw [e]
   exact pK [] 2 3 (.c (aQ b1) (.c (aQ b0) .nil)) (.nil)
  ·have e:br op=(op==((24:Nat):Int)):=by
    simp only [decide_eq_true_eq,decide_eq_false_iff_not,beq_iff_eq,beq_eq_false_iff_ne] at*
    unfold br;first|(rw [decide_eq_true_eq];omega)|(rw [Bool.eq_iff_iff];simp only [decide_eq_true_eq,beq_iff_eq];omega)
   rw [e]
   exact pK [] 2 1 (.c (aU b1) (.c (aQ b0) .nil)) (.nil)
 ·have e:br op=(op==((24:Nat):Int)):=by
   simp only [decide_eq_true_eq,decide_eq_false_iff_not,beq_iff_eq,beq_eq_false_iff_ne] at*
   unfold br;first|(rw [decide_eq_true_eq];omega)|(rw [Bool.eq_iff_iff];simp only [decide_eq_true_eq,beq_iff_eq];omega)
  rw [e]
  exact pK [] 2 0 (.k 1 (aU b0) .nil) (.nil)
def Cc (l:List Sg) (nn:Bool) (op:Int) (nm:List UInt8) (p:Nat × Unit):St:=⟨[(0,.sl (aW l) l.length nn),(1,.int .i64 op),(2,.str nm),(6,.ptr 0 0 0),(8,.int .i64 (p.1:Int))],[(0,⟨[.bool false,.int .i64 0,.int .i64 0],0,false,0,0,true⟩)],.dead,[]⟩
def Al:Option Ty→St
 |none=> ⟨[(6,.ptr 0 0 0)],[(0,⟨[.bool false,.int .i64 0,.int .i64 0],0,false,0,0,true⟩)],.dead,[]⟩
 |some t=> ⟨[(6,.ptr 0 0 0),(7,.bool true)],[(0,⟨[.bool t.tr,.int .i64 t.m,.int .i64 t.d],0,false,0,0,true⟩)],.dead,[]⟩
theorem GI {nt:Nat} (hn:52≤nt) (l:List Sg) (nn:Bool) (op:Int) (nm:List UInt8) (hll:l.length<2^40):aA prog ap [] nt (ac 0 (ae f90)) LJ (Cc l nn op nm) (Al) (0,()) ((l.find? fun s=>gj s op nm).map (·.ty)):=by
 rw [← Bm]
 refine aA.goL (uN fun s=>gj s op nm) (fun _=>none) l (fun _ _=>True) ?_ ?_ l [] () rfl trivial
 ·intro p s r _ hl _
  have key:match gj s op nm with
   |true=>ah prog ap [] nt (ac 0 (ae f90)) (Cc l nn op nm (p.length,())) .ret (Al (some s.ty))
   |false=>ah prog ap [] nt (ac 0 (ae f90)) (Cc l nn op nm (p.length,())) .normal (Cc l nn op nm (p.length+1,())):=by
   have hdr:List.drop (Int.toNat (p.length:Int)*5) (aW l)=LR s++aW r:=by rw [hl];exact Br rfl
   have hlen:p.length+(r.length+1)=l.length:=by rw [hl];simp
   generalize p.length=k at*
   have hw:k<2^62:=by omega
   have h0:decide (((0:Nat):Int)≤(k:Int))=true:=decide_eq_true (by omega)
   have h1:decide ((k:Int)<(l.length:Int))=true:=decide_eq_true (by omega)
   have h2:=h1
   rcases tf (s.op==op) with b0|b0
   ·rcases tf (s.name==nm) with b1|b1
    ·rcases tf (br op) with b2|b2
     ·rcases tf (aI s.ty) with b3|b3
      ·rcases tf (op==((24:Nat):Int)) with b4|b4
       ·rcases tf s.ty.tr with b5|b5
        ·rw [show gj s op nm=false by simp only [gj,b0,b1,b2,b3,b4,b5]<;>rfl]
         exact pN 90 [] 7 31 (.c (aG b5) (.k 1 (aG b4) (.c (aQ b3) (.k 3 (aQ b2) (.c (aQ b1) (.k 1 (aQ b0) (.k 7 h0 (.c h1 (.c (aQ h2) .nil))))))))) (.v 15 (.eq (zQ hw)) (.c (eB s.ty) (.c (ay op) (.v 18 (.ppt hdr) .nil)))) hn
        ·rw [show gj s op nm=true by simp only [gj,b0,b1,b2,b3,b4,b5]<;>rfl]
         exact pN 90 [] 7 95 (.k 4 (bm b5) (.k 1 (aG b4) (.c (aQ b3) (.k 3 (aQ b2) (.c (aQ b1) (.k 1 (aQ b0) (.k 7 h0 (.c h1 (.c (aQ h2) .nil))))))))) (.c (eB s.ty) (.c (ay op) (.v 18 (.ppt hdr) .nil))) hn
       ·rw [show gj s op nm=true by simp only [gj,b0,b1,b2,b3,b4]<;>rfl]
        exact pN 90 [] 7 127 (.k 5 (bm b4) (.c (aQ b3) (.k 3 (aQ b2) (.c (aQ b1) (.k 1 (aQ b0) (.k 7 h0 (.c h1 (.c (aQ h2) .nil)))))))) (.c (eB s.ty) (.c (ay op) (.v 18 (.ppt hdr) .nil))) hn
      ·rw [show gj s op nm=false by simp only [gj,b0,b1,b2,b3]<;>rfl]
       exact pN 90 [] 6 15 (.k 1 (aU b3) (.k 3 (aQ b2) (.c (aQ b1) (.k 1 (aQ b0) (.k 7 h0 (.c h1 (.c (aQ h2) .nil))))))) (.v 15 (.eq (zQ hw)) (.c (eB s.ty) (.c (ay op) (.v 18 (.ppt hdr) .nil)))) hn
     ·rw [show gj s op nm=false by simp only [gj,b0,b1,b2]<;>rfl]
      exact pN 90 [] 6 7 (.k 2 (aU b2) (.c (aQ b1) (.k 1 (aQ b0) (.k 7 h0 (.c h1 (.c (aQ h2) .nil)))))) (.v 15 (.eq (zQ hw)) (.c (ay op) (.v 18 (.ppt hdr) .nil))) hn
    ·rw [show gj s op nm=false by simp only [gj,b0,b1]<;>rfl]
     exact pN 90 [] 6 3 (.k 3 (aU b1) (.k 1 (aQ b0) (.k 7 h0 (.c h1 (.c (aQ h2) .nil))))) (.v 15 (.eq (zQ hw)) (.v 18 (.ppt hdr) .nil)) hn
   ·rw [show gj s op nm=false by simp only [gj,b0]<;>rfl]
    exact pN 90 [] 6 1 (.k 4 (aU b0) (.k 7 h0 (.c h1 (.c (aQ h2) .nil)))) (.v 15 (.eq (zQ hw)) (.v 18 (.ppt hdr) .nil)) hn
  unfold uN
  cases hh:gj s op nm with
  |true=>rw [hh] at key;simp only [hh,if_true];exact key
  |false=>rw [hh] at key;simp only [hh,Bool.false_eq_true,if_false];exact ⟨key,trivial⟩
 ·intro _ _
  have b0:decide ((l.length:Int)<(l.length:Int))=false:=decide_eq_false (by omega)
  exact pN 90 [] 1 0 (.c (aU b0) .nil) (.nil) hn
theorem NI (l:List Sg) (nn:Bool) (op:Int) (nm:List UInt8) (l0:aC prog ap [] 52 (.block 0 (.loop (ac 0 (ae f90)))) ⟨[(0,.sl (aW l) l.length nn),(1,.int .i64 op),(2,.str nm),(6,.ptr 0 0 0),(7,.bool false),(8,.int .i64 0),(9,.dead),(13,.dead),(48,.dead)],[(0,⟨[.bool false,.int .i64 0,.int .i64 0],0,false,0,0,true⟩)],.dead,[]⟩ (.normal) ⟨[(6,.ptr 0 0 0)],[(0,⟨[.bool false,.int .i64 0,.int .i64 0],0,false,0,0,true⟩)],.dead,[]⟩):CO 90 [.sl (aW l) l.length nn,.int .i64 op,.str nm] (.ret (.tup [.agg [.bool false,.int .i64 0,.int .i64 0],.bool false])):=pK [0] 0 0 (.n 4 .nil) (.l l0 .nil)
theorem NJ (l:List Sg) (nn:Bool) (op:Int) (nm:List UInt8) (t:Ty) (l0:aC prog ap [] 52 (.block 0 (.loop (ac 0 (ae f90)))) ⟨[(0,.sl (aW l) l.length nn),(1,.int .i64 op),(2,.str nm),(6,.ptr 0 0 0),(7,.bool false),(8,.int .i64 0),(9,.dead),(13,.dead),(48,.dead)],[(0,⟨[.bool false,.int .i64 0,.int .i64 0],0,false,0,0,true⟩)],.dead,[]⟩ (.ret) ⟨[(6,.ptr 0 0 0),(7,.bool true)],[(0,⟨[.bool t.tr,.int .i64 t.m,.int .i64 t.d],0,false,0,0,true⟩)],.dead,[]⟩):CO 90 [.sl (aW l) l.length nn,.int .i64 op,.str nm] (.ret (.tup [.agg [.bool t.tr,.int .i64 t.m,.int .i64 t.d],.bool true])):=pK [0] 0 0 (.n 3 .nil) (.l l0 .nil)
theorem cF (l:List Sg) (nn:Bool) (op:Int) (nm:List UInt8) (hll:l.length<2^40):CO 90 [.sl (aW l) l.length nn,.int .i64 op,.str nm] (.ret (.tup [.agg (bC ((dL l op nm).getD zT)),.bool (dL l op nm).isSome])):=by
 have hloop:=fun nt (hn:52≤nt)=>GI hn l nn op nm hll
 unfold dL
 cases hf:(l.find? fun s=>gj s op nm).map (·.ty) with
 |none=>
  rw [hf] at hloop
  have l0:=aA.blk (id:=0) (e':= .normal) (s:=Cc l nn op nm (0,())) (s':=Al none) hloop (by simp [LJ]) rfl (aF.refl _) (aF.refl _)
  exact NI l nn op nm (fun nt hnt=>(l0 nt hnt).weak (aF.of ⟨rfl,rfl,rfl,rfl,rfl,trivial⟩) (aF.refl _))
 |some t=>
  rw [hf] at hloop
  have l0:=aA.blk (id:=0) (e':= .ret) (s:=Cc l nn op nm (0,())) (s':=Al (some t)) hloop (by simp [LJ]) rfl (aF.refl _) (aF.refl _)
  exact NJ l nn op nm t (fun nt hnt=>(l0 nt hnt).weak (aF.of ⟨rfl,rfl,rfl,rfl,rfl,trivial⟩) (aF.refl _))
def CL (l:List Sg) (nn:Bool) (x:Nd) (p:Nat × Unit):St:=⟨[(7,.sl (aW l) l.length nn),(8,.int .i64 (l.length:Int)),(9,.int .i64 (p.1:Int)),(3,.ptr 0 0 0),(4,.ptr 1 0 0)],[(0,⟨[.int .i64 x.op,.bool x.neg,.str x.num,.str x.den,.str x.name],0,false,0,0,true⟩),(1,⟨[.bool false,.int .i64 0,.int .i64 0],0,false,0,0,true⟩)],.dead,[]⟩
def Bt:Option Ty→St
 |none=> ⟨[(4,.ptr 0 0 0)],[(0,⟨[.bool false,.int .i64 0,.int .i64 0],0,false,0,0,true⟩)],.dead,[]⟩
 |some t=> ⟨[(4,.ptr 0 0 0)],[(0,⟨[.bool t.tr,.int .i64 t.m,.int .i64 t.d],0,false,0,0,true⟩)],.dead,[]⟩
theorem Bu {nt:Nat} (hn:45≤nt) (l:List Sg) (nn:Bool) (x:Nd) (hll:l.length<2^40):aA prog ap [] nt (ac 0 (ae f53)) LJ (CL l nn x) (Bt) (0,()) ((l.find? fun s=>jN s x.op x.name).map (·.ty)):=by
 rw [← Bm]
 refine aA.goL (uN fun s=>jN s x.op x.name) (fun _=>none) l (fun _ _=>True) ?_ ?_ l [] () rfl trivial
 ·intro p s r _ hl _
  have key:match jN s x.op x.name with
   |true=>ah prog ap [] nt (ac 0 (ae f53)) (CL l nn x (p.length,())) .ret (Bt (some s.ty))
   |false=>ah prog ap [] nt (ac 0 (ae f53)) (CL l nn x (p.length,())) .normal (CL l nn x (p.length+1,())):=by
   have hdr:List.drop (Int.toNat (p.length:Int)*5) (aW l)=LR s++aW r:=by rw [hl];exact Br rfl
   have hlen:p.length+(r.length+1)=l.length:=by rw [hl];simp
   generalize p.length=k at*
   have hw:k<2^62:=by omega
   have h0:decide (((0:Nat):Int)≤(k:Int))=true:=decide_eq_true (by omega)
   have h1:decide ((k:Int)<(l.length:Int))=true:=decide_eq_true (by omega)
   have h2:=h1
   rcases tf (s.op==x.op) with b0|b0
   ·rcases tf (s.name==x.name) with b1|b1
    ·rcases tf (aI s.ty) with b2|b2
     ·rcases tf (s.op==((24:Nat):Int)) with b3|b3
      ·rcases tf s.ty.tr with b4|b4
       ·rw [show jN s x.op x.name=false by simp only [jN,b0,b1,b2,b3,b4]<;>rfl]
        exact pN 53 [] 6 15 (.c (aG b4) (.k 1 (aG b3) (.k 1 (aQ b2) (.k 3 (aQ b1) (.k 2 (aQ b0) (.k 8 h0 (.c h1 (.c (aQ h2) .nil)))))))) (.v 43 (.eq (zQ hw)) (.c (eG s.ty) (.v 11 (.ppt hdr) .nil))) hn
       ·rw [show jN s x.op x.name=true by simp only [jN,b0,b1,b2,b3,b4]<;>rfl]
        exact pN 53 [] 6 47 (.k 4 (bm b4) (.k 1 (aG b3) (.k 1 (aQ b2) (.k 3 (aQ b1) (.k 2 (aQ b0) (.k 8 h0 (.c h1 (.c (aQ h2) .nil)))))))) (.c (eG s.ty) (.v 11 (.ppt hdr) .nil)) hn
      ·rw [show jN s x.op x.name=true by simp only [jN,b0,b1,b2,b3]<;>rfl]
       exact pN 53 [] 6 63 (.k 5 (bm b3) (.k 1 (aQ b2) (.k 3 (aQ b1) (.k 2 (aQ b0) (.k 8 h0 (.c h1 (.c (aQ h2) .nil))))))) (.c (eG s.ty) (.v 11 (.ppt hdr) .nil)) hn
     ·rw [show jN s x.op x.name=false by simp only [jN,b0,b1,b2]<;>rfl]
      exact pN 53 [] 5 7 (.k 1 (aU b2) (.k 3 (aQ b1) (.k 2 (aQ b0) (.k 8 h0 (.c h1 (.c (aQ h2) .nil)))))) (.v 43 (.eq (zQ hw)) (.c (eG s.ty) (.v 11 (.ppt hdr) .nil))) hn
    ·rw [show jN s x.op x.name=false by simp only [jN,b0,b1]<;>rfl]
     exact pN 53 [] 5 3 (.k 2 (aU b1) (.k 2 (aQ b0) (.k 8 h0 (.c h1 (.c (aQ h2) .nil))))) (.v 43 (.eq (zQ hw)) (.v 11 (.ppt hdr) .nil)) hn
   ·rw [show jN s x.op x.name=false by simp only [jN,b0]<;>rfl]
    exact pN 53 [] 5 1 (.k 3 (aU b0) (.k 8 h0 (.c h1 (.c (aQ h2) .nil)))) (.v 43 (.eq (zQ hw)) (.v 11 (.ppt hdr) .nil)) hn
  unfold uN
  cases hh:jN s x.op x.name with
  |true=>rw [hh] at key;simp only [hh,if_true];exact key
  |false=>rw [hh] at key;simp only [hh,Bool.false_eq_true,if_false];exact ⟨key,trivial⟩
 ·intro _ _
  have b0:decide ((l.length:Int)<(l.length:Int))=false:=decide_eq_false (by omega)
  exact pN 53 [] 1 0 (.c (aU b0) .nil) (.nil) hn
theorem Qh (l:List Sg) (nn:Bool) (x:Nd) (l0:aC prog ap [] 45 (.block 0 (.loop (ac 0 (ae f53)))) ⟨[(0,.sl (aW l) l.length nn),(1,.agg [.int .i64 x.op,.bool x.neg,.str x.num,.str x.den,.str x.name]),(3,.ptr 0 0 0),(4,.ptr 1 0 0),(6,.dead),(7,.sl (aW l) l.length nn),(8,.int .i64 (l.length:Int)),(9,.int .i64 0),(10,.dead),(40,.dead)],[(0,⟨[.int .i64 x.op,.bool x.neg,.str x.num,.str x.den,.str x.name],0,false,0,0,true⟩),(1,⟨[.bool false,.int .i64 0,.int .i64 0],0,false,0,0,true⟩)],.dead,[]⟩ (.normal) ⟨[(4,.ptr 0 0 0)],[(0,⟨[.bool false,.int .i64 0,.int .i64 0],0,false,0,0,true⟩)],.dead,[]⟩):CO 53 [.sl (aW l) l.length nn,.agg [.int .i64 x.op,.bool x.neg,.str x.num,.str x.den,.str x.name]] (.pan (.ifc 63 (.int .i64 12))):=pK [0] 0 0 .nil (.l l0 .nil)
theorem Qi (l:List Sg) (nn:Bool) (x:Nd) (t:Ty) (l0:aC prog ap [] 45 (.block 0 (.loop (ac 0 (ae f53)))) ⟨[(0,.sl (aW l) l.length nn),(1,.agg [.int .i64 x.op,.bool x.neg,.str x.num,.str x.den,.str x.name]),(3,.ptr 0 0 0),(4,.ptr 1 0 0),(6,.dead),(7,.sl (aW l) l.length nn),(8,.int .i64 (l.length:Int)),(9,.int .i64 0),(10,.dead),(40,.dead)],[(0,⟨[.int .i64 x.op,.bool x.neg,.str x.num,.str x.den,.str x.name],0,false,0,0,true⟩),(1,⟨[.bool false,.int .i64 0,.int .i64 0],0,false,0,0,true⟩)],.dead,[]⟩ (.ret) ⟨[(4,.ptr 0 0 0)],[(0,⟨[.bool t.tr,.int .i64 t.m,.int .i64 t.d],0,false,0,0,true⟩)],.dead,[]⟩):CO 53 [.sl (aW l) l.length nn,.agg [.int .i64 x.op,.bool x.neg,.str x.num,.str x.den,.str x.name]] (.ret (.agg [.bool t.tr,.int .i64 t.m,.int .i64 t.d])):=pK [0] 0 0 (.n 3 .nil) (.l l0 .nil)
theorem Fg (l:List Sg) (nn:Bool) (x:Nd) (t:Ty) (hll:l.length<2^40) (hf:uo l x.op x.name=some t):CO 53 [.sl (aW l) l.length nn,.agg (fk x)] (.ret (.agg (bC t))):=by
 have hloop:=fun nt (hn:45≤nt)=>Bu hn l nn x hll
 unfold uo at hf
 rw [hf] at hloop
 have l0:=aA.blk (id:=0) (e':= .ret) (s:=CL l nn x (0,())) (s':=Bt (some t)) hloop (by simp [LJ]) rfl (aF.refl _) (aF.refl _)
 exact Qi l nn x t (fun nt hnt=>(l0 nt hnt).weak (aF.of ⟨rfl,rfl,rfl,rfl,rfl,trivial⟩) (aF.refl _))
theorem Ff (l:List Sg) (nn:Bool) (x:Nd) (hll:l.length<2^40) (hf:uo l x.op x.name=none):CO 53 [.sl (aW l) l.length nn,.agg (fk x)] (.pan (.ifc 63 (.int .i64 12))):=by
 have hloop:=fun nt (hn:45≤nt)=>Bu hn l nn x hll
 unfold uo at hf
 rw [hf] at hloop
 have l0:=aA.blk (id:=0) (e':= .normal) (s:=CL l nn x (0,())) (s':=Bt none) hloop (by simp [LJ]) rfl (aF.refl _) (aF.refl _)
 exact Qh l nn x (fun nt hnt=>(l0 nt hnt).weak (aF.of ⟨rfl,rfl,rfl,rfl,rfl,trivial⟩) (aF.refl _))
theorem JZ (s:Sg) {op:Int} (nm:List UInt8) (h:br op=true):gj s op nm=jN s op nm:=by
 unfold gj jN
 rw [h,Bool.true_and]
 cases he:s.op==op with
 |false=>rfl
 |true=>
  have:s.op=op:=by simpa using he
  rw [this]
theorem Am (l:List Sg) {op:Int} (nm:List UInt8) (h:br op=true):dL l op nm=uo l op nm:=by
 unfold dL uo
 congr 1
 congr 1
 funext s
 exact JZ s nm h
theorem D1 (l:List Sg) {op:Int} (nm:List UInt8) (h:br op=false):dL l op nm=none:=by
 unfold dL
 have:(l.find? fun s=>gj s op nm)=none:=by
  rw [List.find?_eq_none]
  intro s _
  unfold gj
  rw [h]
  cases s.op==op<;>cases s.name==nm<;>simp
 rw [this];rfl
def cE (a b:Ty):Bool:=((a.tr==b.tr) && ((a.m==b.m) && ((a.d==b.d) && true)))
def dM (ts:List Ty):Bool:=ts.all fun t=> !t.tr
def aO:Nat→Ty→List Ty→Bool × Ty
 |1,_,[]=>(true,⟨false,1,0⟩)
 |2,_,[]=>(true,⟨false,0,1⟩)
 |3,_,[]=>(true,⟨false,0,0⟩)
 |4,_,[]=>(true,⟨true,0,0⟩)
 |5,sg,[]=>(true,sg)
 |6,sg,[]=>(true,sg)
 |7,sg,[]=>(true,sg)
 |8,sg,[]=>(true,sg)
 |9,_,[a,b]=>(cE a b && dM [a,b],a)
 |10,_,[a,b]=>(cE a b && dM [a,b],a)
 |11,_,[a,b]=>(dM [a,b] && aI ⟨false,IntKind.wrap .i64 (a.m+b.m),IntKind.wrap .i64 (a.d+b.d)⟩,⟨false,IntKind.wrap .i64 (a.m+b.m),IntKind.wrap .i64 (a.d+b.d)⟩)
 |12,_,[a,b]=>(dM [a,b] && aI ⟨false,IntKind.wrap .i64 (a.m - b.m),IntKind.wrap .i64 (a.d - b.d)⟩,⟨false,IntKind.wrap .i64 (a.m - b.m),IntKind.wrap .i64 (a.d - b.d)⟩)
 |13,_,[a,b]=>(cE a b && dM [a,b],a)
 |14,_,[a,b]=>(cE a b && dM [a,b],a)
 |15,_,[a,b,c]=>(a.tr && cE b c,b)
 |16,_,[a,b]=>(cE a b && dM [a,b],⟨true,0,0⟩)
 |17,_,[a,b]=>(cE a b,⟨true,0,0⟩)
 |18,_,[a,b]=>(a.tr && b.tr,⟨true,0,0⟩)
 |19,_,[a,b]=>(a.tr && b.tr,⟨true,0,0⟩)
 |20,_,[a]=>(a.tr,⟨true,0,0⟩)
 |21,_,[a]=>(dM [a],a)
 |22,_,[a]=>(dM [a],a)
 |23,_,[a]=>(dM [a],a)
 |24,sg,[a]=>(cE a sg,sg)
 |_,_,_=>(false,⟨false,0,0⟩)
def bD (named fo:Bool) (sg:Ty) (op:Nat) (ts:List Ty):Ty × Int:=cond (named && !fo) (⟨false,0,0⟩,12) (cond (aO op sg ts).1 ((aO op sg ts).2,0) (⟨false,0,0⟩,13))
theorem iR {t:Ty} (h:aI t=true): -3≤t.m∧t.m≤3∧ -3≤t.d∧t.d≤3:=by
 unfold aI at h
 cases htr:t.tr with
 |true=>rw [htr] at h;simp at h;omega
 |false=>rw [htr] at h;simpa [eC] using h
def bf (l:List Ty):List AV:=l.flatMap bC
theorem nF (p q:Int):CO 26 [.int .i64 p,.int .i64 q] (.ret (.agg [.bool false,.int .i64 p,.int .i64 q])):=pK [] 0 0 (.n 4 .nil) (.nil)
theorem iT:CO 25 [] (.ret (.agg [.bool true,.int .i64 0,.int .i64 0])):=pK [] 0 0 (.n 4 .nil) (.nil)
theorem jv (a:Ty) (nn:Bool):CO 92 [.sl (bf [a]) 1 nn] (.ret (.bool (dM [a]))):=by
 rcases tf a.tr with b0|b0
 ·rw [show dM [a]=false by simp only [dM,List.all_cons,List.all_nil,b0]<;>rfl]
  exact pK [] 2 3 (.c (aQ b0) (.n 4 .nil)) (.nil)
 ·rw [show dM [a]=true by simp only [dM,List.all_cons,List.all_nil,b0]<;>rfl]
  exact pK [] 3 1 (.k 1 (aU b0) (.n 4 .nil)) (.nil)
theorem cO (a b:Ty) (nn:Bool):CO 92 [.sl (bf [a,b]) 2 nn] (.ret (.bool (dM [a,b]))):=by
 rcases tf a.tr with b0|b0
 ·rw [show dM [a,b]=false by simp only [dM,List.all_cons,List.all_nil,b0]<;>rfl]
  exact pK [] 2 3 (.c (aQ b0) (.n 4 .nil)) (.nil)
 ·rcases tf b.tr with b1|b1
  ·rw [show dM [a,b]=false by simp only [dM,List.all_cons,List.all_nil,b0,b1]<;>rfl]
   exact pK [] 4 13 (.c (aQ b1) (.k 4 (aU b0) (.n 4 .nil))) (.nil)
  ·rw [show dM [a,b]=true by simp only [dM,List.all_cons,List.all_nil,b0,b1]<;>rfl]
   exact pK [] 5 5 (.k 1 (aU b1) (.k 4 (aU b0) (.n 4 .nil))) (.nil)
theorem R3 (l:List Sg) (nl neg nn fo:Bool) (num den name:List UInt8) (sg:Ty) (hf:CO 90 [.sl (aW l) l.length nl,.int .i64 1,.str name] (.ret (.tup [.agg (bC sg),.bool fo]))):CO 55 [.sl (aW l) l.length nl,.agg [.int .i64 1,.bool neg,.str num,.str den,.str name],.sl (bf []) 0 nn] (.ret (.tup [.agg (bC (bD false fo sg 1 []).1),.int .i64 (bD false fo sg 1 []).2])):=by
 rw [show bD false fo sg 1 []=(⟨false,1,0⟩,0) by simp only [bD,aO,cE,cond_true]<;>rfl]
 exact pK [] 5 8 (.n 19 .nil) (.c (nF 1 0) (.c (ay 1) (.c hf .nil)))
theorem R4 (l:List Sg) (nl neg nn fo:Bool) (num den name:List UInt8) (sg:Ty) (hf:CO 90 [.sl (aW l) l.length nl,.int .i64 2,.str name] (.ret (.tup [.agg (bC sg),.bool fo]))):CO 55 [.sl (aW l) l.length nl,.agg [.int .i64 2,.bool neg,.str num,.str den,.str name],.sl (bf []) 0 nn] (.ret (.tup [.agg (bC (bD false fo sg 2 []).1),.int .i64 (bD false fo sg 2 []).2])):=by
 rw [show bD false fo sg 2 []=(⟨false,0,1⟩,0) by simp only [bD,aO,cE,cond_true]<;>rfl]
 exact pK [] 6 16 (.n 20 .nil) (.c (nF 0 1) (.c (ay 2) (.c hf .nil)))
theorem R5 (l:List Sg) (nl neg nn fo:Bool) (num den name:List UInt8) (sg:Ty) (hf:CO 90 [.sl (aW l) l.length nl,.int .i64 3,.str name] (.ret (.tup [.agg (bC sg),.bool fo]))):CO 55 [.sl (aW l) l.length nl,.agg [.int .i64 3,.bool neg,.str num,.str den,.str name],.sl (bf []) 0 nn] (.ret (.tup [.agg (bC (bD false fo sg 3 []).1),.int .i64 (bD false fo sg 3 []).2])):=by
 rw [show bD false fo sg 3 []=(⟨false,0,0⟩,0) by simp only [bD,aO,cE,cond_true]<;>rfl]
 exact pK [] 7 32 (.n 21 .nil) (.c (nF 0 0) (.c (ay 3) (.c hf .nil)))
theorem R6 (l:List Sg) (nl neg nn fo:Bool) (num den name:List UInt8) (sg:Ty) (hf:CO 90 [.sl (aW l) l.length nl,.int .i64 4,.str name] (.ret (.tup [.agg (bC sg),.bool fo]))):CO 55 [.sl (aW l) l.length nl,.agg [.int .i64 4,.bool neg,.str num,.str den,.str name],.sl (bf []) 0 nn] (.ret (.tup [.agg (bC (bD false fo sg 4 []).1),.int .i64 (bD false fo sg 4 []).2])):=by
 rw [show bD false fo sg 4 []=(⟨true,0,0⟩,0) by simp only [bD,aO,cE,cond_true]<;>rfl]
 exact pK [] 8 64 (.n 22 .nil) (.c iT (.c (ay 4) (.c hf .nil)))
theorem R7 (l:List Sg) (nl neg nn fo:Bool) (num den name:List UInt8) (sg:Ty) (hf:CO 90 [.sl (aW l) l.length nl,.int .i64 5,.str name] (.ret (.tup [.agg (bC sg),.bool fo]))):CO 55 [.sl (aW l) l.length nl,.agg [.int .i64 5,.bool neg,.str num,.str den,.str name],.sl (bf []) 0 nn] (.ret (.tup [.agg (bC (bD true fo sg 5 []).1),.int .i64 (bD true fo sg 5 []).2])):=by
 rcases tf fo with b0|b0
 ·rw [show bD true fo sg 5 []=(⟨sg.tr,sg.m,sg.d⟩,0) by simp only [bD,aO,cE,b0]<;>rfl]
  exact pK [] 10 385 (.k 21 (aG b0) (.n 5 .nil)) (.c (ay 5) (.c hf .nil))
 ·rw [show bD true fo sg 5 []=(⟨false,0,0⟩,12) by simp only [bD,aO,cE,b0]<;>rfl]
  exact pK [] 2 3 (.k 4 (bm b0) (.n 5 .nil)) (.c (ay 5) (.c hf .nil))
theorem R8 (l:List Sg) (nl neg nn fo:Bool) (num den name:List UInt8) (sg:Ty) (hf:CO 90 [.sl (aW l) l.length nl,.int .i64 6,.str name] (.ret (.tup [.agg (bC sg),.bool fo]))):CO 55 [.sl (aW l) l.length nl,.agg [.int .i64 6,.bool neg,.str num,.str den,.str name],.sl (bf []) 0 nn] (.ret (.tup [.agg (bC (bD true fo sg 6 []).1),.int .i64 (bD true fo sg 6 []).2])):=by
 rcases tf fo with b0|b0
 ·rw [show bD true fo sg 6 []=(⟨sg.tr,sg.m,sg.d⟩,0) by simp only [bD,aO,cE,b0]<;>rfl]
  exact pK [] 11 769 (.k 22 (aG b0) (.n 5 .nil)) (.c (ay 6) (.c hf .nil))
 ·rw [show bD true fo sg 6 []=(⟨false,0,0⟩,12) by simp only [bD,aO,cE,b0]<;>rfl]
  exact pK [] 2 3 (.k 4 (bm b0) (.n 5 .nil)) (.c (ay 6) (.c hf .nil))
theorem R9 (l:List Sg) (nl neg nn fo:Bool) (num den name:List UInt8) (sg:Ty) (hf:CO 90 [.sl (aW l) l.length nl,.int .i64 7,.str name] (.ret (.tup [.agg (bC sg),.bool fo]))):CO 55 [.sl (aW l) l.length nl,.agg [.int .i64 7,.bool neg,.str num,.str den,.str name],.sl (bf []) 0 nn] (.ret (.tup [.agg (bC (bD true fo sg 7 []).1),.int .i64 (bD true fo sg 7 []).2])):=by
 rcases tf fo with b0|b0
 ·rw [show bD true fo sg 7 []=(⟨sg.tr,sg.m,sg.d⟩,0) by simp only [bD,aO,cE,b0]<;>rfl]
  exact pK [] 12 1537 (.k 23 (aG b0) (.n 5 .nil)) (.c (ay 7) (.c hf .nil))
 ·rw [show bD true fo sg 7 []=(⟨false,0,0⟩,12) by simp only [bD,aO,cE,b0]<;>rfl]
  exact pK [] 2 3 (.k 4 (bm b0) (.n 5 .nil)) (.c (ay 7) (.c hf .nil))
theorem R_ (l:List Sg) (nl neg nn fo:Bool) (num den name:List UInt8) (sg:Ty) (hf:CO 90 [.sl (aW l) l.length nl,.int .i64 8,.str name] (.ret (.tup [.agg (bC sg),.bool fo]))):CO 55 [.sl (aW l) l.length nl,.agg [.int .i64 8,.bool neg,.str num,.str den,.str name],.sl (bf []) 0 nn] (.ret (.tup [.agg (bC (bD true fo sg 8 []).1),.int .i64 (bD true fo sg 8 []).2])):=by
 rcases tf fo with b0|b0
 ·rw [show bD true fo sg 8 []=(⟨sg.tr,sg.m,sg.d⟩,0) by simp only [bD,aO,cE,b0]<;>rfl]
  exact pK [] 12 1025 (.k 23 (aG b0) (.n 5 .nil)) (.c (ay 8) (.c hf .nil))
 ·rw [show bD true fo sg 8 []=(⟨false,0,0⟩,12) by simp only [bD,aO,cE,b0]<;>rfl]
  exact pK [] 2 3 (.k 4 (bm b0) (.n 5 .nil)) (.c (ay 8) (.c hf .nil))
theorem Sa (l:List Sg) (nl neg nn fo:Bool) (num den name:List UInt8) (sg a b:Ty) (hf:CO 90 [.sl (aW l) l.length nl,.int .i64 9,.str name] (.ret (.tup [.agg (bC sg),.bool fo]))):CO 55 [.sl (aW l) l.length nl,.agg [.int .i64 9,.bool neg,.str num,.str den,.str name],.sl (bf [a,b]) 2 nn] (.ret (.tup [.agg (bC (bD false fo sg 9 [a,b]).1),.int .i64 (bD false fo sg 9 [a,b]).2])):=by
 rcases tf ((a.tr==b.tr) && ((a.m==b.m) && ((a.d==b.d) && true))) with b0|b0
 ·rcases tf (dM [a,b]) with b1|b1
  ·rw [show bD false fo sg 9 [a,b]=(⟨a.tr,a.m,a.d⟩,0) by simp only [bD,aO,cE,b0,b1]<;>rfl]
   exact pK [] 15 14340 (.k 7 (aG b1) (.c (aQ b0) (.n 35 .nil))) (.c (cO a b nn) (.c (ay 9) (.c hf .nil)))
  ·rw [show bD false fo sg 9 [a,b]=(⟨false,0,0⟩,13) by simp only [bD,aO,cE,b0,b1]<;>rfl]
   exact pK [] 15 30724 (.k 4 (bm b1) (.c (aQ b0) (.n 35 .nil))) (.c (cO a b nn) (.c (ay 9) (.c hf .nil)))
 ·rw [show bD false fo sg 9 [a,b]=(⟨false,0,0⟩,13) by simp only [bD,aO,cE,b0]<;>rfl]
  exact pK [] 15 22532 (.k 5 (aU b0) (.n 35 .nil)) (.c (ay 9) (.c hf .nil))
theorem Oq (l:List Sg) (nl neg nn fo:Bool) (num den name:List UInt8) (sg a b:Ty) (hf:CO 90 [.sl (aW l) l.length nl,.int .i64 10,.str name] (.ret (.tup [.agg (bC sg),.bool fo]))):CO 55 [.sl (aW l) l.length nl,.agg [.int .i64 10,.bool neg,.str num,.str den,.str name],.sl (bf [a,b]) 2 nn] (.ret (.tup [.agg (bC (bD false fo sg 10 [a,b]).1),.int .i64 (bD false fo sg 10 [a,b]).2])):=by
 rcases tf ((a.tr==b.tr) && ((a.m==b.m) && ((a.d==b.d) && true))) with b0|b0
 ·rcases tf (dM [a,b]) with b1|b1
  ·rw [show bD false fo sg 10 [a,b]=(⟨a.tr,a.m,a.d⟩,0) by simp only [bD,aO,cE,b0,b1]<;>rfl]
   exact pK [] 16 28676 (.k 7 (aG b1) (.c (aQ b0) (.n 36 .nil))) (.c (cO a b nn) (.c (ay 10) (.c hf .nil)))
  ·rw [show bD false fo sg 10 [a,b]=(⟨false,0,0⟩,13) by simp only [bD,aO,cE,b0,b1]<;>rfl]
   exact pK [] 16 61444 (.k 4 (bm b1) (.c (aQ b0) (.n 36 .nil))) (.c (cO a b nn) (.c (ay 10) (.c hf .nil)))
 ·rw [show bD false fo sg 10 [a,b]=(⟨false,0,0⟩,13) by simp only [bD,aO,cE,b0]<;>rfl]
  exact pK [] 16 45060 (.k 5 (aU b0) (.n 36 .nil)) (.c (ay 10) (.c hf .nil))
theorem Ot (l:List Sg) (nl neg nn fo:Bool) (num den name:List UInt8) (sg a b:Ty) (hf:CO 90 [.sl (aW l) l.length nl,.int .i64 11,.str name] (.ret (.tup [.agg (bC sg),.bool fo]))):CO 55 [.sl (aW l) l.length nl,.agg [.int .i64 11,.bool neg,.str num,.str den,.str name],.sl (bf [a,b]) 2 nn] (.ret (.tup [.agg (bC (bD false fo sg 11 [a,b]).1),.int .i64 (bD false fo sg 11 [a,b]).2])):=by
 rcases tf (dM [a,b]) with b0|b0
 ·rcases tf (aI ⟨false,(IntKind.wrap .i64 (a.m+b.m)),(IntKind.wrap .i64 (a.d+b.d))⟩) with b1|b1
  ·rw [show bD false fo sg 11 [a,b]=(⟨false,(IntKind.wrap .i64 (a.m+b.m)),(IntKind.wrap .i64 (a.d+b.d))⟩,0) by simp only [bD,aO,cE,b0,b1]<;>rfl]
   exact pK [] 18 98308 (.k 7 (aG b1) (.k 3 (aQ b0) (.n 45 .nil))) (.c (eB ⟨false,IntKind.wrap .i64 (a.m+b.m),IntKind.wrap .i64 (a.d+b.d)⟩) (.c (cO a b nn) (.c (nF (IntKind.wrap .i64 (a.m+b.m)) (IntKind.wrap .i64 (a.d+b.d))) (.c (ay 11) (.c hf .nil)))))
  ·rw [show bD false fo sg 11 [a,b]=(⟨false,0,0⟩,13) by simp only [bD,aO,cE,b0,b1]<;>rfl]
   exact pK [] 18 229380 (.k 4 (bm b1) (.k 3 (aQ b0) (.n 45 .nil))) (.c (eB ⟨false,IntKind.wrap .i64 (a.m+b.m),IntKind.wrap .i64 (a.d+b.d)⟩) (.c (cO a b nn) (.c (nF (IntKind.wrap .i64 (a.m+b.m)) (IntKind.wrap .i64 (a.d+b.d))) (.c (ay 11) (.c hf .nil)))))
 ·rw [show bD false fo sg 11 [a,b]=(⟨false,0,0⟩,13) by simp only [bD,aO,cE,b0]<;>rfl]
  exact pK [] 18 163844 (.k 5 (aU b0) (.n 45 .nil)) (.c (cO a b nn) (.c (nF (IntKind.wrap .i64 (a.m+b.m)) (IntKind.wrap .i64 (a.d+b.d))) (.c (ay 11) (.c hf .nil))))
theorem Ou (l:List Sg) (nl neg nn fo:Bool) (num den name:List UInt8) (sg a b:Ty) (hf:CO 90 [.sl (aW l) l.length nl,.int .i64 12,.str name] (.ret (.tup [.agg (bC sg),.bool fo]))):CO 55 [.sl (aW l) l.length nl,.agg [.int .i64 12,.bool neg,.str num,.str den,.str name],.sl (bf [a,b]) 2 nn] (.ret (.tup [.agg (bC (bD false fo sg 12 [a,b]).1),.int .i64 (bD false fo sg 12 [a,b]).2])):=by
 rcases tf (dM [a,b]) with b0|b0
 ·rcases tf (aI ⟨false,(IntKind.wrap .i64 (a.m - b.m)),(IntKind.wrap .i64 (a.d - b.d))⟩) with b1|b1
  ·rw [show bD false fo sg 12 [a,b]=(⟨false,(IntKind.wrap .i64 (a.m - b.m)),(IntKind.wrap .i64 (a.d - b.d))⟩,0) by simp only [bD,aO,cE,b0,b1]<;>rfl]
   exact pK [] 19 196612 (.k 7 (aG b1) (.k 3 (aQ b0) (.n 46 .nil))) (.c (eB ⟨false,IntKind.wrap .i64 (a.m - b.m),IntKind.wrap .i64 (a.d - b.d)⟩) (.c (cO a b nn) (.c (nF (IntKind.wrap .i64 (a.m - b.m)) (IntKind.wrap .i64 (a.d - b.d))) (.c (ay 12) (.c hf .nil)))))
  ·rw [show bD false fo sg 12 [a,b]=(⟨false,0,0⟩,13) by simp only [bD,aO,cE,b0,b1]<;>rfl]
   exact pK [] 19 458756 (.k 4 (bm b1) (.k 3 (aQ b0) (.n 46 .nil))) (.c (eB ⟨false,IntKind.wrap .i64 (a.m - b.m),IntKind.wrap .i64 (a.d - b.d)⟩) (.c (cO a b nn) (.c (nF (IntKind.wrap .i64 (a.m - b.m)) (IntKind.wrap .i64 (a.d - b.d))) (.c (ay 12) (.c hf .nil)))))
 ·rw [show bD false fo sg 12 [a,b]=(⟨false,0,0⟩,13) by simp only [bD,aO,cE,b0]<;>rfl]
  exact pK [] 19 327684 (.k 5 (aU b0) (.n 46 .nil)) (.c (cO a b nn) (.c (nF (IntKind.wrap .i64 (a.m - b.m)) (IntKind.wrap .i64 (a.d - b.d))) (.c (ay 12) (.c hf .nil))))
theorem Ov (l:List Sg) (nl neg nn fo:Bool) (num den name:List UInt8) (sg a b:Ty) (hf:CO 90 [.sl (aW l) l.length nl,.int .i64 13,.str name] (.ret (.tup [.agg (bC sg),.bool fo]))):CO 55 [.sl (aW l) l.length nl,.agg [.int .i64 13,.bool neg,.str num,.str den,.str name],.sl (bf [a,b]) 2 nn] (.ret (.tup [.agg (bC (bD false fo sg 13 [a,b]).1),.int .i64 (bD false fo sg 13 [a,b]).2])):=by
 rcases tf ((a.tr==b.tr) && ((a.m==b.m) && ((a.d==b.d) && true))) with b0|b0
 ·rcases tf (dM [a,b]) with b1|b1
  ·rw [show bD false fo sg 13 [a,b]=(⟨a.tr,a.m,a.d⟩,0) by simp only [bD,aO,cE,b0,b1]<;>rfl]
   exact pK [] 17 57348 (.k 7 (aG b1) (.c (aQ b0) (.n 37 .nil))) (.c (cO a b nn) (.c (ay 13) (.c hf .nil)))
  ·rw [show bD false fo sg 13 [a,b]=(⟨false,0,0⟩,13) by simp only [bD,aO,cE,b0,b1]<;>rfl]
   exact pK [] 17 122884 (.k 4 (bm b1) (.c (aQ b0) (.n 37 .nil))) (.c (cO a b nn) (.c (ay 13) (.c hf .nil)))
 ·rw [show bD false fo sg 13 [a,b]=(⟨false,0,0⟩,13) by simp only [bD,aO,cE,b0]<;>rfl]
  exact pK [] 17 90116 (.k 5 (aU b0) (.n 37 .nil)) (.c (ay 13) (.c hf .nil))
theorem Ow (l:List Sg) (nl neg nn fo:Bool) (num den name:List UInt8) (sg a b:Ty) (hf:CO 90 [.sl (aW l) l.length nl,.int .i64 14,.str name] (.ret (.tup [.agg (bC sg),.bool fo]))):CO 55 [.sl (aW l) l.length nl,.agg [.int .i64 14,.bool neg,.str num,.str den,.str name],.sl (bf [a,b]) 2 nn] (.ret (.tup [.agg (bC (bD false fo sg 14 [a,b]).1),.int .i64 (bD false fo sg 14 [a,b]).2])):=by
 rcases tf ((a.tr==b.tr) && ((a.m==b.m) && ((a.d==b.d) && true))) with b0|b0
 ·rcases tf (dM [a,b]) with b1|b1
  ·rw [show bD false fo sg 14 [a,b]=(⟨a.tr,a.m,a.d⟩,0) by simp only [bD,aO,cE,b0,b1]<;>rfl]
   exact pK [] 17 49156 (.k 7 (aG b1) (.c (aQ b0) (.n 37 .nil))) (.c (cO a b nn) (.c (ay 14) (.c hf .nil)))
  ·rw [show bD false fo sg 14 [a,b]=(⟨false,0,0⟩,13) by simp only [bD,aO,cE,b0,b1]<;>rfl]
   exact pK [] 17 114692 (.k 4 (bm b1) (.c (aQ b0) (.n 37 .nil))) (.c (cO a b nn) (.c (ay 14) (.c hf .nil)))
 ·rw [show bD false fo sg 14 [a,b]=(⟨false,0,0⟩,13) by simp only [bD,aO,cE,b0]<;>rfl]
  exact pK [] 17 81924 (.k 5 (aU b0) (.n 37 .nil)) (.c (ay 14) (.c hf .nil))
theorem Ox (l:List Sg) (nl neg nn fo:Bool) (num den name:List UInt8) (sg a b c:Ty) (hf:CO 90 [.sl (aW l) l.length nl,.int .i64 15,.str name] (.ret (.tup [.agg (bC sg),.bool fo]))):CO 55 [.sl (aW l) l.length nl,.agg [.int .i64 15,.bool neg,.str num,.str den,.str name],.sl (bf [a,b,c]) 3 nn] (.ret (.tup [.agg (bC (bD false fo sg 15 [a,b,c]).1),.int .i64 (bD false fo sg 15 [a,b,c]).2])):=by
 rcases tf a.tr with b0|b0
 ·rcases tf ((b.tr==c.tr) && ((b.m==c.m) && ((b.d==c.d) && true))) with b1|b1
  ·rw [show bD false fo sg 15 [a,b,c]=(⟨b.tr,b.m,b.d⟩,0) by simp only [bD,aO,cE,b0,b1]<;>rfl]
   exact pK [] 20 393216 (.k 7 (aG b1) (.k 10 (aQ b0) (.n 33 .nil))) (.c (ay 15) (.c hf .nil))
  ·rw [show bD false fo sg 15 [a,b,c]=(⟨false,0,0⟩,13) by simp only [bD,aO,cE,b0,b1]<;>rfl]
   exact pK [] 20 917504 (.k 4 (bm b1) (.k 10 (aQ b0) (.n 33 .nil))) (.c (ay 15) (.c hf .nil))
 ·rw [show bD false fo sg 15 [a,b,c]=(⟨false,0,0⟩,13) by simp only [bD,aO,cE,b0]<;>rfl]
  exact pK [] 20 655360 (.k 5 (aU b0) (.n 33 .nil)) (.c (ay 15) (.c hf .nil))
theorem Oy (l:List Sg) (nl neg nn fo:Bool) (num den name:List UInt8) (sg a b:Ty) (hf:CO 90 [.sl (aW l) l.length nl,.int .i64 16,.str name] (.ret (.tup [.agg (bC sg),.bool fo]))):CO 55 [.sl (aW l) l.length nl,.agg [.int .i64 16,.bool neg,.str num,.str den,.str name],.sl (bf [a,b]) 2 nn] (.ret (.tup [.agg (bC (bD false fo sg 16 [a,b]).1),.int .i64 (bD false fo sg 16 [a,b]).2])):=by
 rcases tf ((a.tr==b.tr) && ((a.m==b.m) && ((a.d==b.d) && true))) with b0|b0
 ·rcases tf (dM [a,b]) with b1|b1
  ·rw [show bD false fo sg 16 [a,b]=(⟨true,0,0⟩,0) by simp only [bD,aO,cE,b0,b1]<;>rfl]
   exact pK [] 21 786436 (.k 7 (aG b1) (.c (aQ b0) (.n 36 .nil))) (.c (cO a b nn) (.c iT (.c (ay 16) (.c hf .nil))))
  ·rw [show bD false fo sg 16 [a,b]=(⟨false,0,0⟩,13) by simp only [bD,aO,cE,b0,b1]<;>rfl]
   exact pK [] 21 1835012 (.k 4 (bm b1) (.c (aQ b0) (.n 36 .nil))) (.c (cO a b nn) (.c iT (.c (ay 16) (.c hf .nil))))
 ·rw [show bD false fo sg 16 [a,b]=(⟨false,0,0⟩,13) by simp only [bD,aO,cE,b0]<;>rfl]
  exact pK [] 21 1310724 (.k 5 (aU b0) (.n 36 .nil)) (.c iT (.c (ay 16) (.c hf .nil)))
theorem Oz (l:List Sg) (nl neg nn fo:Bool) (num den name:List UInt8) (sg a b:Ty) (hf:CO 90 [.sl (aW l) l.length nl,.int .i64 17,.str name] (.ret (.tup [.agg (bC sg),.bool fo]))):CO 55 [.sl (aW l) l.length nl,.agg [.int .i64 17,.bool neg,.str num,.str den,.str name],.sl (bf [a,b]) 2 nn] (.ret (.tup [.agg (bC (bD false fo sg 17 [a,b]).1),.int .i64 (bD false fo sg 17 [a,b]).2])):=by
 rcases tf ((a.tr==b.tr) && ((a.m==b.m) && ((a.d==b.d) && true))) with b0|b0
 ·rw [show bD false fo sg 17 [a,b]=(⟨true,0,0⟩,0) by simp only [bD,aO,cE,b0]<;>rfl]
  exact pK [] 21 524292 (.k 7 (aG b0) (.n 37 .nil)) (.c iT (.c (ay 17) (.c hf .nil)))
 ·rw [show bD false fo sg 17 [a,b]=(⟨false,0,0⟩,13) by simp only [bD,aO,cE,b0]<;>rfl]
  exact pK [] 21 1572868 (.k 4 (bm b0) (.n 37 .nil)) (.c iT (.c (ay 17) (.c hf .nil)))
theorem OA (l:List Sg) (nl neg nn fo:Bool) (num den name:List UInt8) (sg a b:Ty) (hf:CO 90 [.sl (aW l) l.length nl,.int .i64 18,.str name] (.ret (.tup [.agg (bC sg),.bool fo]))):CO 55 [.sl (aW l) l.length nl,.agg [.int .i64 18,.bool neg,.str num,.str den,.str name],.sl (bf [a,b]) 2 nn] (.ret (.tup [.agg (bC (bD false fo sg 18 [a,b]).1),.int .i64 (bD false fo sg 18 [a,b]).2])):=by
 rcases tf a.tr with b0|b0
 ·rcases tf b.tr with b1|b1
  ·rw [show bD false fo sg 18 [a,b]=(⟨true,0,0⟩,0) by simp only [bD,aO,cE,b0,b1]<;>rfl]
   exact pK [] 28 66060292 (.k 7 (aG b1) (.k 4 (aQ b0) (.n 45 .nil))) (.c iT (.c (ay 18) (.c hf .nil)))
  ·rw [show bD false fo sg 18 [a,b]=(⟨false,0,0⟩,13) by simp only [bD,aO,cE,b0,b1]<;>rfl]
   exact pK [] 28 200278020 (.k 4 (bm b1) (.k 4 (aQ b0) (.n 45 .nil))) (.c iT (.c (ay 18) (.c hf .nil)))
 ·rw [show bD false fo sg 18 [a,b]=(⟨false,0,0⟩,13) by simp only [bD,aO,cE,b0]<;>rfl]
  exact pK [] 28 166723588 (.k 6 (aU b0) (.n 45 .nil)) (.c iT (.c (ay 18) (.c hf .nil)))
theorem OB (l:List Sg) (nl neg nn fo:Bool) (num den name:List UInt8) (sg a b:Ty) (hf:CO 90 [.sl (aW l) l.length nl,.int .i64 19,.str name] (.ret (.tup [.agg (bC sg),.bool fo]))):CO 55 [.sl (aW l) l.length nl,.agg [.int .i64 19,.bool neg,.str num,.str den,.str name],.sl (bf [a,b]) 2 nn] (.ret (.tup [.agg (bC (bD false fo sg 19 [a,b]).1),.int .i64 (bD false fo sg 19 [a,b]).2])):=by
 rcases tf a.tr with b0|b0
 ·rcases tf b.tr with b1|b1
  ·rw [show bD false fo sg 19 [a,b]=(⟨true,0,0⟩,0) by simp only [bD,aO,cE,b0,b1]<;>rfl]
   exact pK [] 29 132120580 (.k 7 (aG b1) (.k 4 (aQ b0) (.n 46 .nil))) (.c iT (.c (ay 19) (.c hf .nil)))
  ·rw [show bD false fo sg 19 [a,b]=(⟨false,0,0⟩,13) by simp only [bD,aO,cE,b0,b1]<;>rfl]
   exact pK [] 29 400556036 (.k 4 (bm b1) (.k 4 (aQ b0) (.n 46 .nil))) (.c iT (.c (ay 19) (.c hf .nil)))
 ·rw [show bD false fo sg 19 [a,b]=(⟨false,0,0⟩,13) by simp only [bD,aO,cE,b0]<;>rfl]
  exact pK [] 29 333447172 (.k 6 (aU b0) (.n 46 .nil)) (.c iT (.c (ay 19) (.c hf .nil)))
theorem OC (l:List Sg) (nl neg nn fo:Bool) (num den name:List UInt8) (sg a:Ty) (hf:CO 90 [.sl (aW l) l.length nl,.int .i64 20,.str name] (.ret (.tup [.agg (bC sg),.bool fo]))):CO 55 [.sl (aW l) l.length nl,.agg [.int .i64 20,.bool neg,.str num,.str den,.str name],.sl (bf [a]) 1 nn] (.ret (.tup [.agg (bC (bD false fo sg 20 [a]).1),.int .i64 (bD false fo sg 20 [a]).2])):=by
 rcases tf a.tr with b0|b0
 ·rw [show bD false fo sg 20 [a]=(⟨true,0,0⟩,0) by simp only [bD,aO,cE,b0]<;>rfl]
  exact pK [] 27 29360128 (.k 7 (aG b0) (.n 36 .nil)) (.c iT (.c (ay 20) (.c hf .nil)))
 ·rw [show bD false fo sg 20 [a]=(⟨false,0,0⟩,13) by simp only [bD,aO,cE,b0]<;>rfl]
  exact pK [] 27 96468992 (.k 4 (bm b0) (.n 36 .nil)) (.c iT (.c (ay 20) (.c hf .nil)))
theorem OD (l:List Sg) (nl neg nn fo:Bool) (num den name:List UInt8) (sg a:Ty) (hf:CO 90 [.sl (aW l) l.length nl,.int .i64 21,.str name] (.ret (.tup [.agg (bC sg),.bool fo]))):CO 55 [.sl (aW l) l.length nl,.agg [.int .i64 21,.bool neg,.str num,.str den,.str name],.sl (bf [a]) 1 nn] (.ret (.tup [.agg (bC (bD false fo sg 21 [a]).1),.int .i64 (bD false fo sg 21 [a]).2])):=by
 rcases tf (dM [a]) with b0|b0
 ·rw [show bD false fo sg 21 [a]=(⟨a.tr,a.m,a.d⟩,0) by simp only [bD,aO,cE,b0]<;>rfl]
  exact pK [] 26 25165824 (.k 7 (aG b0) (.n 37 .nil)) (.c (jv a nn) (.c (ay 21) (.c hf .nil)))
 ·rw [show bD false fo sg 21 [a]=(⟨false,0,0⟩,13) by simp only [bD,aO,cE,b0]<;>rfl]
  exact pK [] 26 58720256 (.k 4 (bm b0) (.n 37 .nil)) (.c (jv a nn) (.c (ay 21) (.c hf .nil)))
theorem OE (l:List Sg) (nl neg nn fo:Bool) (num den name:List UInt8) (sg a:Ty) (hf:CO 90 [.sl (aW l) l.length nl,.int .i64 22,.str name] (.ret (.tup [.agg (bC sg),.bool fo]))):CO 55 [.sl (aW l) l.length nl,.agg [.int .i64 22,.bool neg,.str num,.str den,.str name],.sl (bf [a]) 1 nn] (.ret (.tup [.agg (bC (bD false fo sg 22 [a]).1),.int .i64 (bD false fo sg 22 [a]).2])):=by
 rcases tf (dM [a]) with b0|b0
 ·rw [show bD false fo sg 22 [a]=(⟨a.tr,a.m,a.d⟩,0) by simp only [bD,aO,cE,b0]<;>rfl]
  exact pK [] 27 50331648 (.k 7 (aG b0) (.n 38 .nil)) (.c (jv a nn) (.c (ay 22) (.c hf .nil)))
 ·rw [show bD false fo sg 22 [a]=(⟨false,0,0⟩,13) by simp only [bD,aO,cE,b0]<;>rfl]
  exact pK [] 27 117440512 (.k 4 (bm b0) (.n 38 .nil)) (.c (jv a nn) (.c (ay 22) (.c hf .nil)))
theorem OG (l:List Sg) (nl neg nn fo:Bool) (num den name:List UInt8) (sg a:Ty) (hf:CO 90 [.sl (aW l) l.length nl,.int .i64 23,.str name] (.ret (.tup [.agg (bC sg),.bool fo]))):CO 55 [.sl (aW l) l.length nl,.agg [.int .i64 23,.bool neg,.str num,.str den,.str name],.sl (bf [a]) 1 nn] (.ret (.tup [.agg (bC (bD false fo sg 23 [a]).1),.int .i64 (bD false fo sg 23 [a]).2])):=by
 rcases tf (dM [a]) with b0|b0
 ·rw [show bD false fo sg 23 [a]=(⟨a.tr,a.m,a.d⟩,0) by simp only [bD,aO,cE,b0]<;>rfl]
  exact pK [] 27 33554432 (.k 7 (aG b0) (.n 38 .nil)) (.c (jv a nn) (.c (ay 23) (.c hf .nil)))
 ·rw [show bD false fo sg 23 [a]=(⟨false,0,0⟩,13) by simp only [bD,aO,cE,b0]<;>rfl]
  exact pK [] 27 100663296 (.k 4 (bm b0) (.n 38 .nil)) (.c (jv a nn) (.c (ay 23) (.c hf .nil)))
theorem OH (l:List Sg) (nl neg nn fo:Bool) (num den name:List UInt8) (sg a:Ty) (hf:CO 90 [.sl (aW l) l.length nl,.int .i64 24,.str name] (.ret (.tup [.agg (bC sg),.bool fo]))):CO 55 [.sl (aW l) l.length nl,.agg [.int .i64 24,.bool neg,.str num,.str den,.str name],.sl (bf [a]) 1 nn] (.ret (.tup [.agg (bC (bD true fo sg 24 [a]).1),.int .i64 (bD true fo sg 24 [a]).2])):=by
 rcases tf fo with b0|b0
 ·rcases tf ((a.tr==sg.tr) && ((a.m==sg.m) && ((a.d==sg.d) && true))) with b1|b1
  ·rw [show bD true fo sg 24 [a]=(⟨sg.tr,sg.m,sg.d⟩,0) by simp only [bD,aO,cE,b0,b1]<;>rfl]
   exact pK [] 28 67108865 (.k 7 (aG b1) (.k 39 (aG b0) (.n 5 .nil))) (.c (ay 24) (.c hf .nil))
  ·rw [show bD true fo sg 24 [a]=(⟨false,0,0⟩,13) by simp only [bD,aO,cE,b0,b1]<;>rfl]
   exact pK [] 28 201326593 (.k 4 (bm b1) (.k 39 (aG b0) (.n 5 .nil))) (.c (ay 24) (.c hf .nil))
 ·rw [show bD true fo sg 24 [a]=(⟨false,0,0⟩,12) by simp only [bD,aO,cE,b0]<;>rfl]
  exact pK [] 2 3 (.k 4 (bm b0) (.n 5 .nil)) (.c (ay 24) (.c hf .nil))
def dG (l:List Sg) (x:Nd) (ts:List Ty):Ty × Int:=bD (br x.op) (dL l x.op x.name).isSome ((dL l x.op x.name).getD zT) x.op.toNat ts
theorem lF {ts:List Ty} {n:Nat} (h:ts.length=n) (hn:n=0):ts= []:=List.eq_nil_of_length_eq_zero (h.trans hn)
theorem mz {ts:List Ty} {n:Nat} (h:ts.length=n) (hn:n=1):∃ a,ts= [a]:=List.length_eq_one_iff.mp (h.trans hn)
theorem fg {ts:List Ty} {n:Nat} (h:ts.length=n) (hn:n=2):∃ a b,ts= [a,b]:=by
 subst hn
 match ts,h with
 | [a,b],_=>exact ⟨a,b,rfl⟩
theorem J8 {ts:List Ty} {n:Nat} (h:ts.length=n) (hn:n=3):∃ a b c,ts= [a,b,c]:=by
 subst hn
 match ts,h with
 | [a,b,c],_=>exact ⟨a,b,c,rfl⟩
theorem H4 (l:List Sg) (nl nn:Bool) (x:Nd) (ts:List Ty) (hll:l.length<2^40) (h1:1≤x.op) (h2:x.op≤24) (hts:ts.length=bB x.op):CO 55 [.sl (aW l) l.length nl,.agg (fk x),.sl (bf ts) ts.length nn] (.ret (.tup [.agg (bC (dG l x ts).1),.int .i64 (dG l x ts).2])):=by
 obtain ⟨op,neg,num,den,name⟩:=x
 have hf:=cF l nl op name hll
 have k1:1≤op:=h1
 have k2:op≤24:=h2
 have k3:ts.length=bB op:=hts
 clear h1 h2 hts
 rcases kO k1 k2 with rfl|rfl|rfl|rfl|rfl|rfl|rfl|rfl|rfl|rfl|rfl|rfl|rfl|rfl|rfl|rfl|rfl|rfl|rfl|rfl|rfl|rfl|rfl|rfl
 ·obtain rfl:=lF k3 rfl
  exact R3 l nl neg nn _ num den name _ hf
 ·obtain rfl:=lF k3 rfl
  exact R4 l nl neg nn _ num den name _ hf
 ·obtain rfl:=lF k3 rfl
  exact R5 l nl neg nn _ num den name _ hf
 ·obtain rfl:=lF k3 rfl
  exact R6 l nl neg nn _ num den name _ hf
 ·obtain rfl:=lF k3 rfl
  exact R7 l nl neg nn _ num den name _ hf
 ·obtain rfl:=lF k3 rfl
  exact R8 l nl neg nn _ num den name _ hf
 ·obtain rfl:=lF k3 rfl
  exact R9 l nl neg nn _ num den name _ hf
 ·obtain rfl:=lF k3 rfl
  exact R_ l nl neg nn _ num den name _ hf
 ·obtain ⟨a,b,rfl⟩:=fg k3 rfl
  exact Sa l nl neg nn _ num den name _ a b hf
 ·obtain ⟨a,b,rfl⟩:=fg k3 rfl
  exact Oq l nl neg nn _ num den name _ a b hf
 ·obtain ⟨a,b,rfl⟩:=fg k3 rfl
  exact Ot l nl neg nn _ num den name _ a b hf
 ·obtain ⟨a,b,rfl⟩:=fg k3 rfl
  exact Ou l nl neg nn _ num den name _ a b hf
 ·obtain ⟨a,b,rfl⟩:=fg k3 rfl
  exact Ov l nl neg nn _ num den name _ a b hf
 ·obtain ⟨a,b,rfl⟩:=fg k3 rfl
  exact Ow l nl neg nn _ num den name _ a b hf
 ·obtain ⟨a,b,c,rfl⟩:=J8 k3 rfl
  exact Ox l nl neg nn _ num den name _ a b c hf
 ·obtain ⟨a,b,rfl⟩:=fg k3 rfl
  exact Oy l nl neg nn _ num den name _ a b hf
 ·obtain ⟨a,b,rfl⟩:=fg k3 rfl
  exact Oz l nl neg nn _ num den name _ a b hf
 ·obtain ⟨a,b,rfl⟩:=fg k3 rfl
  exact OA l nl neg nn _ num den name _ a b hf
 ·obtain ⟨a,b,rfl⟩:=fg k3 rfl
  exact OB l nl neg nn _ num den name _ a b hf
 ·obtain ⟨a,rfl⟩:=mz k3 rfl
  exact OC l nl neg nn _ num den name _ a hf
 ·obtain ⟨a,rfl⟩:=mz k3 rfl
  exact OD l nl neg nn _ num den name _ a hf
 ·obtain ⟨a,rfl⟩:=mz k3 rfl
  exact OE l nl neg nn _ num den name _ a hf
 ·obtain ⟨a,rfl⟩:=mz k3 rfl
  exact OG l nl neg nn _ num den name _ a hf
 ·obtain ⟨a,rfl⟩:=mz k3 rfl
  exact OH l nl neg nn _ num den name _ a hf
theorem L9 {nt:Nat} (hn:45≤nt) (l:List Nd) (nn:Bool) (k:Nat) (C:List AV) (st own:List Nat) (x:Nd) (r:List Nd) (hdr:(List.drop ((Int.toNat (k:Int))*5) (aw l))=fk x++aw r) (h0:(decide ((IntKind.wrap .i64 (((0:Nat):Int) - (AV.toInt (List.headD (List.drop ((0+((Int.toNat x.op)*5))+1) eR) .dead))))=0))=true) (h1:(Nat.ble (((0+(Int.toNat (k:Int)))*1)+1) (List.length C))=true) (h2:(decide (((0:Nat):Int)≤(k:Int)))=true) (h3:(decide ((k:Int)<(l.length:Int)))=true) (h4:(chk (.int .i64) (List.headD (List.drop ((0+((Int.toNat x.op)*5))+1) eR) .dead))=true) (h5:(decide (((0:Nat):Int)≤x.op))=true) (h6:(decide (x.op<((25:Nat):Int)))=true) (h7:lit true (decide ((k:Int)<(l.length:Int)))=true) (c0:CO 78 [.nilS] (.ret (.sl (aj own) own.length false))):ah prog ap [] nt (ac 0 (ae f51)) ⟨[(15,.sl (aw l) l.length nn),(16,.int .i64 (l.length:Int)),(17,.int .i64 (k:Int)),(4,.ref 0 0 0 l.length),(5,.nilS)],[(0,⟨C,0,false,0,1,true⟩)],.dead,[]⟩ (.normal) ⟨[(15,.sl (aw l) l.length nn),(16,.int .i64 (l.length:Int)),(17,.int .i64 (IntKind.wrap .i64 ((k:Int)+((1:Nat):Int)))),(4,.ref 0 0 0 l.length),(5,.ref 1 0 0 1)],[(0,⟨(List.take ((0+(Int.toNat (k:Int)))*1) C++ [.sl (aj own) own.length false]++List.drop (((0+(Int.toNat (k:Int)))*1)+1) C),0,false,0,1,true⟩),(1,⟨[.int .i64 (k:Int)],0,false,0,1,true⟩)],.dead,[]⟩:=
 have h:ah prog ap [] nt (ac 0 (ae f51)) ⟨[(15,.sl (aw l) l.length nn),(16,.int .i64 (l.length:Int)),(17,.int .i64 (k:Int)),(4,.ref 0 0 0 l.length),(5,.nilS)],[(0,⟨C,0,false,0,1,true⟩)],.dead,[]⟩ (.normal) ⟨[(15,.sl (aw l) l.length nn),(16,.int .i64 (l.length:Int)),(17,.int .i64 (IntKind.wrap .i64 ((k:Int)+((1:Nat):Int)))),(4,.ref 0 0 0 l.length),(5,.ref 1 0 0 1)],[(0,⟨(List.take ((0+(Int.toNat (k:Int)))*1) C++ [.sl (aj own) own.length false]++List.drop (((0+(Int.toNat (k:Int)))*1)+1) C),0,false,0,1,true⟩),(1,⟨[.int .i64 (k:Int)],0,false,0,1,true⟩),(2,⟨[.int .i64 x.op,.bool x.neg,.str x.num,.str x.den,.str x.name],0,false,0,0,true⟩)],.dead,[]⟩:=pJ 51 [] 2 1 (.k 4 h0 (.c h1 (.c h2 (.c h3 (.c h0 (.k 1 h4 (.c h5 (.c h6 (.k 7 h2 (.c h3 (.c h7 .nil))))))))))) (.c c0 (.v 20 (.ppt hdr) .nil)) hn
 h.forgetD 2 ⟨[.int .i64 x.op,.bool x.neg,.str x.num,.str x.den,.str x.name],0,false,0,0,true⟩ (by intro v h;cases h) (by decide) rfl ⟨Fz.same rfl,Fz.same rfl,Fz.same rfl,Fz.same rfl,Fz.same rfl,trivial⟩ ⟨rfl,qf.same rfl,by decide,rfl,qf.same rfl,by decide,rfl⟩ rfl
theorem BK {nt:Nat} (hn:45≤nt) (l:List Nd) (nn:Bool) (k:Nat) (C:List AV) (st own:List Nat) (h0:lit false (decide ((k:Int)<(l.length:Int)))=true):ah prog ap [] nt (ac 0 (ae f51)) ⟨[(15,.sl (aw l) l.length nn),(16,.int .i64 (l.length:Int)),(17,.int .i64 (k:Int)),(4,.ref 0 0 0 l.length),(5,.nilS)],[(0,⟨C,0,false,0,1,true⟩)],.dead,[]⟩ (.exit 0) ⟨[(4,.ref 0 0 0 l.length)],[(0,⟨C,0,false,0,1,true⟩)],.dead,[]⟩:=pJ 51 [] 1 0 (.c h0 .nil) (.nil) hn
theorem L7 {nt:Nat} (hn:45≤nt) (l:List Nd) (nn:Bool) (k:Nat) (C:List AV) (st own:List Nat) (x:Nd) (r:List Nd) (hdr:(List.drop ((Int.toNat (k:Int))*5) (aw l))=fk x++aw r) (h0:(Nat.ble (((Int.toNat (IntKind.wrap .i64 ((st.length:Int) - (AV.toInt (List.headD (List.drop ((0+((Int.toNat x.op)*5))+1) eR) .dead))))) - 0)+1) 1099511627776)=true) (h1:(Nat.ble (((Int.toNat (IntKind.wrap .i64 ((st.length:Int) - (AV.toInt (List.headD (List.drop ((0+((Int.toNat x.op)*5))+1) eR) .dead))))) - 0)*1) (List.length (aj st)))=true) (h2:(decide (((0:Nat):Int)≤(IntKind.wrap .i64 ((st.length:Int) - (AV.toInt (List.headD (List.drop ((0+((Int.toNat x.op)*5))+1) eR) .dead))))))=true) (h3:(decide ((IntKind.wrap .i64 ((st.length:Int) - (AV.toInt (List.headD (List.drop ((0+((Int.toNat x.op)*5))+1) eR) .dead))))≤(st.length:Int)))=true) (h4:(Nat.ble (((0+(Int.toNat (k:Int)))*1)+1) (List.length C))=true) (h5:(decide (((0:Nat):Int)≤(k:Int)))=true) (h6:(decide ((k:Int)<(l.length:Int)))=true) (h7:(decide ((st.length:Int)≤(st.length:Int)))=true) (h8:(chk (.int .i64) (List.headD (List.drop ((0+((Int.toNat x.op)*5))+1) eR) .dead))=true) (h9:(decide (((0:Nat):Int)≤x.op))=true) (h10:(decide (x.op<((25:Nat):Int)))=true) (h11:lit true (decide ((k:Int)<(l.length:Int)))=true) (c0:aB prog ap 78 [.ref 0 0 (0+(Int.toNat (IntKind.wrap .i64 ((st.length:Int) - (AV.toInt (List.headD (List.drop ((0+((Int.toNat x.op)*5))+1) eR) .dead)))))) ((Int.toNat (st.length:Int)) - (Int.toNat (IntKind.wrap .i64 ((st.length:Int) - (AV.toInt (List.headD (List.drop ((0+((Int.toNat x.op)*5))+1) eR) .dead))))))] [⟨(aj st),0,false,0,1,true⟩] (.ret (.sl (aj own) own.length false)) [⟨(aj st),0,false,0,1,true⟩]):ah prog ap [] nt (ac 0 (ae f51)) ⟨[(15,.sl (aw l) l.length nn),(16,.int .i64 (l.length:Int)),(17,.int .i64 (k:Int)),(4,.ref 0 0 0 l.length),(5,.ref 1 0 0 st.length)],[(0,⟨C,0,false,0,1,true⟩),(1,⟨(aj st),0,false,0,1,true⟩)],.dead,[]⟩ (.normal) ⟨[(15,.sl (aw l) l.length nn),(16,.int .i64 (l.length:Int)),(17,.int .i64 (IntKind.wrap .i64 ((k:Int)+((1:Nat):Int)))),(4,.ref 0 0 0 l.length),(5,.ref 1 0 0 (((Int.toNat (IntKind.wrap .i64 ((st.length:Int) - (AV.toInt (List.headD (List.drop ((0+((Int.toNat x.op)*5))+1) eR) .dead))))) - 0)+1))],[(0,⟨(List.take ((0+(Int.toNat (k:Int)))*1) C++ [.sl (aj own) own.length false]++List.drop (((0+(Int.toNat (k:Int)))*1)+1) C),0,false,0,1,true⟩),(1,⟨((List.take (((Int.toNat (IntKind.wrap .i64 ((st.length:Int) - (AV.toInt (List.headD (List.drop ((0+((Int.toNat x.op)*5))+1) eR) .dead))))) - 0)*1) (aj st))++ [.int .i64 (k:Int)]),0,false,0,1,true⟩)],.dead,[]⟩:=
 have h:ah prog ap [] nt (ac 0 (ae f51)) ⟨[(15,.sl (aw l) l.length nn),(16,.int .i64 (l.length:Int)),(17,.int .i64 (k:Int)),(4,.ref 0 0 0 l.length),(5,.ref 1 0 0 st.length)],[(0,⟨C,0,false,0,1,true⟩),(1,⟨(aj st),0,false,0,1,true⟩)],.dead,[]⟩ (.normal) ⟨[(15,.sl (aw l) l.length nn),(16,.int .i64 (l.length:Int)),(17,.int .i64 (IntKind.wrap .i64 ((k:Int)+((1:Nat):Int)))),(4,.ref 0 0 0 l.length),(5,.ref 1 0 0 (((Int.toNat (IntKind.wrap .i64 ((st.length:Int) - (AV.toInt (List.headD (List.drop ((0+((Int.toNat x.op)*5))+1) eR) .dead))))) - 0)+1))],[(0,⟨(List.take ((0+(Int.toNat (k:Int)))*1) C++ [.sl (aj own) own.length false]++List.drop (((0+(Int.toNat (k:Int)))*1)+1) C),0,false,0,1,true⟩),(1,⟨((List.take (((Int.toNat (IntKind.wrap .i64 ((st.length:Int) - (AV.toInt (List.headD (List.drop ((0+((Int.toNat x.op)*5))+1) eR) .dead))))) - 0)*1) (aj st))++ [.int .i64 (k:Int)]),0,false,0,1,true⟩),(2,⟨[.int .i64 x.op,.bool x.neg,.str x.num,.str x.den,.str x.name],0,false,0,0,true⟩)],.dead,[]⟩:=pJ 51 [] 1 1 (.k 1 h0 (.c h1 (.k 2 h2 (.c h3 (.c h4 (.c h5 (.c h6 (.c h2 (.c h3 (.c h7 (.c h8 (.c h9 (.c h10 (.k 7 h5 (.c h6 (.c h11 .nil)))))))))))))))) (.c c0 (.v 20 (.ppt hdr) .nil)) hn
 h.forgetD 2 ⟨[.int .i64 x.op,.bool x.neg,.str x.num,.str x.den,.str x.name],0,false,0,0,true⟩ (by intro v h;cases h) (by decide) rfl ⟨Fz.same rfl,Fz.same rfl,Fz.same rfl,Fz.same rfl,Fz.same rfl,trivial⟩ ⟨rfl,qf.same rfl,by decide,rfl,qf.same rfl,by decide,rfl⟩ rfl
theorem BJ {nt:Nat} (hn:45≤nt) (l:List Nd) (nn:Bool) (k:Nat) (C:List AV) (st own:List Nat) (h0:lit false (decide ((k:Int)<(l.length:Int)))=true):ah prog ap [] nt (ac 0 (ae f51)) ⟨[(15,.sl (aw l) l.length nn),(16,.int .i64 (l.length:Int)),(17,.int .i64 (k:Int)),(4,.ref 0 0 0 l.length),(5,.ref 1 0 0 st.length)],[(0,⟨C,0,false,0,1,true⟩),(1,⟨(aj st),0,false,0,1,true⟩)],.dead,[]⟩ (.exit 0) ⟨[(4,.ref 0 0 0 l.length)],[(0,⟨C,0,false,0,1,true⟩),(1,⟨(aj st),0,false,0,1,true⟩)],.dead,[]⟩:=pJ 51 [] 1 0 (.c h0 .nil) (.nil) hn
theorem L8 (l:List Nd) (nn:Bool) (w:Int) (C:List AV) (h0:(decide (((0:Nat):Int)≤(l.length:Int)))=true) (h1:(decide ((l.length:Int)=(l.length:Int)))=true) (h2:(decide ((l.length:Int)≤((1099511627776:Nat):Int)))=true) (h3:lit false (!(w==((0:Nat):Int)))=true) (c0:CO 49 [.sl (aw l) l.length nn] (.ret (.int .i64 w))) (l0:aC prog ap [] 45 (.block 0 (.loop (ac 0 (ae f51)))) ⟨[(0,.sl (aw l) l.length nn),(2,.nilS),(3,.bool false),(4,.ref 0 0 0 (Int.toNat (l.length:Int))),(5,.nilS),(6,.dead),(7,.dead),(8,.dead),(11,.bool (!(w==((0:Nat):Int)))),(15,.sl (aw l) l.length nn),(16,.int .i64 (l.length:Int)),(17,.int .i64 0),(18,.dead)],[(0,⟨(dK (Int.toNat (l.length:Int)) [.nilS]),0,false,0,1,true⟩)],.dead,[]⟩ (.normal) ⟨[(4,.ref 0 0 0 l.length)],[(0,⟨C,0,false,0,1,true⟩)],.dead,[]⟩):CO 51 [.sl (aw l) l.length nn] (.ret (.tup [.own (List.take (l.length*1) C) l.length 1,.bool true])):=pK [0] 1 0 (.c h0 (.c h1 (.c h2 (.c h3 .nil)))) (.l l0 (.c c0 .nil))
theorem MX:CO 78 [.nilS] (.ret (.nilS)):=pK [] 1 1 (.n 1 .nil) (.nil)
theorem Mz (st:List Nat) (i n:Nat) (h0:(Nat.beq (List.length (List.take (n*1) (List.drop (i*1) (aj st)))) (n*1))=true) (h1:(Nat.ble (0+n) 1099511627776)=true):aB prog ap 78 [.ref 0 0 i n] [⟨(aj st),0,false,0,1,true⟩] (.ret (.own (List.take ((0+n)*1) ([]++(List.take (n*1) (List.drop (i*1) (aj st))))) (0+n) 1)) [⟨(aj st),0,false,0,1,true⟩]:=pK [] 1 0 (.c h0 (.c h1 (.n 3 .nil))) (.nil)
def jf:List Nd→Nat→List Nat→List (List Nat)
 | [],_,_=> []
 |x::r,k,st=>st.drop (st.length - bB x.op)::jf r (k+1) (st.take (st.length - bB x.op)++ [k])
def bE (l:List Nd):List (List Nat):=jf l 0 []
def Dm (a:List Nat):AV:= .sl (aj a) a.length false
def eO (ll:List (List Nat)):List AV:=ll.map Dm
def Dc:List Nd→Nat→List Nat→List Nat
 | [],_,st=>st
 |x::r,k,st=>Dc r (k+1) (st.take (st.length - bB x.op)++ [k])
theorem kx (r:List Nd):∀ k st,(jf r k st).length=r.length:=by
 induction r with
 |nil=>intros;rfl
 |cons x r ih=>intro k st;simp only [jf,List.length_cons,ih]
def QX (st:List Nat):AV:=match st with| []=> .nilS|x::l=> .ref 1 0 0 (x::l).length
def LG (st:List Nat):Hp:=match st with| []=> []|x::l=> [(1,⟨aj (x::l),0,false,0,1,true⟩)]
theorem yp {l:List Nat} (h:l ≠ []):QX l= .ref 1 0 0 l.length:=by cases l with|nil=>exact absurd rfl h|cons _ _=>rfl
theorem uQ {l:List Nat} (h:l ≠ []):LG l= [(1,⟨aj l,0,false,0,1,true⟩)]:=by cases l with|nil=>exact absurd rfl h|cons _ _=>rfl
def uR (l:List Nd) (nn:Bool) (p:Nat × List Nat × List AV):St:=⟨[(15,.sl (aw l) l.length nn),(16,.int .i64 (l.length:Int)),(17,.int .i64 (p.1:Int)),(4,.ref 0 0 0 l.length),(5,QX p.2.1)],(0,⟨p.2.2,0,false,0,1,true⟩)::LG p.2.1,.dead,[]⟩
def tX (l:List Nd) (p:List Nat × List AV):St:=⟨[(4,.ref 0 0 0 l.length)],(0,⟨p.2,0,false,0,1,true⟩)::LG p.1,.dead,[]⟩
theorem BS:aB prog ap 78 [.nilS] [] (.ret (.sl (aj []) ([]:List Nat).length false)) []:=MX.out (eI.ret rfl rfl (bp.nilS false rfl))
theorem DI (st:List Nat) (i n:Nat) (h:i+n=st.length) (hl:st.length<2^40):aB prog ap 78 [.ref 0 0 i n] [⟨aj st,0,false,0,1,true⟩] (.ret (.sl (aj (st.drop i)) n false)) [⟨aj st,0,false,0,1,true⟩]:=by
 have h1:=Mz st i n
 have hln:n≤st.length:=by omega
 have htk:List.take n (List.drop i (aj st))=aj (st.drop i):=by
  rw [wR,bP,List.take_of_length_le (by simp;omega)]
 have hlen:(aj (st.drop i)).length=n:=by rw [bT,List.length_drop];omega
 simp (disch:=first|omega|(simp [ai,ar]<;>omega)) only [Nat.mul_one,htk,hlen,vG,decide_true,Nat.zero_add,cI,aY,List.nil_append] at h1
 have h2:=(h1 True.intro (by omega)).thaw (by simp)
 simp only [jz,thaw,Nat.mul_one] at h2
 rw [List.take_of_length_le (by rw [List.length_take,hlen];omega),List.take_of_length_le (by omega)] at h2
 exact h2.out (eI.sl1 _ _ _)
theorem FU {nt:Nat} (hn:45≤nt) (l p r:List Nd) (nn:Bool) (x:Nd) (st:List Nat) (C C2:List AV) (hl:l=p++x::r) (hll:l.length<2^39) (hop:1≤x.op∧x.op≤24) (har:bB x.op≤st.length) (hst:st.length≤p.length) (hC:C.length=l.length)
  (hset:List.take p.length C++ [Dm (st.drop (st.length - bB x.op))]++List.drop (p.length+1) C=C2):
  ah prog ap [] nt (ac 0 (ae f51)) (uR l nn (p.length,st,C)) .normal (uR l nn (p.length+1,st.take (st.length - bB x.op)++ [p.length],C2)):=by
 have hdr:List.drop (Int.toNat (p.length:Int)*5) (aw l)=fk x++aw r:=by rw [hl];exact jP rfl
 have hlen:p.length+(r.length+1)=l.length:=by rw [hl];simp
 obtain ⟨i1,i2⟩:=hop
 have ht:=zI i1 i2
 unfold uR
 simp only
 rw [yp (dA _ _),uQ (dA _ _)]
 rcases Decidable.em (st= []) with rfl|hne
 ·have h0:bB x.op=0:=by simpa using har
  have hb:=L9 hn l nn p.length C [] [] x r hdr
  simp only [List.length_nil,Nat.zero_sub,List.drop_nil,List.take_nil,List.nil_append] at hset ⊢
  unfold Dm at hset
  have hca:=BS
  simp (disch:=first|omega|(simp [ai,ar]<;>omega)) only [Nat.zero_add,ht,h0,aV,eV,Nat.sub_zero,aY,aD,Nat.mul_one,hC,cI,bI,aP,bZ,bd,List.length_nil,bG,aZ] at hb
  simp only [QX,LG,aj,List.map_cons,List.map_nil,List.length_cons,List.length_nil,Nat.zero_add] at hb hset hca ⊢
  rw [hset] at hb
  apply hb<;>first|exact True.intro|omega|assumption|exact rfl|skip
 ·have hcl:=DI st (st.length - bB x.op) (bB x.op) (by omega) (by omega)
  have hb:=L7 hn l nn p.length C st (st.drop (st.length - bB x.op)) x r hdr
  rw [yp hne,uQ hne]
  unfold Dm at hset
  generalize hm:st.length - bB x.op=m at*
  have hown:(st.drop m).length=bB x.op:=by rw [List.length_drop];omega
  have e2:IntKind.wrap .i64 ((st.length:Int) - ((bB x.op:Nat):Int))=(m:Int):=by rw [bo]<;>omega
  have e3:st.length - m=bB x.op:=by omega
  rw [hown] at hb hset
  have e4:(st.take m).length=m:=by rw [List.length_take];omega
  simp (disch:=first|omega|(simp [ai,ar]<;>omega)) only [Nat.zero_add,ht,aV,e2,aD,Nat.sub_zero,cI,aY,Nat.mul_one,bT,bI,hC,aP,bZ,bd,e3,bG,aZ,hset,bP,dY] at hb
  simp only [List.length_append,List.length_singleton,e4]
  apply hb<;>first|exact True.intro|omega|assumption|exact rfl|skip
theorem qj {r:List Nd} {d e:Nat} {x:Nd} (h:fB (x::r) d= .inl e):(1≤x.op∧x.op≤24)∧bB x.op≤d∧fB r (d - bB x.op+1)= .inl e:=by
 simp only [fB] at h
 by_cases h1:az x=0
 ·rw [if_pos h1] at h
  by_cases h2:d<bB x.op
  ·rw [if_pos h2] at h;cases h
  ·rw [if_neg h2] at h
   exact ⟨sV h1,by omega,h⟩
 ·rw [if_neg h1] at h;cases h
theorem k_ (ll:List (List Nat)):(eO ll).length=ll.length:=by simp [eO]
theorem BL (done:List (List Nat)) (a:List Nat) (m:Nat):List.take done.length (eO done++List.replicate (m+1) AV.nilS)++ [Dm a]++List.drop (done.length+1) (eO done++List.replicate (m+1) AV.nilS)=eO (done++ [a])++List.replicate m AV.nilS:=by
 have hl:=k_ done
 rw [List.take_append_of_le_length (by omega),List.take_of_length_le (by omega),List.drop_append,List.drop_of_length_le (by omega),List.nil_append,show done.length+1 - (eO done).length=1 by omega,List.replicate_succ,List.drop_succ_cons,List.drop_zero]
 unfold eO
 rw [List.map_append]
 rfl
theorem FT {nt:Nat} (hn:45≤nt) (l:List Nd) (nn:Bool) (hll:l.length<2^39) (e:Nat):∀ (r p:List Nd) (st:List Nat) (done:List (List Nat)),p++r=l→fB r st.length= .inl e→st.length≤p.length→done.length=p.length→aA prog ap [] nt (ac 0 (ae f51)) (fun _=> .exit 0) (uR l nn) (tX l) (p.length,st,eO done++List.replicate r.length .nilS) (Dc r p.length st,eO (done++jf r p.length st)):=by
 intro r
 induction r with
 | nil=>
  intro p st done h hc hst hd
  have hp:p.length=l.length:=by rw [← h];simp
  rw [hp]
  simp only [jf,Dc,List.append_nil,List.length_nil,List.replicate_zero]
  refine .done ?_
  unfold uR tX
  have hx:ah prog ap [] nt (ac 0 (ae f51)) (uR l nn (l.length,st,eO done)) (.exit 0) (tX l (st,eO done)):=by
   unfold uR tX
   rcases Decidable.em (st= []) with rfl|hne
   ·exact BK hn l nn l.length (eO done) [] [] (by rw [aP];simp [lit])
   ·simp only
    rw [yp hne,uQ hne]
    exact BJ hn l nn l.length (eO done) st [] (by rw [aP];simp [lit])
  exact hx
 | cons x r ih=>
  intro p st done h hc hst hd
  obtain ⟨hop,har,hc2⟩:=qj hc
  have hl:p.length+(r.length+1)=l.length:=by rw [← h];simp
  have hst2:(st.take (st.length - bB x.op)++ [p.length]).length=st.length - bB x.op+1:=by
   rw [List.length_append,List.length_take,List.length_singleton,Nat.min_eq_left (by omega)]
  have hnext:=ih (p++ [x]) (st.take (st.length - bB x.op)++ [p.length]) (done++ [st.drop (st.length - bB x.op)]) (by simp [h]) (by rw [hst2];exact hc2) (by rw [hst2];simp;omega) (by simp [hd])
  rw [List.length_append,List.length_singleton,List.append_assoc] at hnext
  simp only [jf,Dc,List.length_cons]
  have hset:=BL done (st.drop (st.length - bB x.op)) r.length
  rw [hd] at hset
  have hstep:=FU hn l p r nn x st (eO done++List.replicate (r.length+1) .nilS) _ h.symm hll hop har hst (by rw [List.length_append,k_,List.length_replicate];omega) hset
  exact .next hstep hnext
theorem EQ (n:Nat):dK n [AV.nilS]=List.replicate n AV.nilS:=by
 unfold dK
 induction n with
 |zero=>rfl
 |succ n ih=>rw [List.replicate_succ,List.flatten_cons,ih,List.replicate_succ];rfl
theorem gX {l:List Nd} (h:dX l=0):l.length≤60∧fB l 0= .inl 1:=by
 unfold dX at h
 by_cases h60:60<l.length
 ·rw [if_pos h60] at h;cases h
 ·rw [if_neg h60] at h
  refine ⟨by omega, ?_⟩
  have hne:∀ (r:List Nd) (d:Nat) (w:Int),fB r d= .inr w→w ≠ 0:=by
   intro r
   induction r with
   |nil=>intro d w h;cases h
   | cons x r ih=>
    intro d w h
    simp only [fB] at h
    by_cases h1:az x=0
    ·rw [if_pos h1] at h
     by_cases h2:d<bB x.op
     ·rw [if_pos h2] at h;cases h;decide
     ·rw [if_neg h2] at h;exact ih _ _ h
    ·rw [if_neg h1] at h;cases h;exact h1
  cases hc:fB l 0 with
  |inl d=>
   rw [hc] at h
   by_cases hd:d=1
   ·rw [hd]
   ·simp only [if_neg hd] at h;cases h
  |inr w=>rw [hc] at h;exact absurd h (hne l 0 w hc)
theorem F4 (l:List Nd) (nn:Bool) (hsm:∀ x ∈ l,x.sm) (hc:dX l=0):CO 51 [.sl (aw l) l.length nn] (.ret (.tup [.sl (eO (bE l)) l.length true,.bool true])):=by
 have htk:List.take l.length (eO (bE l))=eO (bE l):=List.take_of_length_le (by rw [k_];unfold bE;rw [kx];omega)
 suffices hown:CO 51 [.sl (aw l) l.length nn] (.ret (.tup [.own (eO (bE l)) l.length 1,.bool true])) by
  have h:=hown.thaw (by simp)
  simp only [jz,List.map_cons,List.map_nil,thaw,Nat.mul_one,htk] at h
  exact h
 have hck:=wI l nn hsm
 obtain ⟨h60,hin⟩:=gX hc
 rw [hc] at hck
 have hloop:=fun nt (hn:45≤nt)=>FT hn l nn (by omega) 1 l [] [] [] rfl hin (by simp) rfl
 have hal:(bE l).length=l.length:=kx l 0 []
 have h:=L8 l nn 0 (eO (bE l))
 simp (disch:=first|omega|(simp [ai,ar]<;>omega)) only [bI,aY,decide_true,bO,bY,pD,aD,EQ,Nat.mul_one,htk] at h
 have hlen:(eO (bE l)).length=l.length:=by rw [k_,hal]
 have hr:l.length<1099511627776:=by omega
 apply h<;>first|exact True.intro|omega|assumption|exact rfl|skip
 intro nt hnt
 have hb:=aA.blk (s:=uR l nn (0,[],List.replicate l.length AV.nilS)) (s':=tX l (Dc l 0 [],eO (bE l))) (id:=0) hloop (by simp) rfl (aF.refl _) (aF.refl _) nt hnt
 unfold uR tX at hb
 simp only [QX,LG] at hb
 have hb2:=hb.weak (s':=⟨[(0,.sl (aw l) l.length nn),(2,.nilS),(3,.bool false),(4,.ref 0 0 0 l.length),(5,.nilS),(6,.dead),(7,.dead),(8,.dead),(11,.bool false),(15,.sl (aw l) l.length nn),(16,.int .i64 (l.length:Int)),(17,.int .i64 0),(18,.dead)],[(0,⟨List.replicate l.length AV.nilS,0,false,0,1,true⟩)],.dead,[]⟩) (aF.of ⟨rfl,rfl,rfl,rfl,rfl,trivial⟩) (aF.refl _)
 rcases Decidable.em (Dc l 0 []= []) with he|he
 ·rw [he] at hb2;exact hb2
 ·have e1:=uQ he
  unfold LG at e1
  rw [e1] at hb2
  exact hb2.forget 1 _ (by intro v h;cases h) (by decide) rfl ⟨Fz.same rfl,trivial⟩ ⟨rfl,qf.same rfl,by decide,rfl⟩
end Go.Proofs.Tryz
