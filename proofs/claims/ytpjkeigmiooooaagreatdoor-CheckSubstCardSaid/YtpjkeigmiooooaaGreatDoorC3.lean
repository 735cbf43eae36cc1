/- Contracts of functions that the law reaches, each by its own hypotheses; joined by a program of mine. -/
import Derived.Test.YtpjkeigmiooooaaGreatDoorC2
import Derived.Test.YtpjkeigmiooooaaGreatDoorM5
import Derived.Test.YtpjkeigmiooooaaGreatDoorC1
import Derived.Test.YtpjkeigmiooooaaGreatDoorM4
import Derived.Test.YtpjkeigmiooooaaGreatDoorCards
import Derived.Test.YtpjkeigmiooooaaGreatDoorTie
import Derived.Deep.DeepHandedRow
set_option linter.unusedSimpArgs false
set_option linter.unusedVariables false
set_option maxRecDepth 100000
open Go AM
namespace Go.Proofs.Tryz
theorem Pp {nt:Nat} (hn:59≤nt) (l:List Nd) (nn:Bool) (h0:(chk (.int .i64) (List.headD (aw l) .dead))=true) (h1:(decide (((0:Nat):Int)<(l.length:Int)))=true) (h2:lit true (decide (((0:Nat):Int)<(l.length:Int)))=true) (c0:CO 48 [.int .i64 (AV.toInt (List.headD (aw l) .dead))] (.ret (.int .i64 0))):ah prog ap [] nt (ac 0 (ae f29)) ⟨[(0,.sl (aw l) l.length nn),(5,.nilS),(6,.nilS),(7,.int .i64 0)],[],.dead,[]⟩ (.normal) ⟨[(0,.sl (aw l) l.length nn),(5,.ref 0 0 0 1),(6,.ref 1 0 0 1),(7,.int .i64 1)],[(0,⟨[.nilS],0,false,0,1,true⟩),(1,⟨[.int .i64 0],0,false,0,1,true⟩)],.dead,[]⟩:=pJ 29 [] 4 1 (.k 9 h0 (.k 1 h1 (.c h2 .nil))) (.c c0 .nil) hn
theorem KA {nt:Nat} (hn:59≤nt) (l:List Nd) (nn:Bool) (C:List AV) (st own:List Nat) (i k a:Nat) (h0:(chk (.int .i64) (List.headD (List.drop ((0+(Int.toNat (i:Int)))*1) (aj st)) .dead))=true) (h1:(decide (((0:Nat):Int)≤(i:Int)))=true) (h2:(decide ((i:Int)<(st.length:Int)))=true) (h3:lit true (decide ((i:Int)<(st.length:Int)))=true):ah prog ap [] nt (ac 2 (ae f29)) ⟨[(0,.sl (aw l) l.length nn),(7,.int .i64 (k:Int)),(8,.int .i64 (a:Int)),(5,.ref 0 0 0 k),(6,.ref 1 0 0 st.length),(9,.nilS),(10,.int .i64 (i:Int))],[(0,⟨C,0,false,0,1,true⟩),(1,⟨(aj st),0,false,0,1,true⟩)],.dead,[]⟩ (.normal) ⟨[(0,.sl (aw l) l.length nn),(7,.int .i64 (k:Int)),(8,.int .i64 (a:Int)),(5,.ref 0 0 0 k),(6,.ref 1 0 0 st.length),(9,.ref 2 0 0 1),(10,.int .i64 (IntKind.wrap .i64 ((i:Int)+((1:Nat):Int))))],[(0,⟨C,0,false,0,1,true⟩),(1,⟨(aj st),0,false,0,1,true⟩),(2,⟨[.int .i64 (AV.toInt (List.headD (List.drop ((0+(Int.toNat (i:Int)))*1) (aj st)) .dead))],0,false,0,1,true⟩)],.dead,[]⟩:=pJ 29 [] 2 1 (.k 3 h0 (.c h1 (.c h2 (.c h3 .nil)))) (.nil) hn
theorem KC {nt:Nat} (hn:59≤nt) (l:List Nd) (nn:Bool) (C:List AV) (st own:List Nat) (i k a:Nat) (h0:lit false (decide ((i:Int)<(st.length:Int)))=true):ah prog ap [] nt (ac 2 (ae f29)) ⟨[(0,.sl (aw l) l.length nn),(7,.int .i64 (k:Int)),(8,.int .i64 (a:Int)),(5,.ref 0 0 0 k),(6,.ref 1 0 0 st.length),(9,.nilS),(10,.int .i64 (i:Int))],[(0,⟨C,0,false,0,1,true⟩),(1,⟨(aj st),0,false,0,1,true⟩)],.dead,[]⟩ (.exit 2) ⟨[(0,.sl (aw l) l.length nn),(7,.int .i64 (k:Int)),(8,.int .i64 (a:Int)),(5,.ref 0 0 0 k),(6,.ref 1 0 0 st.length),(9,.nilS)],[(0,⟨C,0,false,0,1,true⟩),(1,⟨(aj st),0,false,0,1,true⟩)],.dead,[]⟩:=pJ 29 [] 1 0 (.c h0 .nil) (.nil) hn
theorem Ky {nt:Nat} (hn:59≤nt) (l:List Nd) (nn:Bool) (C:List AV) (st own:List Nat) (i k a:Nat) (h0:(Nat.ble (own.length+1) 1099511627776)=true) (h1:(Nat.ble (own.length*1) (List.length (aj own)))=true) (h2:(chk (.int .i64) (List.headD (List.drop ((0+(Int.toNat (i:Int)))*1) (aj st)) .dead))=true) (h3:(decide (((0:Nat):Int)≤(i:Int)))=true) (h4:(decide ((i:Int)<(st.length:Int)))=true) (h5:lit true (decide ((i:Int)<(st.length:Int)))=true):ah prog ap [] nt (ac 2 (ae f29)) ⟨[(0,.sl (aw l) l.length nn),(7,.int .i64 (k:Int)),(8,.int .i64 (a:Int)),(5,.ref 0 0 0 k),(6,.ref 1 0 0 st.length),(9,.ref 2 0 0 own.length),(10,.int .i64 (i:Int))],[(0,⟨C,0,false,0,1,true⟩),(1,⟨(aj st),0,false,0,1,true⟩),(2,⟨(aj own),0,false,0,1,true⟩)],.dead,[]⟩ (.normal) ⟨[(0,.sl (aw l) l.length nn),(7,.int .i64 (k:Int)),(8,.int .i64 (a:Int)),(5,.ref 0 0 0 k),(6,.ref 1 0 0 st.length),(9,.ref 2 0 0 (own.length+1)),(10,.int .i64 (IntKind.wrap .i64 ((i:Int)+((1:Nat):Int))))],[(0,⟨C,0,false,0,1,true⟩),(1,⟨(aj st),0,false,0,1,true⟩),(2,⟨((List.take (own.length*1) (aj own))++ [.int .i64 (AV.toInt (List.headD (List.drop ((0+(Int.toNat (i:Int)))*1) (aj st)) .dead))]),0,false,0,1,true⟩)],.dead,[]⟩:=pJ 29 [] 1 1 (.k 1 h0 (.c h1 (.k 1 h2 (.c h3 (.c h4 (.c h5 .nil)))))) (.nil) hn
theorem Kz {nt:Nat} (hn:59≤nt) (l:List Nd) (nn:Bool) (C:List AV) (st own:List Nat) (i k a:Nat) (h0:lit false (decide ((i:Int)<(st.length:Int)))=true):ah prog ap [] nt (ac 2 (ae f29)) ⟨[(0,.sl (aw l) l.length nn),(7,.int .i64 (k:Int)),(8,.int .i64 (a:Int)),(5,.ref 0 0 0 k),(6,.ref 1 0 0 st.length),(9,.ref 2 0 0 own.length),(10,.int .i64 (i:Int))],[(0,⟨C,0,false,0,1,true⟩),(1,⟨(aj st),0,false,0,1,true⟩),(2,⟨(aj own),0,false,0,1,true⟩)],.dead,[]⟩ (.exit 2) ⟨[(0,.sl (aw l) l.length nn),(7,.int .i64 (k:Int)),(8,.int .i64 (a:Int)),(5,.ref 0 0 0 k),(6,.ref 1 0 0 st.length),(9,.ref 2 0 0 own.length)],[(0,⟨C,0,false,0,1,true⟩),(1,⟨(aj st),0,false,0,1,true⟩),(2,⟨(aj own),0,false,0,1,true⟩)],.dead,[]⟩:=pJ 29 [] 1 0 (.c h0 .nil) (.nil) hn
theorem Pq {nt:Nat} (hn:59≤nt) (l:List Nd) (nn:Bool) (k a:Nat) (C:List AV) (st own:List Nat) (x:Nd) (r:List Nd) (hdr:(List.drop (((Int.toNat (k:Int))*5)+0) (aw l))=fk x++aw r) (h0:(Nat.ble (k+1) 1099511627776)=true) (h1:(Nat.ble (k*1) (List.length C))=true) (h2:(Nat.ble (((Int.toNat (IntKind.wrap .i64 ((st.length:Int) - (a:Int)))) - 0)+1) 1099511627776)=true) (h3:(Nat.ble (((Int.toNat (IntKind.wrap .i64 ((st.length:Int) - (a:Int)))) - 0)*1) (List.length (aj st)))=true) (h4:(decide (((0:Nat):Int)≤(IntKind.wrap .i64 ((st.length:Int) - (a:Int)))))=true) (h5:(decide ((IntKind.wrap .i64 ((st.length:Int) - (a:Int)))≤(st.length:Int)))=true) (h6:(decide (((0:Nat):Int)≤(k:Int)))=true) (h7:(decide ((k:Int)<(l.length:Int)))=true) (h8:lit true (decide ((k:Int)<(l.length:Int)))=true) (c0:CO 48 [.int .i64 x.op] (.ret (.int .i64 (a:Int)))) (l0:aC prog ap [] 59 (.block 2 (.loop (ac 2 (ae f29)))) ⟨[(0,.sl (aw l) l.length nn),(2,.dead),(3,.dead),(4,.dead),(5,.ref 0 0 0 k),(6,.ref 1 0 0 st.length),(7,.int .i64 (k:Int)),(8,.int .i64 (a:Int)),(9,.nilS),(10,.int .i64 (IntKind.wrap .i64 ((st.length:Int) - (a:Int)))),(14,.dead),(18,.bool (decide ((k:Int)<(l.length:Int)))),(34,.dead)],[(0,⟨C,0,false,0,1,true⟩),(1,⟨(aj st),0,false,0,1,true⟩)],.dead,[]⟩ (.normal) ⟨[(0,.sl (aw l) l.length nn),(5,.ref 0 0 0 k),(6,.ref 1 0 0 st.length),(7,.int .i64 (k:Int)),(8,.int .i64 (a:Int)),(9,.nilS)],[(0,⟨C,0,false,0,1,true⟩),(1,⟨(aj st),0,false,0,1,true⟩)],.dead,[]⟩):ah prog ap [] nt (ac 0 (ae f29)) ⟨[(0,.sl (aw l) l.length nn),(5,.ref 0 0 0 k),(6,.ref 1 0 0 st.length),(7,.int .i64 (k:Int))],[(0,⟨C,0,false,0,1,true⟩),(1,⟨(aj st),0,false,0,1,true⟩)],.dead,[]⟩ (.normal) ⟨[(0,.sl (aw l) l.length nn),(5,.ref 0 0 0 (k+1)),(6,.ref 1 0 0 (((Int.toNat (IntKind.wrap .i64 ((st.length:Int) - (a:Int)))) - 0)+1)),(7,.int .i64 (IntKind.wrap .i64 ((k:Int)+((1:Nat):Int))))],[(0,⟨((List.take (k*1) C)++ [.nilS]),0,false,0,1,true⟩),(1,⟨((List.take (((Int.toNat (IntKind.wrap .i64 ((st.length:Int) - (a:Int)))) - 0)*1) (aj st))++ [.int .i64 (k:Int)]),0,false,0,1,true⟩)],.dead,[]⟩:=pJ 29 [2] 1 1 (.k 1 h0 (.c h1 (.k 2 h2 (.c h3 (.k 2 h4 (.c h5 (.k 1 h6 (.c h7 (.c h8 .nil))))))))) (.l l0 (.c c0 (.v 24 (.ppt hdr) .nil))) hn
theorem Cz {nt:Nat} (hn:59≤nt) (l:List Nd) (nn:Bool) (k a:Nat) (C:List AV) (st own:List Nat) (h0:lit false (decide ((k:Int)<(l.length:Int)))=true):ah prog ap [] nt (ac 0 (ae f29)) ⟨[(0,.sl (aw l) l.length nn),(5,.ref 0 0 0 k),(6,.ref 1 0 0 st.length),(7,.int .i64 (k:Int))],[(0,⟨C,0,false,0,1,true⟩),(1,⟨(aj st),0,false,0,1,true⟩)],.dead,[]⟩ (.exit 0) ⟨[(5,.ref 0 0 0 k)],[(0,⟨C,0,false,0,1,true⟩),(1,⟨(aj st),0,false,0,1,true⟩)],.dead,[]⟩:=pJ 29 [2] 1 0 (.c h0 .nil) (.nil) hn
theorem Po {nt:Nat} (hn:59≤nt) (l:List Nd) (nn:Bool) (k a:Nat) (C:List AV) (st own:List Nat) (x:Nd) (r:List Nd) (hdr:(List.drop (((Int.toNat (k:Int))*5)+0) (aw l))=fk x++aw r) (h0:(Nat.ble (k+1) 1099511627776)=true) (h1:(Nat.ble (k*1) (List.length C))=true) (h2:(Nat.ble (((Int.toNat (IntKind.wrap .i64 ((st.length:Int) - (a:Int)))) - 0)+1) 1099511627776)=true) (h3:(Nat.ble (((Int.toNat (IntKind.wrap .i64 ((st.length:Int) - (a:Int)))) - 0)*1) (List.length (aj st)))=true) (h4:(decide (((0:Nat):Int)≤(IntKind.wrap .i64 ((st.length:Int) - (a:Int)))))=true) (h5:(decide ((IntKind.wrap .i64 ((st.length:Int) - (a:Int)))≤(st.length:Int)))=true) (h6:(decide (((0:Nat):Int)≤(k:Int)))=true) (h7:(decide ((k:Int)<(l.length:Int)))=true) (h8:lit true (decide ((k:Int)<(l.length:Int)))=true) (c0:CO 48 [.int .i64 x.op] (.ret (.int .i64 (a:Int)))) (l0:aC prog ap [] 59 (.block 2 (.loop (ac 2 (ae f29)))) ⟨[(0,.sl (aw l) l.length nn),(2,.dead),(3,.dead),(4,.dead),(5,.ref 0 0 0 k),(6,.ref 1 0 0 st.length),(7,.int .i64 (k:Int)),(8,.int .i64 (a:Int)),(9,.nilS),(10,.int .i64 (IntKind.wrap .i64 ((st.length:Int) - (a:Int)))),(14,.dead),(18,.bool (decide ((k:Int)<(l.length:Int)))),(34,.dead)],[(0,⟨C,0,false,0,1,true⟩),(1,⟨(aj st),0,false,0,1,true⟩)],.dead,[]⟩ (.normal) ⟨[(0,.sl (aw l) l.length nn),(5,.ref 0 0 0 k),(6,.ref 1 0 0 st.length),(7,.int .i64 (k:Int)),(8,.int .i64 (a:Int)),(9,.sl (aj own) own.length true)],[(0,⟨C,0,false,0,1,true⟩),(1,⟨(aj st),0,false,0,1,true⟩)],.dead,[]⟩):ah prog ap [] nt (ac 0 (ae f29)) ⟨[(0,.sl (aw l) l.length nn),(5,.ref 0 0 0 k),(6,.ref 1 0 0 st.length),(7,.int .i64 (k:Int))],[(0,⟨C,0,false,0,1,true⟩),(1,⟨(aj st),0,false,0,1,true⟩)],.dead,[]⟩ (.normal) ⟨[(0,.sl (aw l) l.length nn),(5,.ref 0 0 0 (k+1)),(6,.ref 1 0 0 (((Int.toNat (IntKind.wrap .i64 ((st.length:Int) - (a:Int)))) - 0)+1)),(7,.int .i64 (IntKind.wrap .i64 ((k:Int)+((1:Nat):Int))))],[(0,⟨((List.take (k*1) C)++ [.sl (aj own) own.length true]),0,false,0,1,true⟩),(1,⟨((List.take (((Int.toNat (IntKind.wrap .i64 ((st.length:Int) - (a:Int)))) - 0)*1) (aj st))++ [.int .i64 (k:Int)]),0,false,0,1,true⟩)],.dead,[]⟩:=pJ 29 [2] 1 1 (.k 1 h0 (.c h1 (.k 2 h2 (.c h3 (.k 2 h4 (.c h5 (.k 1 h6 (.c h7 (.c h8 .nil))))))))) (.l l0 (.c c0 (.v 24 (.ppt hdr) .nil))) hn
theorem Kw (l:List Nd) (nn:Bool) (w:Int) (C:List AV) (n:Nat) (h0:lit false (!(w==((0:Nat):Int)))=true) (c0:CO 47 [.sl (aw l) l.length nn] (.ret (.int .i64 w))) (l0:aC prog ap [] 59 (.block 0 (.loop (ac 0 (ae f29)))) ⟨[(0,.sl (aw l) l.length nn),(2,.nilS),(3,.bool false),(4,.int .i64 w),(5,.nilS),(6,.nilS),(7,.int .i64 0),(8,.dead),(9,.dead),(10,.dead),(14,.bool (!(w==((0:Nat):Int)))),(18,.dead),(34,.dead)],[],.dead,[]⟩ (.normal) ⟨[(5,.ref 0 0 0 n)],[(0,⟨C,0,false,0,1,true⟩)],.dead,[]⟩):CO 29 [.sl (aw l) l.length nn] (.ret (.tup [.own (List.take (n*1) C) n 1,.bool true])):=pK [0] 1 0 (.c h0 .nil) (.l l0 (.c c0 .nil))
def tE (a:List Nat):AV:=match a with| []=> .nilS|x::l=> .sl (aj (x::l)) (x::l).length true
def aM (ll:List (List Nat)):List AV:=ll.map tE
theorem F3 {a:List Nat} (h:a ≠ []):tE a= .sl (aj a) a.length true:=by cases a with|nil=>exact absurd rfl h|cons _ _=>rfl
theorem nY (ll:List (List Nat)):(aM ll).length=ll.length:=by simp [aM]
theorem yw (ll:List (List Nat)) (a:List Nat):aM ll++ [tE a]=aM (ll++ [a]):=by simp [aM]
theorem Eo {p r:List Nd} {x:Nd} {k:Nat} (h:k=p.length):List.drop (Int.toNat (k:Int)*5+0) (aw (p++x::r))=fk x++aw r:=by rw [Nat.add_zero];exact jP h
def LO (own:List Nat):AV:=match own with| []=> .nilS|x::l=> .ref 2 0 0 (x::l).length
def LP (own:List Nat):Hp:=match own with| []=> []|x::l=> [(2,⟨aj (x::l),0,false,0,1,true⟩)]
theorem vS {l:List Nat} (h:l ≠ []):LO l= .ref 2 0 0 l.length:=by cases l with|nil=>exact absurd rfl h|cons _ _=>rfl
theorem vT {l:List Nat} (h:l ≠ []):LP l= [(2,⟨aj l,0,false,0,1,true⟩)]:=by cases l with|nil=>exact absurd rfl h|cons _ _=>rfl
def wn (C:List AV) (st:List Nat):Hp:= [(0,⟨C,0,false,0,1,true⟩),(1,⟨aj st,0,false,0,1,true⟩)]
def CF (l:List Nd) (nn:Bool) (C:List AV) (st:List Nat) (k a:Nat) (p:Nat × List Nat):St:=⟨[(0,.sl (aw l) l.length nn),(7,.int .i64 (k:Int)),(8,.int .i64 (a:Int)),(5,.ref 0 0 0 k),(6,.ref 1 0 0 st.length),(9,LO p.2),(10,.int .i64 (p.1:Int))],wn C st++LP p.2,.dead,[]⟩
def xL (l:List Nd) (nn:Bool) (C:List AV) (st:List Nat) (k a:Nat) (own:List Nat):St:=⟨[(0,.sl (aw l) l.length nn),(7,.int .i64 (k:Int)),(8,.int .i64 (a:Int)),(5,.ref 0 0 0 k),(6,.ref 1 0 0 st.length),(9,LO own)],wn C st++LP own,.dead,[]⟩
theorem HR {nt:Nat} (hn:59≤nt) (l:List Nd) (nn:Bool) (C:List AV) (st:List Nat) (k a:Nat) (hl:st.length<2^39):∀ (d i:Nat) (own:List Nat),i+d=st.length→own.length≤i→aA prog ap [] nt (ac 2 (ae f29)) (fun _=> .exit 2) (CF l nn C st k a) (xL l nn C st k a) (i,own) (own++st.drop i):=by
 intro d
 induction d with
 | zero=>
  intro i own hi ho
  rw [List.drop_of_length_le (by omega),List.append_nil]
  have hi':i=st.length:=by omega
  subst hi'
  refine .done ?_
  unfold CF xL wn
  rcases Decidable.em (own= []) with rfl|hne
  ·exact KC hn l nn C st [] st.length k a (by rw [aP];simp [lit])
  ·simp only
   rw [vS hne,vT hne]
   exact Kz hn l nn C st own st.length k a (by rw [aP];simp [lit])
 | succ d ih=>
  intro i own hi ho
  have hil:i<st.length:=by omega
  have hnext:=ih (i+1) (own++ [st.getD i 0]) (by omega) (by simp;omega)
  have e:st.drop i=st.getD i 0::st.drop (i+1):=by
   rw [List.drop_eq_getElem_cons hil,List.getD_eq_getElem?_getD,List.getElem?_eq_getElem hil];rfl
  rw [List.append_assoc,List.singleton_append,← e] at hnext
  refine .next ?_ hnext
  unfold CF wn
  simp only
  rw [vS (dA _ _),vT (dA _ _)]
  rcases Decidable.em (own= []) with rfl|hne
  ·have hb:=KA hn l nn C st [] i k a
   simp (disch:=first|omega|(simp [ai,ar]<;>omega)) only [aD,Nat.zero_add,Nat.mul_one,cQ,bZ,bI,aY,aP,bd,bG,aZ,aV] at hb
   simp only [LO,LP,aj,List.map_cons,List.map_nil,List.length_cons,List.length_nil,List.nil_append,Nat.zero_add] at hb ⊢
   apply hb<;>first|exact True.intro|omega|assumption|exact rfl
  ·have hb:=Ky hn l nn C st own i k a
   simp (disch:=first|omega|(simp [ai,ar]<;>omega)) only [cI,aY,Nat.mul_one,bT,aD,Nat.zero_add,cQ,bZ,bI,aP,bd,bG,aZ,bP,List.take_length,aV,dY] at hb
   rw [vS hne,vT hne]
   simp only [List.length_append,List.length_singleton]
   apply hb<;>first|exact True.intro|omega|assumption|exact rfl
def xC (l:List Nd) (nn:Bool) (p:Nat × List Nat × List AV):St:=⟨[(0,.sl (aw l) l.length nn),(5,match p.1 with|0=> .nilS|_=> .ref 0 0 0 p.1),(6,match p.1 with|0=> .nilS|_=> .ref 1 0 0 p.2.1.length),(7,.int .i64 (p.1:Int))],match p.1 with|0=> []|_=>wn p.2.2 p.2.1,.dead,[]⟩
def sA (p:Nat × List Nat × List AV):St:=⟨[(5,match p.1 with|0=> .nilS|_=> .ref 0 0 0 p.1)],match p.1 with|0=> []|_=>wn p.2.2 p.2.1,.dead,[]⟩
theorem HH {nt:Nat} (hn:59≤nt) (l p r:List Nd) (nn:Bool) (x:Nd) (st:List Nat) (C:List AV) (hl:l=p++x::r) (hll:l.length<2^38) (har:bB x.op≤st.length) (hst:st.length≤p.length) (hst0:p= []→st= []∧C= []) (hC:C.length=p.length):
  ah prog ap [] nt (ac 0 (ae f29)) (xC l nn (p.length,st,C)) .normal (xC l nn (p.length+1,st.take (st.length - bB x.op)++ [p.length],C++ [tE (st.drop (st.length - bB x.op))])):=by
 have hlen:p.length+(r.length+1)=l.length:=by rw [hl];simp
 have k3:=zX x.op
 have har3:=qR x.op
 rcases Decidable.em (p= []) with hp|hp
 ·obtain ⟨rfl,rfl⟩:=hst0 hp
  subst hp
  have h0:bB x.op=0:=by simpa using har
  rw [h0] at k3
  rw [h0]
  have hl':l=x::r:=by rw [hl];rfl
  subst hl'
  exact Pp hn (x::r) nn rfl (by rw [aP];exact decide_eq_true (Nat.succ_pos r.length)) (by rw [aP];exact decide_eq_true (Nat.succ_pos r.length)) k3
 ·obtain ⟨k,hk⟩:∃ k,p.length=k+1:=⟨p.length - 1,by cases p with|nil=>exact absurd rfl hp|cons _ _=>simp⟩
  have hdr:List.drop (Int.toNat (p.length:Int)*5+0) (aw l)=fk x++aw r:=by rw [hl];exact Eo rfl
  have hloop:=fun nt (hn:59≤nt)=>HR hn l nn C st p.length (bB x.op) (by omega) (bB x.op) (st.length - bB x.op) [] (by omega) (by simp)
  rw [List.nil_append] at hloop
  have hst1:xC l nn (p.length,st,C)=⟨[(0,.sl (aw l) l.length nn),(5,.ref 0 0 0 p.length),(6,.ref 1 0 0 st.length),(7,.int .i64 (p.length:Int))],wn C st,.dead,[]⟩:=by rw [hk];rfl
  rw [hst1]
  generalize hm:st.length - bB x.op=m at*
  have e2:IntKind.wrap .i64 ((st.length:Int) - ((bB x.op:Nat):Int))=(m:Int):=by rw [bo]<;>omega
  have hml:(st.take m).length=m:=by rw [List.length_take];omega
  have hC1:C.length<2^38:=by omega
  have htC:List.take p.length C=C:=List.take_of_length_le (by omega)
  rcases Decidable.em (st.drop m= []) with ho|ho
  ·have hb:=Pq hn l nn p.length (bB x.op) C st [] x r hdr
   rw [ho] at hloop ⊢
   simp (disch:=first|omega|(simp [ai,ar]<;>omega)) only [cI,aY,Nat.mul_one,hC,e2,aD,Nat.sub_zero,bT,bI,aP,bd,bG,aZ,htC,bP,dY] at hb
   show ah prog ap [] nt _ _ .normal ⟨[(0,.sl (aw l) l.length nn),(5,.ref 0 0 0 (p.length+1)),(6,.ref 1 0 0 (st.take m++ [p.length]).length),(7,.int .i64 ((p.length+1:Nat):Int))],wn (C++ [tE []]) (st.take m++ [p.length]),.dead,[]⟩
   simp only [List.length_append,List.length_singleton,hml]
   unfold wn
   apply hb<;>first|exact True.intro|omega|assumption|exact rfl|skip
   ·refine aA.blk hloop (by simp) rfl ?_ ?_
    ·unfold CF wn;exact aF.of ⟨rfl,rfl,rfl,rfl,rfl,rfl,rfl,trivial⟩
    ·unfold xL wn;exact aF.of ⟨rfl,rfl,rfl,rfl,rfl,rfl,trivial⟩
  ·have hb:=Po hn l nn p.length (bB x.op) C st (st.drop m) x r hdr
   simp (disch:=first|omega|(simp [ai,ar]<;>omega)) only [cI,aY,Nat.mul_one,hC,e2,aD,Nat.sub_zero,bT,bI,aP,bd,bG,aZ,htC,bP,dY] at hb
   show ah prog ap [] nt _ _ .normal ⟨[(0,.sl (aw l) l.length nn),(5,.ref 0 0 0 (p.length+1)),(6,.ref 1 0 0 (st.take m++ [p.length]).length),(7,.int .i64 ((p.length+1:Nat):Int))],wn (C++ [tE (st.drop m)]) (st.take m++ [p.length]),.dead,[]⟩
   rw [F3 ho]
   simp only [List.length_append,List.length_singleton,hml]
   unfold wn
   apply hb<;>first|exact True.intro|omega|assumption|exact rfl|skip
   ·intro nt hnt
    have hb2:=(aA.blk (s:=CF l nn C st p.length (bB x.op) (m,[])) (s':=xL l nn C st p.length (bB x.op) (st.drop m)) (id:=2) hloop (by simp) rfl (aF.refl _) (aF.refl _) nt hnt)
    unfold CF xL wn at hb2
    simp only [LO,LP,List.append_nil] at hb2
    have e1:=vT ho
    have e3:=vS ho
    unfold LO at e3
    unfold LP at e1
    rw [e1,e3] at hb2
    have hb3:=hb2.forget (b:=2) (B:=⟨aj (st.drop m),0,false,0,1,true⟩) (hp':= [(0,⟨C,0,false,0,1,true⟩),(1,⟨aj st,0,false,0,1,true⟩)]) (en':= [(0,.sl (aw l) l.length nn),(5,.ref 0 0 0 p.length),(6,.ref 1 0 0 st.length),(7,.int .i64 (p.length:Int)),(8,.int .i64 ((bB x.op:Nat):Int)),(9,.sl (List.take ((st.drop m).length*1) (List.drop (0*1) (aj (st.drop m)))) (st.drop m).length true)]) (by intro v h;cases h) (by decide) rfl ⟨Fz.same rfl,Fz.same rfl,Fz.same rfl,Fz.same rfl,Fz.same rfl,Fz.ref,trivial⟩ ⟨rfl,qf.same rfl,by decide,rfl,qf.same rfl,by decide,rfl⟩
    rw [Nat.mul_one,Nat.zero_mul,List.drop_zero,bP,List.take_length] at hb3
    exact hb3.weak (aF.of ⟨rfl,rfl,rfl,rfl,rfl,rfl,rfl,trivial⟩) (aF.refl _)
theorem Kx {nt:Nat} (hn:59≤nt) (l:List Nd) (nn:Bool) (st:List Nat) (C:List AV) (h0:0<l.length):ah prog ap [] nt (ac 0 (ae f29)) (xC l nn (l.length,st,C)) (.exit 0) (sA (l.length,st,C)):=by
 obtain ⟨k,hk⟩:∃ k,l.length=k+1:=⟨l.length - 1,by omega⟩
 have e1:xC l nn (l.length,st,C)=⟨[(0,.sl (aw l) l.length nn),(5,.ref 0 0 0 l.length),(6,.ref 1 0 0 st.length),(7,.int .i64 (l.length:Int))],wn C st,.dead,[]⟩:=by
  unfold xC;simp only [hk]
 have e2:sA (l.length,st,C)=⟨[(5,.ref 0 0 0 l.length)],wn C st,.dead,[]⟩:=by
  unfold sA;simp only [hk]
 rw [e1,e2]
 exact Cz hn l nn l.length 0 C st [] (by rw [aP];simp [lit])
theorem HG {nt:Nat} (hn:59≤nt) (l:List Nd) (nn:Bool) (hll:l.length<2^38) (h0:0<l.length) (e:Nat):∀ (r p:List Nd) (st:List Nat) (done:List (List Nat)),p++r=l→fB r st.length= .inl e→st.length≤p.length→done.length=p.length→(p= []→st= [])→aA prog ap [] nt (ac 0 (ae f29)) (fun _=> .exit 0) (xC l nn) sA (p.length,st,aM done) (l.length,Dc r p.length st,aM (done++jf r p.length st)):=by
 intro r
 induction r with
 |nil=>
  intro p st done h hc hst hd hp0
  have hp:p.length=l.length:=by rw [← h];simp
  rw [hp]
  simp only [jf,Dc,List.append_nil]
  exact .done (Kx hn l nn st _ h0)
 | cons x r ih=>
  intro p st done h hc hst hd hp0
  obtain ⟨hop,har,hc2⟩:=qj hc
  have hst2:(st.take (st.length - bB x.op)++ [p.length]).length=st.length - bB x.op+1:=by
   rw [List.length_append,List.length_take,List.length_singleton,Nat.min_eq_left (by omega)]
  have hnext:=ih (p++ [x]) (st.take (st.length - bB x.op)++ [p.length]) (done++ [st.drop (st.length - bB x.op)]) (by simp [h]) (by rw [hst2];exact hc2) (by rw [hst2];simp;omega) (by simp [hd]) (fun h=>by simp at h)
  rw [List.length_append,List.length_singleton,List.append_assoc,← yw] at hnext
  simp only [jf,Dc]
  refine .next (HH hn l p r nn x st (aM done) h.symm hll har hst (fun hp=> ⟨hp0 hp, ?_⟩) (by rw [nY];exact hd)) hnext
  have:done= []:=List.eq_nil_of_length_eq_zero (by rw [hd,hp];rfl)
  rw [this];rfl
theorem EL (l:List Nd) (nn:Bool) (hsm:∀ x ∈ l,x.sm) (hc:dX l=0):CO 29 [.sl (aw l) l.length nn] (.ret (.tup [.sl (aM (bE l)) l.length true,.bool true])):=by
 have hlen:(aM (bE l)).length=l.length:=by rw [nY];unfold bE;rw [kx]
 have htk:List.take l.length (aM (bE l))=aM (bE l):=List.take_of_length_le (by omega)
 suffices hown:CO 29 [.sl (aw l) l.length nn] (.ret (.tup [.own (aM (bE l)) l.length 1,.bool true])) by
  have h:=hown.thaw (by simp)
  simp only [jz,List.map_cons,List.map_nil,thaw,Nat.mul_one,htk] at h
  exact h
 have hck:=uI l nn hsm
 obtain ⟨h60,hin⟩:=gX hc
 rw [hc] at hck
 have h0:0<l.length:=by
  cases l with
  |nil=>simp [fB] at hin
  |cons _ _=>simp
 have hloop:=fun nt (hn:59≤nt)=>HG hn l nn (by omega) h0 1 l [] [] [] rfl hin (by simp) rfl (fun _=>rfl)
 have h:=Kw l nn 0 (aM (bE l)) l.length
 have hr:l.length<1099511627776:=by omega
 simp (disch:=first|omega|(simp [ai,ar]<;>omega)) only [bO,bY,pD,Nat.mul_one,htk] at h
 apply h<;>first|exact True.intro|omega|assumption|exact rfl|skip
 intro nt hnt
 have hb:=aA.blk (s:=xC l nn (0,[],aM [])) (s':=sA (l.length,Dc l 0 [],aM (bE l))) (id:=0) hloop (by simp) rfl (aF.refl _) (aF.refl _) nt hnt
 obtain ⟨k,hk⟩:∃ k,l.length=k+1:=⟨l.length - 1,by omega⟩
 have e2:sA (l.length,Dc l 0 [],aM (bE l))=⟨[(5,.ref 0 0 0 l.length)],wn (aM (bE l)) (Dc l 0 []),.dead,[]⟩:=by
  unfold sA;simp only [hk]
 rw [e2] at hb
 unfold wn at hb
 have hb2:=hb.forget 1 _ (en':= [(5,.ref 0 0 0 l.length)]) (hp':= [(0,⟨aM (bE l),0,false,0,1,true⟩)]) (by intro v h;cases h) (by decide) rfl ⟨Fz.same rfl,trivial⟩ ⟨rfl,qf.same rfl,by decide,rfl⟩
 exact hb2.weak (aF.of ⟨rfl,rfl,rfl,rfl,trivial⟩) (aF.refl _)
theorem QB {nt:Nat} (hn:71≤nt) (l:List Sg) (ns:List Nd) (nl nn:Bool) (ll:List (List Nat)) (ts own:List Ty) (i k:Nat) (h0:(chk .bool (List.headD (List.drop ((0+(Int.toNat (AV.toInt (List.headD (List.drop ((Int.toNat (i:Int))*1) (AV.slX (List.headD (List.drop ((Int.toNat (k:Int))*1) (aM ll)) .dead))) .dead))))*3) (bf ts)) .dead))=true) (h1:(chk (.int .i64) (List.headD (List.tail (List.drop ((0+(Int.toNat (AV.toInt (List.headD (List.drop ((Int.toNat (i:Int))*1) (AV.slX (List.headD (List.drop ((Int.toNat (k:Int))*1) (aM ll)) .dead))) .dead))))*3) (bf ts))) .dead))=true) (h2:(chk (.int .i64) (List.headD (List.tail (List.tail (List.drop ((0+(Int.toNat (AV.toInt (List.headD (List.drop ((Int.toNat (i:Int))*1) (AV.slX (List.headD (List.drop ((Int.toNat (k:Int))*1) (aM ll)) .dead))) .dead))))*3) (bf ts)))) .dead))=true) (h3:(decide (((0:Nat):Int)≤(AV.toInt (List.headD (List.drop ((Int.toNat (i:Int))*1) (AV.slX (List.headD (List.drop ((Int.toNat (k:Int))*1) (aM ll)) .dead))) .dead))))=true) (h4:(decide ((AV.toInt (List.headD (List.drop ((Int.toNat (i:Int))*1) (AV.slX (List.headD (List.drop ((Int.toNat (k:Int))*1) (aM ll)) .dead))) .dead))<(ts.length:Int)))=true) (h5:(chk (.int .i64) (List.headD (List.drop ((Int.toNat (i:Int))*1) (AV.slX (List.headD (List.drop ((Int.toNat (k:Int))*1) (aM ll)) .dead))) .dead))=true) (h6:(decide (((0:Nat):Int)≤(i:Int)))=true) (h7:(decide ((i:Int)<(((AV.slN (List.headD (List.drop ((Int.toNat (k:Int))*1) (aM ll)) .dead)):Nat):Int)))=true) (h8:(chk .sl (List.headD (List.drop ((Int.toNat (k:Int))*1) (aM ll)) .dead))=true) (h9:(decide (((0:Nat):Int)≤(k:Int)))=true) (h10:(decide ((k:Int)<(ns.length:Int)))=true) (h11:lit true (decide ((i:Int)<(((AV.slN (List.headD (List.drop ((Int.toNat (k:Int))*1) (aM ll)) .dead)):Nat):Int)))=true):ah prog ap [] nt (ac 2 (ae f34)) ⟨[(0,.sl (aW l) l.length nl),(1,.sl (aw ns) ns.length nn),(4,.nilS),(5,.int .i64 0),(7,.sl (aM ll) ns.length true),(10,.int .i64 (k:Int)),(9,.ref 0 0 0 ts.length),(11,.nilS),(12,.int .i64 (i:Int))],[(0,⟨(bf ts),0,false,0,3,true⟩)],.dead,[]⟩ (.normal) ⟨[(0,.sl (aW l) l.length nl),(1,.sl (aw ns) ns.length nn),(4,.nilS),(5,.int .i64 0),(7,.sl (aM ll) ns.length true),(10,.int .i64 (k:Int)),(9,.ref 0 0 0 ts.length),(11,.ref 1 0 0 1),(12,.int .i64 (IntKind.wrap .i64 ((i:Int)+((1:Nat):Int))))],[(0,⟨(bf ts),0,false,0,3,true⟩),(1,⟨[.bool (AV.toBool (List.headD (List.drop ((0+(Int.toNat (AV.toInt (List.headD (List.drop ((Int.toNat (i:Int))*1) (AV.slX (List.headD (List.drop ((Int.toNat (k:Int))*1) (aM ll)) .dead))) .dead))))*3) (bf ts)) .dead)),.int .i64 (AV.toInt (List.headD (List.tail (List.drop ((0+(Int.toNat (AV.toInt (List.headD (List.drop ((Int.toNat (i:Int))*1) (AV.slX (List.headD (List.drop ((Int.toNat (k:Int))*1) (aM ll)) .dead))) .dead))))*3) (bf ts))) .dead)),.int .i64 (AV.toInt (List.headD (List.tail (List.tail (List.drop ((0+(Int.toNat (AV.toInt (List.headD (List.drop ((Int.toNat (i:Int))*1) (AV.slX (List.headD (List.drop ((Int.toNat (k:Int))*1) (aM ll)) .dead))) .dead))))*3) (bf ts)))) .dead))],0,false,0,3,true⟩)],.dead,[]⟩:=pJ 34 [] 2 1 (.k 3 h0 (.c h1 (.c h2 (.c h3 (.c h4 (.c h5 (.c h6 (.c h7 (.c h8 (.c h9 (.c h10 (.c h11 (.c h8 (.c h9 (.c h10 .nil))))))))))))))) (.nil) hn
theorem QC {nt:Nat} (hn:71≤nt) (l:List Sg) (ns:List Nd) (nl nn:Bool) (ll:List (List Nat)) (ts own:List Ty) (i k:Nat) (h0:lit false (decide ((i:Int)<(((AV.slN (List.headD (List.drop ((Int.toNat (k:Int))*1) (aM ll)) .dead)):Nat):Int)))=true) (h1:(chk .sl (List.headD (List.drop ((Int.toNat (k:Int))*1) (aM ll)) .dead))=true) (h2:(decide (((0:Nat):Int)≤(k:Int)))=true) (h3:(decide ((k:Int)<(ns.length:Int)))=true):ah prog ap [] nt (ac 2 (ae f34)) ⟨[(0,.sl (aW l) l.length nl),(1,.sl (aw ns) ns.length nn),(4,.nilS),(5,.int .i64 0),(7,.sl (aM ll) ns.length true),(10,.int .i64 (k:Int)),(9,.ref 0 0 0 ts.length),(11,.nilS),(12,.int .i64 (i:Int))],[(0,⟨(bf ts),0,false,0,3,true⟩)],.dead,[]⟩ (.exit 2) ⟨[(0,.sl (aW l) l.length nl),(1,.sl (aw ns) ns.length nn),(4,.nilS),(5,.int .i64 0),(7,.sl (aM ll) ns.length true),(10,.int .i64 (k:Int)),(9,.ref 0 0 0 ts.length),(11,.nilS)],[(0,⟨(bf ts),0,false,0,3,true⟩)],.dead,[]⟩:=pJ 34 [] 1 0 (.c h0 (.c h1 (.c h2 (.c h3 .nil)))) (.nil) hn
theorem Qz {nt:Nat} (hn:71≤nt) (l:List Sg) (ns:List Nd) (nl nn:Bool) (ll:List (List Nat)) (ts own:List Ty) (i k:Nat) (h0:(Nat.ble (own.length+1) 1099511627776)=true) (h1:(Nat.ble (own.length*3) (List.length (bf own)))=true) (h2:(chk .bool (List.headD (List.drop ((0+(Int.toNat (AV.toInt (List.headD (List.drop ((Int.toNat (i:Int))*1) (AV.slX (List.headD (List.drop ((Int.toNat (k:Int))*1) (aM ll)) .dead))) .dead))))*3) (bf ts)) .dead))=true) (h3:(chk (.int .i64) (List.headD (List.tail (List.drop ((0+(Int.toNat (AV.toInt (List.headD (List.drop ((Int.toNat (i:Int))*1) (AV.slX (List.headD (List.drop ((Int.toNat (k:Int))*1) (aM ll)) .dead))) .dead))))*3) (bf ts))) .dead))=true) (h4:(chk (.int .i64) (List.headD (List.tail (List.tail (List.drop ((0+(Int.toNat (AV.toInt (List.headD (List.drop ((Int.toNat (i:Int))*1) (AV.slX (List.headD (List.drop ((Int.toNat (k:Int))*1) (aM ll)) .dead))) .dead))))*3) (bf ts)))) .dead))=true) (h5:(decide (((0:Nat):Int)≤(AV.toInt (List.headD (List.drop ((Int.toNat (i:Int))*1) (AV.slX (List.headD (List.drop ((Int.toNat (k:Int))*1) (aM ll)) .dead))) .dead))))=true) (h6:(decide ((AV.toInt (List.headD (List.drop ((Int.toNat (i:Int))*1) (AV.slX (List.headD (List.drop ((Int.toNat (k:Int))*1) (aM ll)) .dead))) .dead))<(ts.length:Int)))=true) (h7:(chk (.int .i64) (List.headD (List.drop ((Int.toNat (i:Int))*1) (AV.slX (List.headD (List.drop ((Int.toNat (k:Int))*1) (aM ll)) .dead))) .dead))=true) (h8:(decide (((0:Nat):Int)≤(i:Int)))=true) (h9:(decide ((i:Int)<(((AV.slN (List.headD (List.drop ((Int.toNat (k:Int))*1) (aM ll)) .dead)):Nat):Int)))=true) (h10:(chk .sl (List.headD (List.drop ((Int.toNat (k:Int))*1) (aM ll)) .dead))=true) (h11:(decide (((0:Nat):Int)≤(k:Int)))=true) (h12:(decide ((k:Int)<(ns.length:Int)))=true) (h13:lit true (decide ((i:Int)<(((AV.slN (List.headD (List.drop ((Int.toNat (k:Int))*1) (aM ll)) .dead)):Nat):Int)))=true):ah prog ap [] nt (ac 2 (ae f34)) ⟨[(0,.sl (aW l) l.length nl),(1,.sl (aw ns) ns.length nn),(4,.nilS),(5,.int .i64 0),(7,.sl (aM ll) ns.length true),(10,.int .i64 (k:Int)),(9,.ref 0 0 0 ts.length),(11,.ref 1 0 0 own.length),(12,.int .i64 (i:Int))],[(0,⟨(bf ts),0,false,0,3,true⟩),(1,⟨(bf own),0,false,0,3,true⟩)],.dead,[]⟩ (.normal) ⟨[(0,.sl (aW l) l.length nl),(1,.sl (aw ns) ns.length nn),(4,.nilS),(5,.int .i64 0),(7,.sl (aM ll) ns.length true),(10,.int .i64 (k:Int)),(9,.ref 0 0 0 ts.length),(11,.ref 1 0 0 (own.length+1)),(12,.int .i64 (IntKind.wrap .i64 ((i:Int)+((1:Nat):Int))))],[(0,⟨(bf ts),0,false,0,3,true⟩),(1,⟨((List.take (own.length*3) (bf own))++ [.bool (AV.toBool (List.headD (List.drop ((0+(Int.toNat (AV.toInt (List.headD (List.drop ((Int.toNat (i:Int))*1) (AV.slX (List.headD (List.drop ((Int.toNat (k:Int))*1) (aM ll)) .dead))) .dead))))*3) (bf ts)) .dead)),.int .i64 (AV.toInt (List.headD (List.tail (List.drop ((0+(Int.toNat (AV.toInt (List.headD (List.drop ((Int.toNat (i:Int))*1) (AV.slX (List.headD (List.drop ((Int.toNat (k:Int))*1) (aM ll)) .dead))) .dead))))*3) (bf ts))) .dead)),.int .i64 (AV.toInt (List.headD (List.tail (List.tail (List.drop ((0+(Int.toNat (AV.toInt (List.headD (List.drop ((Int.toNat (i:Int))*1) (AV.slX (List.headD (List.drop ((Int.toNat (k:Int))*1) (aM ll)) .dead))) .dead))))*3) (bf ts)))) .dead))]),0,false,0,3,true⟩)],.dead,[]⟩:=pJ 34 [] 1 1 (.k 1 h0 (.c h1 (.k 1 h2 (.c h3 (.c h4 (.c h5 (.c h6 (.c h7 (.c h8 (.c h9 (.c h10 (.c h11 (.c h12 (.c h13 (.c h10 (.c h11 (.c h12 .nil))))))))))))))))) (.nil) hn
theorem QA {nt:Nat} (hn:71≤nt) (l:List Sg) (ns:List Nd) (nl nn:Bool) (ll:List (List Nat)) (ts own:List Ty) (i k:Nat) (h0:lit false (decide ((i:Int)<(((AV.slN (List.headD (List.drop ((Int.toNat (k:Int))*1) (aM ll)) .dead)):Nat):Int)))=true) (h1:(chk .sl (List.headD (List.drop ((Int.toNat (k:Int))*1) (aM ll)) .dead))=true) (h2:(decide (((0:Nat):Int)≤(k:Int)))=true) (h3:(decide ((k:Int)<(ns.length:Int)))=true):ah prog ap [] nt (ac 2 (ae f34)) ⟨[(0,.sl (aW l) l.length nl),(1,.sl (aw ns) ns.length nn),(4,.nilS),(5,.int .i64 0),(7,.sl (aM ll) ns.length true),(10,.int .i64 (k:Int)),(9,.ref 0 0 0 ts.length),(11,.ref 1 0 0 own.length),(12,.int .i64 (i:Int))],[(0,⟨(bf ts),0,false,0,3,true⟩),(1,⟨(bf own),0,false,0,3,true⟩)],.dead,[]⟩ (.exit 2) ⟨[(0,.sl (aW l) l.length nl),(1,.sl (aw ns) ns.length nn),(4,.nilS),(5,.int .i64 0),(7,.sl (aM ll) ns.length true),(10,.int .i64 (k:Int)),(9,.ref 0 0 0 ts.length),(11,.ref 1 0 0 own.length)],[(0,⟨(bf ts),0,false,0,3,true⟩),(1,⟨(bf own),0,false,0,3,true⟩)],.dead,[]⟩:=pJ 34 [] 1 0 (.c h0 (.c h1 (.c h2 (.c h3 .nil)))) (.nil) hn
theorem QD {nt:Nat} (hn:71≤nt) (l:List Sg) (ns:List Nd) (nl nn:Bool) (ll:List (List Nat)) (ts own:List Ty) (i k:Nat) (h0:lit false (decide ((i:Int)<(((AV.slN (List.headD (List.drop ((Int.toNat (k:Int))*1) (aM ll)) .dead)):Nat):Int)))=true) (h1:(chk .sl (List.headD (List.drop ((Int.toNat (k:Int))*1) (aM ll)) .dead))=true) (h2:(decide (((0:Nat):Int)≤(k:Int)))=true) (h3:(decide ((k:Int)<(ns.length:Int)))=true):ah prog ap [] nt (ac 2 (ae f34)) ⟨[(0,.sl (aW l) l.length nl),(1,.sl (aw ns) ns.length nn),(4,.nilS),(5,.int .i64 0),(7,.sl (aM ll) ns.length true),(10,.int .i64 (k:Int)),(9,.nilS),(11,.nilS),(12,.int .i64 (i:Int))],[],.dead,[]⟩ (.exit 2) ⟨[(0,.sl (aW l) l.length nl),(1,.sl (aw ns) ns.length nn),(4,.nilS),(5,.int .i64 0),(7,.sl (aM ll) ns.length true),(10,.int .i64 (k:Int)),(9,.nilS),(11,.nilS)],[],.dead,[]⟩:=pJ 34 [] 1 0 (.c h0 (.c h1 (.c h2 (.c h3 .nil)))) (.nil) hn
theorem Dq (a:List Nat):(tE a).slX=aj a:=by cases a<;>rfl
theorem Dp (a:List Nat):(tE a).slN=a.length:=by cases a<;>rfl
theorem Dn (a:List Nat):chk .sl (tE a)=true:=by cases a<;>rfl
theorem Dr {ll:List (List Nat)} {k:Nat} (h:k<ll.length):List.headD (List.drop (Int.toNat (k:Int)*1) (aM ll)) .dead=tE (ll.getD k []):=by
 have h2:k<(aM ll).length:=by rw [nY];exact h
 rw [aD,Nat.mul_one,List.drop_eq_getElem_cons h2,List.headD_cons,List.getD_eq_getElem?_getD,List.getElem?_eq_getElem h]
 simp [aM]
theorem Ks {a:List Nat} {i:Nat} (h:i<a.length):List.headD (List.drop (Int.toNat (i:Int)*1) (aj a)) .dead= .int .i64 ((a.getD i 0:Nat):Int):=by
 have h2:i<(aj a).length:=by simp [aj];exact h
 rw [aD,Nat.mul_one,List.drop_eq_getElem_cons h2,List.headD_cons,List.getD_eq_getElem?_getD,List.getElem?_eq_getElem h]
 simp [aj]
theorem yd (t:Ty) (r:List Ty):bf (t::r)=bC t++bf r:=rfl
theorem nP (a b:List Ty):bf (a++b)=bf a++bf b:=by unfold bf;rw [List.flatMap_append]
theorem eT (l:List Ty):(bf l).length=l.length*3:=by
 induction l with
 |nil=>rfl
 |cons x r ih=>rw [yd,List.length_append,ih,List.length_cons];simp [bC];omega
theorem jC {ts:List Ty} {j:Nat} (h:j<ts.length):List.drop ((0+Int.toNat (j:Int))*3) (bf ts)=bC (ts.getD j zT)++bf (ts.drop (j+1)):=by
 have e:ts=ts.take j++(ts.getD j zT::ts.drop (j+1)):=by
  have:=List.drop_eq_getElem_cons h
  rw [List.getD_eq_getElem?_getD,List.getElem?_eq_getElem h,Option.getD_some,← this,List.take_append_drop]
 have hl:(bf (ts.take j)).length=j*3:=by rw [eT,List.length_take,Nat.min_eq_left (by omega)]
 rw [aD,Nat.zero_add]
 conv=>lhs;rw [e]
 rw [nP,← hl,List.drop_left,yd]
def bK (ts:List Ty) (a:List Nat):List Ty:=a.map fun j=>ts.getD j zT
def SL (own:List Ty):AV:=match own with| []=> .nilS|x::l=> .ref 1 0 0 (x::l).length
def SM (own:List Ty):Hp:=match own with| []=> []|x::l=> [(1,⟨bf (x::l),0,false,0,3,true⟩)]
theorem vZ {l:List Ty} (h:l ≠ []):SL l= .ref 1 0 0 l.length:=by cases l with|nil=>exact absurd rfl h|cons _ _=>rfl
theorem v_ {l:List Ty} (h:l ≠ []):SM l= [(1,⟨bf l,0,false,0,3,true⟩)]:=by cases l with|nil=>exact absurd rfl h|cons _ _=>rfl
def Rb (ts:List Ty):Hp:= [(0,⟨bf ts,0,false,0,3,true⟩)]
def Fs (l:List Sg) (ns:List Nd) (nl nn:Bool) (ll:List (List Nat)) (ts:List Ty) (k:Nat) (p:Nat × List Ty):St:=⟨[(0,.sl (aW l) l.length nl),(1,.sl (aw ns) ns.length nn),(4,.nilS),(5,.int .i64 0),(7,.sl (aM ll) ns.length true),(10,.int .i64 (k:Int)),(9,.ref 0 0 0 ts.length),(11,SL p.2),(12,.int .i64 (p.1:Int))],Rb ts++SM p.2,.dead,[]⟩
def xV (l:List Sg) (ns:List Nd) (nl nn:Bool) (ll:List (List Nat)) (ts:List Ty) (k:Nat) (own:List Ty):St:=⟨[(0,.sl (aW l) l.length nl),(1,.sl (aw ns) ns.length nn),(4,.nilS),(5,.int .i64 0),(7,.sl (aM ll) ns.length true),(10,.int .i64 (k:Int)),(9,.ref 0 0 0 ts.length),(11,SL own)],Rb ts++SM own,.dead,[]⟩
theorem qC (t:Ty):[AV.bool t.tr,.int .i64 t.m,.int .i64 t.d]=bf [t]:=by simp [bf,bC]
theorem Ii {nt:Nat} (hn:71≤nt) (l:List Sg) (ns:List Nd) (nl nn:Bool) (ll:List (List Nat)) (ts:List Ty) (k:Nat) (hk:k<ns.length) (hll:ll.length=ns.length) (ha:(ll.getD k []).length<2^38) (hj:∀ j ∈ ll.getD k [],j<ts.length):∀ (d i:Nat) (own:List Ty),i+d=(ll.getD k []).length→own.length≤i→aA prog ap [] nt (ac 2 (ae f34)) (fun _=> .exit 2) (Fs l ns nl nn ll ts k) (xV l ns nl nn ll ts k) (i,own) (own++bK ts ((ll.getD k []).drop i)):=by
 have hhd:=Dr (ll:=ll) (k:=k) (by omega)
 have hc1:=Dn (ll.getD k [])
 have hx:=Dq (ll.getD k [])
 have hN:=Dp (ll.getD k [])
 generalize ll.getD k []=a at*
 intro d
 induction d with
 | zero=>
  intro i own hi ho
  rw [List.drop_of_length_le (by omega)]
  simp only [bK,List.map_nil,List.append_nil]
  have hi':i=a.length:=by omega
  subst hi'
  refine .done ?_
  unfold Fs xV Rb
  rcases Decidable.em (own= []) with rfl|hne
  ·have hb:=QC hn l ns nl nn ll ts [] a.length k
   rw [hhd,hN] at hb
   exact hb (by rw [aP];simp [lit]) hc1 (by simp) (by simp;omega)
  ·simp only
   rw [vZ hne,v_ hne]
   have hb:=QA hn l ns nl nn ll ts own a.length k
   rw [hhd,hN] at hb
   exact hb (by rw [aP];simp [lit]) hc1 (by simp) (by simp;omega)
 | succ d ih=>
  intro i own hi ho
  have hia:i<a.length:=by omega
  have hjm:a.getD i 0 ∈ a:=by rw [List.getD_eq_getElem?_getD,List.getElem?_eq_getElem hia];exact List.getElem_mem hia
  have hjt:=hj _ hjm
  have ho1:=Ks hia
  have htd:=jC hjt
  have hnext:=ih (i+1) (own++ [ts.getD (a.getD i 0) zT]) (by omega) (by simp;omega)
  have e:a.drop i=a.getD i 0::a.drop (i+1):=by
   rw [List.drop_eq_getElem_cons hia,List.getD_eq_getElem?_getD,List.getElem?_eq_getElem hia];rfl
  have e2:own++bK ts (a.drop i)=own++ [ts.getD (a.getD i 0) zT]++bK ts (a.drop (i+1)):=by rw [e];simp [bK]
  rw [e2]
  refine .next ?_ hnext
  have hw:IntKind.wrap .i64 ((i:Int)+((1:Nat):Int))=((i+1:Nat):Int):=by rw [bo]<;>omega
  unfold Fs Rb
  simp only
  have hne2:own++ [ts.getD (a.getD i 0) zT] ≠ []:=by simp
  rw [vZ hne2,v_ hne2]
  rcases Decidable.em (own= []) with rfl|hne
  ·have hb:=QB hn l ns nl nn ll ts [] i k
   rw [hhd,hx,hN,ho1] at hb
   simp only [AV.toInt] at hb
   rw [htd] at hb
   simp only [bC,List.cons_append,List.nil_append,List.headD_cons,List.tail_cons,AV.toBool,AV.toInt,hw] at hb
   rw [qC] at hb
   exact hb rfl rfl rfl (decide_eq_true (by omega)) (decide_eq_true (by omega)) rfl (decide_eq_true (by omega)) (decide_eq_true (by omega)) hc1 (decide_eq_true (by omega)) (decide_eq_true (by omega)) (by rw [aP];simp [lit];omega)
  ·have hb:=Qz hn l ns nl nn ll ts own i k
   have htk:List.take (own.length*3) (bf own)=bf own:=List.take_of_length_le (by rw [eT];omega)
   rw [hhd,hx,hN,ho1] at hb
   simp only [AV.toInt] at hb
   rw [htd] at hb
   simp only [bC,List.cons_append,List.nil_append,List.headD_cons,List.tail_cons,AV.toBool,AV.toInt,hw,htk] at hb
   rw [qC,← nP] at hb
   rw [vZ hne,v_ hne]
   simp only [List.length_append,List.length_singleton]
   exact hb (by simp;omega) (by rw [eT];simp) rfl rfl rfl (decide_eq_true (by omega)) (decide_eq_true (by omega)) rfl (decide_eq_true (by omega)) (decide_eq_true (by omega)) hc1 (decide_eq_true (by omega)) (decide_eq_true (by omega)) (by rw [aP];simp [lit];omega)
theorem QM {nt:Nat} (hn:71≤nt) (l:List Sg) (ns:List Nd) (nl nn:Bool) (ll:List (List Nat)) (ts own:List Ty) (k:Nat) (t:Ty) (e:Int) (x:Nd) (r:List Nd) (hdr:(List.drop ((Int.toNat (k:Int))*5) (aw ns))=fk x++aw r) (h0:lit true (!(e==((0:Nat):Int)))=true) (h1:(decide (((0:Nat):Int)≤(k:Int)))=true) (h2:(decide ((k:Int)<(ns.length:Int)))=true) (h3:lit true (decide ((k:Int)<(ns.length:Int)))=true) (l0:aC prog ap [] 71 (.block 2 (.loop (ac 2 (ae f34)))) ⟨[(0,.sl (aW l) l.length nl),(1,.sl (aw ns) ns.length nn),(4,.nilS),(5,.int .i64 0),(6,.dead),(7,.sl (aM ll) ns.length true),(9,.nilS),(10,.int .i64 (k:Int)),(11,.nilS),(12,.int .i64 0),(13,.dead),(14,.dead),(18,.dead),(28,.bool (decide ((k:Int)<(ns.length:Int)))),(37,.dead),(64,.dead)],[],.dead,[]⟩ (.normal) ⟨[(0,.sl (aW l) l.length nl),(1,.sl (aw ns) ns.length nn),(4,.nilS),(5,.int .i64 0),(7,.sl (aM ll) ns.length true),(10,.int .i64 (k:Int)),(9,.nilS),(11,.nilS)],[],.dead,[]⟩) (c0:CO 55 [.sl (aW l) l.length nl,.agg [.int .i64 x.op,.bool x.neg,.str x.num,.str x.den,.str x.name],.nilS] (.ret (.tup [.agg [.bool t.tr,.int .i64 t.m,.int .i64 t.d],.int .i64 e]))):ah prog ap [] nt (ac 0 (ae f34)) ⟨[(0,.sl (aW l) l.length nl),(1,.sl (aw ns) ns.length nn),(4,.nilS),(5,.int .i64 0),(7,.sl (aM ll) ns.length true),(9,.nilS),(10,.int .i64 (k:Int))],[],.dead,[]⟩ (.ret) ⟨[(4,.nilS),(5,.int .i64 e)],[(0,⟨[.bool t.tr,.int .i64 t.m,.int .i64 t.d],0,false,0,0,true⟩)],.dead,[]⟩:=pJ 34 [2] 2 3 (.c h0 (.k 6 h1 (.c h2 (.c h3 .nil)))) (.c c0 (.v 57 (.ppt hdr) (.l l0 .nil))) hn
theorem QN {nt:Nat} (hn:71≤nt) (l:List Sg) (ns:List Nd) (nl nn:Bool) (ll:List (List Nat)) (ts own:List Ty) (k:Nat) (t:Ty) (e:Int) (x:Nd) (r:List Nd) (hdr:(List.drop ((Int.toNat (k:Int))*5) (aw ns))=fk x++aw r) (h0:lit false (!(e==((0:Nat):Int)))=true) (h1:(decide (((0:Nat):Int)≤(k:Int)))=true) (h2:(decide ((k:Int)<(ns.length:Int)))=true) (h3:lit true (decide ((k:Int)<(ns.length:Int)))=true) (l0:aC prog ap [] 71 (.block 2 (.loop (ac 2 (ae f34)))) ⟨[(0,.sl (aW l) l.length nl),(1,.sl (aw ns) ns.length nn),(4,.nilS),(5,.int .i64 0),(6,.dead),(7,.sl (aM ll) ns.length true),(9,.nilS),(10,.int .i64 (k:Int)),(11,.nilS),(12,.int .i64 0),(13,.dead),(14,.dead),(18,.dead),(28,.bool (decide ((k:Int)<(ns.length:Int)))),(37,.dead),(64,.dead)],[],.dead,[]⟩ (.normal) ⟨[(0,.sl (aW l) l.length nl),(1,.sl (aw ns) ns.length nn),(4,.nilS),(5,.int .i64 0),(7,.sl (aM ll) ns.length true),(10,.int .i64 (k:Int)),(9,.nilS),(11,.nilS)],[],.dead,[]⟩) (c0:CO 55 [.sl (aW l) l.length nl,.agg [.int .i64 x.op,.bool x.neg,.str x.num,.str x.den,.str x.name],.nilS] (.ret (.tup [.agg [.bool t.tr,.int .i64 t.m,.int .i64 t.d],.int .i64 e]))):ah prog ap [] nt (ac 0 (ae f34)) ⟨[(0,.sl (aW l) l.length nl),(1,.sl (aw ns) ns.length nn),(4,.nilS),(5,.int .i64 0),(7,.sl (aM ll) ns.length true),(9,.nilS),(10,.int .i64 (k:Int))],[],.dead,[]⟩ (.normal) ⟨[(0,.sl (aW l) l.length nl),(1,.sl (aw ns) ns.length nn),(4,.nilS),(5,.int .i64 0),(7,.sl (aM ll) ns.length true),(9,.ref 0 0 0 1),(10,.int .i64 (IntKind.wrap .i64 ((k:Int)+((1:Nat):Int))))],[(0,⟨[.bool t.tr,.int .i64 t.m,.int .i64 t.d],0,false,0,3,true⟩),(1,⟨[.bool t.tr,.int .i64 t.m,.int .i64 t.d],0,false,0,0,true⟩)],.dead,[]⟩:=pJ 34 [2] 3 1 (.k 6 h0 (.k 6 h1 (.c h2 (.c h3 .nil)))) (.c c0 (.v 57 (.ppt hdr) (.l l0 .nil))) hn
theorem CV {nt:Nat} (hn:71≤nt) (l:List Sg) (ns:List Nd) (nl nn:Bool) (ll:List (List Nat)) (ts own:List Ty) (k:Nat) (t:Ty) (e:Int) (h0:lit false (decide ((k:Int)<(ns.length:Int)))=true):ah prog ap [] nt (ac 0 (ae f34)) ⟨[(0,.sl (aW l) l.length nl),(1,.sl (aw ns) ns.length nn),(4,.nilS),(5,.int .i64 0),(7,.sl (aM ll) ns.length true),(9,.nilS),(10,.int .i64 (k:Int))],[],.dead,[]⟩ (.exit 0) ⟨[(4,.nilS),(5,.int .i64 0),(9,.nilS)],[],.dead,[]⟩:=pJ 34 [2] 1 0 (.c h0 .nil) (.nil) hn
theorem QK {nt:Nat} (hn:71≤nt) (l:List Sg) (ns:List Nd) (nl nn:Bool) (ll:List (List Nat)) (ts own:List Ty) (k:Nat) (t:Ty) (e:Int) (x:Nd) (r:List Nd) (hdr:(List.drop ((Int.toNat (k:Int))*5) (aw ns))=fk x++aw r) (h0:lit true (!(e==((0:Nat):Int)))=true) (h1:(decide (((0:Nat):Int)≤(k:Int)))=true) (h2:(decide ((k:Int)<(ns.length:Int)))=true) (h3:lit true (decide ((k:Int)<(ns.length:Int)))=true) (l0:aC prog ap [] 71 (.block 2 (.loop (ac 2 (ae f34)))) ⟨[(0,.sl (aW l) l.length nl),(1,.sl (aw ns) ns.length nn),(4,.nilS),(5,.int .i64 0),(6,.dead),(7,.sl (aM ll) ns.length true),(9,.ref 0 0 0 ts.length),(10,.int .i64 (k:Int)),(11,.nilS),(12,.int .i64 0),(13,.dead),(14,.dead),(18,.dead),(28,.bool (decide ((k:Int)<(ns.length:Int)))),(37,.dead),(64,.dead)],[(0,⟨(bf ts),0,false,0,3,true⟩)],.dead,[]⟩ (.normal) ⟨[(0,.sl (aW l) l.length nl),(1,.sl (aw ns) ns.length nn),(4,.nilS),(5,.int .i64 0),(7,.sl (aM ll) ns.length true),(10,.int .i64 (k:Int)),(9,.ref 0 0 0 ts.length),(11,.nilS)],[(0,⟨(bf ts),0,false,0,3,true⟩)],.dead,[]⟩) (c0:CO 55 [.sl (aW l) l.length nl,.agg [.int .i64 x.op,.bool x.neg,.str x.num,.str x.den,.str x.name],.nilS] (.ret (.tup [.agg [.bool t.tr,.int .i64 t.m,.int .i64 t.d],.int .i64 e]))):ah prog ap [] nt (ac 0 (ae f34)) ⟨[(0,.sl (aW l) l.length nl),(1,.sl (aw ns) ns.length nn),(4,.nilS),(5,.int .i64 0),(7,.sl (aM ll) ns.length true),(9,.ref 0 0 0 ts.length),(10,.int .i64 (k:Int))],[(0,⟨(bf ts),0,false,0,3,true⟩)],.dead,[]⟩ (.ret) ⟨[(4,.nilS),(5,.int .i64 e)],[(0,⟨(bf ts),0,false,0,3,true⟩),(1,⟨[.bool t.tr,.int .i64 t.m,.int .i64 t.d],0,false,0,0,true⟩)],.dead,[]⟩:=pJ 34 [2] 2 3 (.c h0 (.k 6 h1 (.c h2 (.c h3 .nil)))) (.c c0 (.v 57 (.ppt hdr) (.l l0 .nil))) hn
theorem QL {nt:Nat} (hn:71≤nt) (l:List Sg) (ns:List Nd) (nl nn:Bool) (ll:List (List Nat)) (ts own:List Ty) (k:Nat) (t:Ty) (e:Int) (x:Nd) (r:List Nd) (hdr:(List.drop ((Int.toNat (k:Int))*5) (aw ns))=fk x++aw r) (h0:(Nat.ble (ts.length+1) 1099511627776)=true) (h1:(Nat.ble (ts.length*3) (List.length (bf ts)))=true) (h2:lit false (!(e==((0:Nat):Int)))=true) (h3:(decide (((0:Nat):Int)≤(k:Int)))=true) (h4:(decide ((k:Int)<(ns.length:Int)))=true) (h5:lit true (decide ((k:Int)<(ns.length:Int)))=true) (l0:aC prog ap [] 71 (.block 2 (.loop (ac 2 (ae f34)))) ⟨[(0,.sl (aW l) l.length nl),(1,.sl (aw ns) ns.length nn),(4,.nilS),(5,.int .i64 0),(6,.dead),(7,.sl (aM ll) ns.length true),(9,.ref 0 0 0 ts.length),(10,.int .i64 (k:Int)),(11,.nilS),(12,.int .i64 0),(13,.dead),(14,.dead),(18,.dead),(28,.bool (decide ((k:Int)<(ns.length:Int)))),(37,.dead),(64,.dead)],[(0,⟨(bf ts),0,false,0,3,true⟩)],.dead,[]⟩ (.normal) ⟨[(0,.sl (aW l) l.length nl),(1,.sl (aw ns) ns.length nn),(4,.nilS),(5,.int .i64 0),(7,.sl (aM ll) ns.length true),(10,.int .i64 (k:Int)),(9,.ref 0 0 0 ts.length),(11,.nilS)],[(0,⟨(bf ts),0,false,0,3,true⟩)],.dead,[]⟩) (c0:CO 55 [.sl (aW l) l.length nl,.agg [.int .i64 x.op,.bool x.neg,.str x.num,.str x.den,.str x.name],.nilS] (.ret (.tup [.agg [.bool t.tr,.int .i64 t.m,.int .i64 t.d],.int .i64 e]))):ah prog ap [] nt (ac 0 (ae f34)) ⟨[(0,.sl (aW l) l.length nl),(1,.sl (aw ns) ns.length nn),(4,.nilS),(5,.int .i64 0),(7,.sl (aM ll) ns.length true),(9,.ref 0 0 0 ts.length),(10,.int .i64 (k:Int))],[(0,⟨(bf ts),0,false,0,3,true⟩)],.dead,[]⟩ (.normal) ⟨[(0,.sl (aW l) l.length nl),(1,.sl (aw ns) ns.length nn),(4,.nilS),(5,.int .i64 0),(7,.sl (aM ll) ns.length true),(9,.ref 0 0 0 (ts.length+1)),(10,.int .i64 (IntKind.wrap .i64 ((k:Int)+((1:Nat):Int))))],[(0,⟨((List.take (ts.length*3) (bf ts))++ [.bool t.tr,.int .i64 t.m,.int .i64 t.d]),0,false,0,3,true⟩),(1,⟨[.bool t.tr,.int .i64 t.m,.int .i64 t.d],0,false,0,0,true⟩)],.dead,[]⟩:=pJ 34 [2] 2 1 (.k 1 h0 (.c h1 (.k 4 h2 (.k 6 h3 (.c h4 (.c h5 .nil)))))) (.c c0 (.v 57 (.ppt hdr) (.l l0 .nil))) hn
theorem CU {nt:Nat} (hn:71≤nt) (l:List Sg) (ns:List Nd) (nl nn:Bool) (ll:List (List Nat)) (ts own:List Ty) (k:Nat) (t:Ty) (e:Int) (h0:lit false (decide ((k:Int)<(ns.length:Int)))=true):ah prog ap [] nt (ac 0 (ae f34)) ⟨[(0,.sl (aW l) l.length nl),(1,.sl (aw ns) ns.length nn),(4,.nilS),(5,.int .i64 0),(7,.sl (aM ll) ns.length true),(9,.ref 0 0 0 ts.length),(10,.int .i64 (k:Int))],[(0,⟨(bf ts),0,false,0,3,true⟩)],.dead,[]⟩ (.exit 0) ⟨[(4,.nilS),(5,.int .i64 0),(9,.ref 0 0 0 ts.length)],[(0,⟨(bf ts),0,false,0,3,true⟩)],.dead,[]⟩:=pJ 34 [2] 1 0 (.c h0 .nil) (.nil) hn
theorem QI {nt:Nat} (hn:71≤nt) (l:List Sg) (ns:List Nd) (nl nn:Bool) (ll:List (List Nat)) (ts own:List Ty) (k:Nat) (t:Ty) (e:Int) (x:Nd) (r:List Nd) (hdr:(List.drop ((Int.toNat (k:Int))*5) (aw ns))=fk x++aw r) (h0:lit true (!(e==((0:Nat):Int)))=true) (h1:(decide (((0:Nat):Int)≤(k:Int)))=true) (h2:(decide ((k:Int)<(ns.length:Int)))=true) (h3:lit true (decide ((k:Int)<(ns.length:Int)))=true) (l0:aC prog ap [] 71 (.block 2 (.loop (ac 2 (ae f34)))) ⟨[(0,.sl (aW l) l.length nl),(1,.sl (aw ns) ns.length nn),(4,.nilS),(5,.int .i64 0),(6,.dead),(7,.sl (aM ll) ns.length true),(9,.ref 0 0 0 ts.length),(10,.int .i64 (k:Int)),(11,.nilS),(12,.int .i64 0),(13,.dead),(14,.dead),(18,.dead),(28,.bool (decide ((k:Int)<(ns.length:Int)))),(37,.dead),(64,.dead)],[(0,⟨(bf ts),0,false,0,3,true⟩)],.dead,[]⟩ (.normal) ⟨[(0,.sl (aW l) l.length nl),(1,.sl (aw ns) ns.length nn),(4,.nilS),(5,.int .i64 0),(7,.sl (aM ll) ns.length true),(10,.int .i64 (k:Int)),(9,.ref 0 0 0 ts.length),(11,.ref 1 0 0 own.length)],[(0,⟨(bf ts),0,false,0,3,true⟩),(1,⟨(bf own),0,false,0,3,true⟩)],.dead,[]⟩) (c0:CO 55 [.sl (aW l) l.length nl,.agg [.int .i64 x.op,.bool x.neg,.str x.num,.str x.den,.str x.name],.sl (List.take (own.length*3) (bf own)) own.length true] (.ret (.tup [.agg [.bool t.tr,.int .i64 t.m,.int .i64 t.d],.int .i64 e]))):ah prog ap [] nt (ac 0 (ae f34)) ⟨[(0,.sl (aW l) l.length nl),(1,.sl (aw ns) ns.length nn),(4,.nilS),(5,.int .i64 0),(7,.sl (aM ll) ns.length true),(9,.ref 0 0 0 ts.length),(10,.int .i64 (k:Int))],[(0,⟨(bf ts),0,false,0,3,true⟩)],.dead,[]⟩ (.ret) ⟨[(4,.nilS),(5,.int .i64 e)],[(0,⟨(bf ts),0,false,0,3,true⟩),(1,⟨(bf own),0,true,(List.length (bf own)),3,true⟩),(2,⟨[.bool t.tr,.int .i64 t.m,.int .i64 t.d],0,false,0,0,true⟩)],.dead,[]⟩:=pJ 34 [2] 2 3 (.c h0 (.k 6 h1 (.c h2 (.c h3 .nil)))) (.c c0 (.v 57 (.ppt hdr) (.l l0 .nil))) hn
theorem QJ {nt:Nat} (hn:71≤nt) (l:List Sg) (ns:List Nd) (nl nn:Bool) (ll:List (List Nat)) (ts own:List Ty) (k:Nat) (t:Ty) (e:Int) (x:Nd) (r:List Nd) (hdr:(List.drop ((Int.toNat (k:Int))*5) (aw ns))=fk x++aw r) (h0:(Nat.ble (ts.length+1) 1099511627776)=true) (h1:(Nat.ble (ts.length*3) (List.length (bf ts)))=true) (h2:lit false (!(e==((0:Nat):Int)))=true) (h3:(decide (((0:Nat):Int)≤(k:Int)))=true) (h4:(decide ((k:Int)<(ns.length:Int)))=true) (h5:lit true (decide ((k:Int)<(ns.length:Int)))=true) (l0:aC prog ap [] 71 (.block 2 (.loop (ac 2 (ae f34)))) ⟨[(0,.sl (aW l) l.length nl),(1,.sl (aw ns) ns.length nn),(4,.nilS),(5,.int .i64 0),(6,.dead),(7,.sl (aM ll) ns.length true),(9,.ref 0 0 0 ts.length),(10,.int .i64 (k:Int)),(11,.nilS),(12,.int .i64 0),(13,.dead),(14,.dead),(18,.dead),(28,.bool (decide ((k:Int)<(ns.length:Int)))),(37,.dead),(64,.dead)],[(0,⟨(bf ts),0,false,0,3,true⟩)],.dead,[]⟩ (.normal) ⟨[(0,.sl (aW l) l.length nl),(1,.sl (aw ns) ns.length nn),(4,.nilS),(5,.int .i64 0),(7,.sl (aM ll) ns.length true),(10,.int .i64 (k:Int)),(9,.ref 0 0 0 ts.length),(11,.ref 1 0 0 own.length)],[(0,⟨(bf ts),0,false,0,3,true⟩),(1,⟨(bf own),0,false,0,3,true⟩)],.dead,[]⟩) (c0:CO 55 [.sl (aW l) l.length nl,.agg [.int .i64 x.op,.bool x.neg,.str x.num,.str x.den,.str x.name],.sl (List.take (own.length*3) (bf own)) own.length true] (.ret (.tup [.agg [.bool t.tr,.int .i64 t.m,.int .i64 t.d],.int .i64 e]))):ah prog ap [] nt (ac 0 (ae f34)) ⟨[(0,.sl (aW l) l.length nl),(1,.sl (aw ns) ns.length nn),(4,.nilS),(5,.int .i64 0),(7,.sl (aM ll) ns.length true),(9,.ref 0 0 0 ts.length),(10,.int .i64 (k:Int))],[(0,⟨(bf ts),0,false,0,3,true⟩)],.dead,[]⟩ (.normal) ⟨[(0,.sl (aW l) l.length nl),(1,.sl (aw ns) ns.length nn),(4,.nilS),(5,.int .i64 0),(7,.sl (aM ll) ns.length true),(9,.ref 0 0 0 (ts.length+1)),(10,.int .i64 (IntKind.wrap .i64 ((k:Int)+((1:Nat):Int))))],[(0,⟨((List.take (ts.length*3) (bf ts))++ [.bool t.tr,.int .i64 t.m,.int .i64 t.d]),0,false,0,3,true⟩),(1,⟨(bf own),0,true,(List.length (bf own)),3,true⟩),(2,⟨[.bool t.tr,.int .i64 t.m,.int .i64 t.d],0,false,0,0,true⟩)],.dead,[]⟩:=pJ 34 [2] 2 1 (.k 1 h0 (.c h1 (.k 4 h2 (.k 6 h3 (.c h4 (.c h5 .nil)))))) (.c c0 (.v 57 (.ppt hdr) (.l l0 .nil))) hn
def SS (ts:List Ty):AV:=match ts with| []=> .nilS|x::l=> .ref 0 0 0 (x::l).length
def Rc (ts:List Ty):Hp:=match ts with| []=> []|x::l=> [(0,⟨bf (x::l),0,false,0,3,true⟩)]
theorem wg {l:List Ty} (h:l ≠ []):SS l= .ref 0 0 0 l.length:=by cases l with|nil=>exact absurd rfl h|cons _ _=>rfl
theorem wh {l:List Ty} (h:l ≠ []):Rc l= [(0,⟨bf l,0,false,0,3,true⟩)]:=by cases l with|nil=>exact absurd rfl h|cons _ _=>rfl
def qd (l:List Sg) (ns:List Nd) (nl nn:Bool) (ll:List (List Nat)) (p:Nat × List Ty):St:=⟨[(0,.sl (aW l) l.length nl),(1,.sl (aw ns) ns.length nn),(4,.nilS),(5,.int .i64 0),(7,.sl (aM ll) ns.length true),(9,SS p.2),(10,.int .i64 (p.1:Int))],Rc p.2,.dead,[]⟩
def sN:List Ty ⊕ Int→St
 | .inl ts=> ⟨[(4,.nilS),(5,.int .i64 0),(9,SS ts)],Rc ts,.dead,[]⟩
 | .inr e=> ⟨[(4,.nilS),(5,.int .i64 e)],[],.dead,[]⟩
def ST:List Ty ⊕ Int→bk
 | .inl _=> .exit 0
 | .inr _=> .ret
def QU (l:List Sg) (ns:List Nd) (nl nn:Bool) (ll:List (List Nat)) (k:Nat):St:=⟨[(0,.sl (aW l) l.length nl),(1,.sl (aw ns) ns.length nn),(4,.nilS),(5,.int .i64 0),(7,.sl (aM ll) ns.length true),(10,.int .i64 (k:Int)),(9,.nilS),(11,.nilS),(12,.int .i64 ((0:Nat):Int))],[],.dead,[]⟩
def I7 (l:List Sg) (ns:List Nd) (nl nn:Bool) (ll:List (List Nat)) (k:Nat):St:=⟨[(0,.sl (aW l) l.length nl),(1,.sl (aw ns) ns.length nn),(4,.nilS),(5,.int .i64 0),(7,.sl (aM ll) ns.length true),(10,.int .i64 (k:Int)),(9,.nilS),(11,.nilS)],[],.dead,[]⟩
theorem Ft {nt:Nat} (hn:71≤nt) (l:List Sg) (ns p r:List Nd) (nl nn:Bool) (ll:List (List Nat)) (x:Nd) (ts:List Ty) (hns:ns=p++x::r) (hle:ns.length<2^38) (hlg:l.length<2^40) (hll:ll.length=ns.length) (hts:ts.length=p.length) (h1:1≤x.op) (h2:x.op≤24) (ha:(ll.getD p.length []).length=bB x.op) (hj:∀ j ∈ ll.getD p.length [],j<p.length):
  ((dG l x (bK ts (ll.getD p.length []))).2=0→ah prog ap [] nt (ac 0 (ae f34)) (qd l ns nl nn ll (p.length,ts)) .normal (qd l ns nl nn ll (p.length+1,ts++ [(dG l x (bK ts (ll.getD p.length []))).1])))∧
  (¬ (dG l x (bK ts (ll.getD p.length []))).2=0→ah prog ap [] nt (ac 0 (ae f34)) (qd l ns nl nn ll (p.length,ts)) .ret (sN (.inr (dG l x (bK ts (ll.getD p.length []))).2))):=by
 have hlen:p.length+(r.length+1)=ns.length:=by rw [hns];simp
 have hdr:List.drop (Int.toNat (p.length:Int)*5) (aw ns)=fk x++aw r:=by rw [hns];exact jP rfl
 have har:=qR x.op
 have hloop:=fun nt (hn:71≤nt)=>Ii hn l ns nl nn ll ts p.length (by omega) hll (by omega) (by rw [hts];exact hj) (ll.getD p.length []).length 0 [] (by omega) (by simp)
 have hc:=fun b=>H4 l nl b x (bK ts (ll.getD p.length [])) hlg h1 h2 (by rw [bK,List.length_map];exact ha)
 rw [List.nil_append,List.drop_zero] at hloop
 have hown0:ts= []→bK ts (ll.getD p.length [])= []∧ll.getD p.length []= []:=by
  intro h
  have h3:ll.getD p.length []= []:=by
   cases hh:ll.getD p.length [] with
   |nil=>rfl
   |cons j _=>have h4:=hj j (by rw [hh];simp);rw [h] at hts;simp at hts;omega
  exact ⟨by rw [h3];rfl,h3⟩
 generalize hown:bK ts (ll.getD p.length [])=own at*
 have hol:own.length=bB x.op:=by rw [← hown];simp [bK];exact ha
 have hcz:=hc
 generalize dG l x own=q at*
 obtain ⟨t,e⟩:=q
 have hw:IntKind.wrap .i64 ((p.length:Int)+((1:Nat):Int))=((p.length+1:Nat):Int):=by rw [bo]<;>omega
 have g0:decide (((0:Nat):Int)≤(p.length:Int))=true:=decide_eq_true (by omega)
 have g1:decide ((p.length:Int)<(ns.length:Int))=true:=decide_eq_true (by omega)
 have g2:lit true (decide ((p.length:Int)<(ns.length:Int)))=true:=by rw [g1];rfl
 rcases Decidable.em (ts= []) with hT|hT
 ·obtain ⟨ho,hA⟩:=hown0 hT
  subst hT
  subst ho
  have k0:=(hc false).args (bi.cons (bp.refl _) (bi.cons (bp.refl _) (bi.cons (bp.nilS false rfl) bi.nil)))
  have hhd:=Dr (ll:=ll) (k:=p.length) (by omega)
  rw [hA] at hhd
  have hz:=fun nt (hn:71≤nt)=>QD hn l ns nl nn ll [] [] 0 p.length
  rw [hhd] at hz
  have l1:=aA.blk (id:=2) (e:=fun _:Unit=>bk.exit 2) (st:=fun _:Unit=>QU l ns nl nn ll p.length) (out:=fun _:Unit=>I7 l ns nl nn ll p.length) (a:=()) (r:=()) (s:=QU l ns nl nn ll p.length) (s':=I7 l ns nl nn ll p.length) (e':= .normal) (fun nt hn=> .done (hz nt hn rfl rfl g0 g1)) (by simp) rfl (aF.refl _) (aF.refl _)
  constructor
  ·intro he
   obtain rfl:e=0:=he
   have hb:=QN hn l ns nl nn ll [] [] p.length t 0 x r hdr rfl g0 g1 g2 (fun nt hnt=>(l1 nt hnt).weak (aF.of ⟨rfl,rfl,rfl,rfl,rfl,rfl,rfl,rfl,rfl,trivial⟩) (aF.of ⟨rfl,rfl,rfl,rfl,rfl,rfl,rfl,rfl,trivial⟩)) k0
   rw [hw] at hb
   exact hb.forget 1 ⟨bC t,0,false,0,0,true⟩ (en':=(qd l ns nl nn ll (p.length+1,[t])).env) (hp':=Rc [t]) (by intro v h;cases h) (by decide) rfl ⟨Fz.same rfl,Fz.same rfl,Fz.same rfl,Fz.same rfl,Fz.same rfl,Fz.same rfl,Fz.same rfl,trivial⟩ ⟨rfl,qf.same rfl,by decide,rfl⟩
  ·intro he
   have hb:=QM hn l ns nl nn ll [] [] p.length t e x r hdr (by simpa [lit] using he) g0 g1 g2 (fun nt hnt=>(l1 nt hnt).weak (aF.of ⟨rfl,rfl,rfl,rfl,rfl,rfl,rfl,rfl,rfl,trivial⟩) (aF.of ⟨rfl,rfl,rfl,rfl,rfl,rfl,rfl,rfl,trivial⟩)) k0
   exact hb.forget 0 ⟨bC t,0,false,0,0,true⟩ (en':= [(4,.nilS),(5,.int .i64 e)]) (hp':= []) (by intro v h;cases h) (by decide) rfl ⟨Fz.same rfl,Fz.same rfl,trivial⟩ rfl
 ·have hS:qd l ns nl nn ll (p.length,ts)=⟨[(0,.sl (aW l) l.length nl),(1,.sl (aw ns) ns.length nn),(4,.nilS),(5,.int .i64 0),(7,.sl (aM ll) ns.length true),(9,.ref 0 0 0 ts.length),(10,.int .i64 (p.length:Int))],[(0,⟨bf ts,0,false,0,3,true⟩)],.dead,[]⟩:=by
   unfold qd;simp only;rw [wg hT,wh hT]
  have hne2:ts++ [t] ≠ []:=by simp
  have hS2:qd l ns nl nn ll (p.length+1,ts++ [t])=⟨[(0,.sl (aW l) l.length nl),(1,.sl (aw ns) ns.length nn),(4,.nilS),(5,.int .i64 0),(7,.sl (aM ll) ns.length true),(9,.ref 0 0 0 (ts.length+1)),(10,.int .i64 ((p.length+1:Nat):Int))],[(0,⟨bf (ts++ [t]),0,false,0,3,true⟩)],.dead,[]⟩:=by
   unfold qd;simp only;rw [wg hne2,wh hne2,List.length_append,List.length_singleton]
  have htk:List.take (ts.length*3) (bf ts)=bf ts:=List.take_of_length_le (by rw [eT];omega)
  have f0:Nat.ble (ts.length+1) 1099511627776=true:=by simp;omega
  have f1:Nat.ble (ts.length*3) (List.length (bf ts))=true:=by rw [eT];simp
  rw [hS]
  rcases Decidable.em (own= []) with ho|ho
  ·subst ho
   have k0:=(hc false).args (bi.cons (bp.refl _) (bi.cons (bp.refl _) (bi.cons (bp.nilS false rfl) bi.nil)))
   have l0:=aA.blk (id:=2) (s:=Fs l ns nl nn ll ts p.length (0,[])) (s':=xV l ns nl nn ll ts p.length []) hloop (by simp) rfl (aF.refl _) (aF.refl _)
   constructor
   ·intro he
    obtain rfl:e=0:=he
    have hb:=QL hn l ns nl nn ll ts [] p.length t 0 x r hdr f0 f1 rfl g0 g1 g2 (fun nt hnt=>(l0 nt hnt).weak (aF.of ⟨rfl,rfl,rfl,rfl,rfl,rfl,rfl,rfl,rfl,trivial⟩) (aF.of ⟨rfl,rfl,rfl,rfl,rfl,rfl,rfl,rfl,trivial⟩)) k0
    rw [hw,htk,qC,← nP] at hb
    rw [hS2]
    exact hb.forget 1 ⟨bC t,0,false,0,0,true⟩ (by intro v h;cases h) (by decide) rfl ⟨Fz.same rfl,Fz.same rfl,Fz.same rfl,Fz.same rfl,Fz.same rfl,Fz.same rfl,Fz.same rfl,trivial⟩ ⟨rfl,qf.same rfl,by decide,rfl⟩
   ·intro he
    have hb:=QK hn l ns nl nn ll ts [] p.length t e x r hdr (by simpa [lit] using he) g0 g1 g2 (fun nt hnt=>(l0 nt hnt).weak (aF.of ⟨rfl,rfl,rfl,rfl,rfl,rfl,rfl,rfl,rfl,trivial⟩) (aF.of ⟨rfl,rfl,rfl,rfl,rfl,rfl,rfl,rfl,trivial⟩)) k0
    have hb:=hb.forget 1 ⟨bC t,0,false,0,0,true⟩ (en':= [(4,.nilS),(5,.int .i64 e)]) (hp':= [(0,⟨bf ts,0,false,0,3,true⟩)]) (by intro v h;cases h) (by decide) rfl ⟨Fz.same rfl,Fz.same rfl,trivial⟩ ⟨rfl,qf.same rfl,by decide,rfl⟩
    exact hb.forget 0 ⟨bf ts,0,false,0,3,true⟩ (en':= [(4,.nilS),(5,.int .i64 e)]) (hp':= []) (by intro v h;cases h) (by decide) rfl ⟨Fz.same rfl,Fz.same rfl,trivial⟩ rfl
  ·have hto:List.take (own.length*3) (bf own)=bf own:=List.take_of_length_le (by rw [eT];omega)
   have k0:=hc true
   rw [← hto] at k0
   have l0:=aA.blk (id:=2) (s:=Fs l ns nl nn ll ts p.length (0,[])) (s':=xV l ns nl nn ll ts p.length own) hloop (by simp) rfl (aF.refl _) (aF.refl _)
   unfold xV at l0
   rw [vZ ho,v_ ho] at l0
   constructor
   ·intro he
    obtain rfl:e=0:=he
    have hb:=QJ hn l ns nl nn ll ts own p.length t 0 x r hdr f0 f1 rfl g0 g1 g2 (fun nt hnt=>(l0 nt hnt).weak (aF.of ⟨rfl,rfl,rfl,rfl,rfl,rfl,rfl,rfl,rfl,trivial⟩) (aF.of ⟨rfl,rfl,rfl,rfl,rfl,rfl,rfl,rfl,trivial⟩)) k0
    rw [hw,htk,qC,← nP] at hb
    rw [hS2]
    have hb:=hb.forget 2 ⟨bC t,0,false,0,0,true⟩ (en':= [(0,.sl (aW l) l.length nl),(1,.sl (aw ns) ns.length nn),(4,.nilS),(5,.int .i64 0),(7,.sl (aM ll) ns.length true),(9,.ref 0 0 0 (ts.length+1)),(10,.int .i64 ((p.length+1:Nat):Int))]) (hp':= [(0,⟨bf (ts++ [t]),0,false,0,3,true⟩),(1,⟨bf own,0,true,(bf own).length,3,true⟩)]) (by intro v h;cases h) (by decide) rfl ⟨Fz.same rfl,Fz.same rfl,Fz.same rfl,Fz.same rfl,Fz.same rfl,Fz.same rfl,Fz.same rfl,trivial⟩ ⟨rfl,qf.same rfl,by decide,rfl,qf.same rfl,by decide,rfl⟩
    exact hb.forget 1 ⟨bf own,0,true,(bf own).length,3,true⟩ (by intro v h;cases h) (by decide) rfl ⟨Fz.same rfl,Fz.same rfl,Fz.same rfl,Fz.same rfl,Fz.same rfl,Fz.same rfl,Fz.same rfl,trivial⟩ ⟨rfl,qf.same rfl,by decide,rfl⟩
   ·intro he
    have hb:=QI hn l ns nl nn ll ts own p.length t e x r hdr (by simpa [lit] using he) g0 g1 g2 (fun nt hnt=>(l0 nt hnt).weak (aF.of ⟨rfl,rfl,rfl,rfl,rfl,rfl,rfl,rfl,rfl,trivial⟩) (aF.of ⟨rfl,rfl,rfl,rfl,rfl,rfl,rfl,rfl,trivial⟩)) k0
    have hb:=hb.forget 2 ⟨bC t,0,false,0,0,true⟩ (en':= [(4,.nilS),(5,.int .i64 e)]) (hp':= [(0,⟨bf ts,0,false,0,3,true⟩),(1,⟨bf own,0,true,(bf own).length,3,true⟩)]) (by intro v h;cases h) (by decide) rfl ⟨Fz.same rfl,Fz.same rfl,trivial⟩ ⟨rfl,qf.same rfl,by decide,rfl,qf.same rfl,by decide,rfl⟩
    have hb:=hb.forget 1 ⟨bf own,0,true,(bf own).length,3,true⟩ (en':= [(4,.nilS),(5,.int .i64 e)]) (hp':= [(0,⟨bf ts,0,false,0,3,true⟩)]) (by intro v h;cases h) (by decide) rfl ⟨Fz.same rfl,Fz.same rfl,trivial⟩ ⟨rfl,qf.same rfl,by decide,rfl⟩
    exact hb.forget 0 ⟨bf ts,0,false,0,3,true⟩ (en':= [(4,.nilS),(5,.int .i64 e)]) (hp':= []) (by intro v h;cases h) (by decide) rfl ⟨Fz.same rfl,Fz.same rfl,trivial⟩ rfl
def dT (l:List Sg):List Nd→Nat→List Nat→List Ty→List Ty ⊕ Int
 | [],_,_,ts=> .inl ts
 |x::r,k,st,ts=>if (dG l x (bK ts (st.drop (st.length - bB x.op)))).2=0 then dT l r (k+1) (st.take (st.length - bB x.op)++ [k]) (ts++ [(dG l x (bK ts (st.drop (st.length - bB x.op)))).1]) else .inr (dG l x (bK ts (st.drop (st.length - bB x.op)))).2
def eL (l:List Sg) (ns:List Nd):List Ty ⊕ Int:=if dX ns=0 then dT l ns 0 [] [] else .inr (dX ns)
theorem oQ (l:List Sg):∀ (r:List Nd) (k:Nat) (st:List Nat) (ts ts2:List Ty),dT l r k st ts= .inl ts2→ts2.length=ts.length+r.length:=by
 intro r
 induction r with
 |nil=>intro k st ts ts2 h;simp only [dT,Sum.inl.injEq] at h;rw [h];simp
 |cons x r ih=>
  intro k st ts ts2 h
  simp only [dT] at h
  split at h
  ·have h2:=ih _ _ _ _ h;rw [h2];simp;omega
  ·cases h
theorem Iq {nt:Nat} (hn:71≤nt) (l:List Sg) (ns:List Nd) (nl nn:Bool) (hle:ns.length<2^38) (hlg:l.length<2^40) (e0:Nat):∀ (r p:List Nd) (st:List Nat) (done:List (List Nat)) (ts:List Ty),p++r=ns→fB r st.length= .inl e0→(∀ j ∈ st,j<p.length)→done.length=p.length→ts.length=p.length→bE ns=done++jf r p.length st→aA prog ap [] nt (ac 0 (ae f34)) ST (qd l ns nl nn (bE ns)) sN (p.length,ts) (dT l r p.length st ts):=by
 intro r
 induction r with
 | nil=>
  intro p st done ts h hc hst hd hts ha
  have hp:p.length=ns.length:=by rw [← h];simp
  simp only [dT]
  refine .done ?_
  have hq:lit false (decide ((p.length:Int)<(ns.length:Int)))=true:=by rw [hp,aP];simp [lit]
  rcases Decidable.em (ts= []) with hT|hT
  ·subst hT
   exact CV hn l ns nl nn (bE ns) [] [] p.length ⟨false,0,0⟩ 0 hq
  ·unfold qd sN
   simp only
   rw [wg hT,wh hT]
   exact CU hn l ns nl nn (bE ns) ts [] p.length ⟨false,0,0⟩ 0 hq
 | cons x r ih=>
  intro p st done ts h hc hst hd hts ha
  obtain ⟨⟨h1,h2⟩,har,hc2⟩:=qj hc
  have hst2:(st.take (st.length - bB x.op)++ [p.length]).length=st.length - bB x.op+1:=by
   rw [List.length_append,List.length_take,List.length_singleton,Nat.min_eq_left (by omega)]
  have hget:(bE ns).getD p.length []=st.drop (st.length - bB x.op):=by
   rw [ha]
   simp only [jf]
   rw [← hd,List.getD_eq_getElem?_getD,List.getElem?_append_right (Nat.le_refl _),Nat.sub_self]
   rfl
  have hlen:(bE ns).length=ns.length:=by unfold bE;rw [kx]
  obtain ⟨s1,s2⟩:=Ft hn l ns p r nl nn (bE ns) x ts h.symm hle hlg hlen hts h1 h2 (by rw [hget,List.length_drop];omega) (by rw [hget];exact fun j hj=>hst j (List.mem_of_mem_drop hj))
  rw [hget] at s1 s2
  simp only [dT]
  split
  ·rename_i he
   have hnext:=ih (p++ [x]) (st.take (st.length - bB x.op)++ [p.length]) (done++ [st.drop (st.length - bB x.op)]) (ts++ [(dG l x (bK ts (st.drop (st.length - bB x.op)))).1]) (by simp [h]) (by rw [hst2];exact hc2) (by
    intro j hj
    rcases List.mem_append.mp hj with hj|hj
    ·have:=hst j (List.mem_of_mem_take hj);simp;omega
    ·simp at hj;simp;omega) (by simp [hd]) (by simp [hts]) (by rw [ha];simp only [jf,List.length_append,List.length_singleton,List.append_assoc,List.singleton_append])
   rw [List.length_append,List.length_singleton] at hnext
   exact .next (s1 he) hnext
  ·rename_i he
   exact .done (s2 he)
theorem QS (l:List Sg) (ns:List Nd) (nl nn:Bool) (ll:List (List Nat)) (ts:List Ty) (w e:Int) (h0:lit true (!(w==((0:Nat):Int)))=true) (c0:CO 47 [.sl (aw ns) ns.length nn] (.ret (.int .i64 w))):CO 34 [.sl (aW l) l.length nl,.sl (aw ns) ns.length nn] (.ret (.tup [.nilS,.int .i64 w])):=pK [0] 1 1 (.c h0 .nil) (.c c0 .nil)
theorem QT (l:List Sg) (ns:List Nd) (nl nn:Bool) (ll:List (List Nat)) (ts:List Ty) (w e:Int) (h0:lit false (!(w==((0:Nat):Int)))=true) (c0:CO 47 [.sl (aw ns) ns.length nn] (.ret (.int .i64 w))) (c1:CO 29 [.sl (aw ns) ns.length nn] (.ret (.tup [.sl (aM ll) ns.length true,.bool true]))) (l0:aC prog ap [] 71 (.block 0 (.loop (ac 0 (ae f34)))) ⟨[(0,.sl (aW l) l.length nl),(1,.sl (aw ns) ns.length nn),(4,.nilS),(5,.int .i64 0),(6,.int .i64 w),(7,.sl (aM ll) ns.length true),(9,.nilS),(10,.int .i64 0),(11,.dead),(12,.dead),(13,.dead),(14,.dead),(18,.bool (!(w==((0:Nat):Int)))),(28,.dead),(37,.dead),(64,.dead)],[],.dead,[]⟩ (.normal) ⟨[(4,.nilS),(5,.int .i64 0),(9,.ref 0 0 0 ts.length)],[(0,⟨(bf ts),0,false,0,3,true⟩)],.dead,[]⟩):CO 34 [.sl (aW l) l.length nl,.sl (aw ns) ns.length nn] (.ret (.tup [.own (List.take (ts.length*3) (bf ts)) ts.length 3,.int .i64 0])):=pK [0] 1 0 (.c h0 .nil) (.l l0 (.c c1 (.c c0 .nil)))
theorem QR (l:List Sg) (ns:List Nd) (nl nn:Bool) (ll:List (List Nat)) (ts:List Ty) (w e:Int) (h0:lit false (!(w==((0:Nat):Int)))=true) (c0:CO 47 [.sl (aw ns) ns.length nn] (.ret (.int .i64 w))) (c1:CO 29 [.sl (aw ns) ns.length nn] (.ret (.tup [.sl (aM ll) ns.length true,.bool true]))) (l0:aC prog ap [] 71 (.block 0 (.loop (ac 0 (ae f34)))) ⟨[(0,.sl (aW l) l.length nl),(1,.sl (aw ns) ns.length nn),(4,.nilS),(5,.int .i64 0),(6,.int .i64 w),(7,.sl (aM ll) ns.length true),(9,.nilS),(10,.int .i64 0),(11,.dead),(12,.dead),(13,.dead),(14,.dead),(18,.bool (!(w==((0:Nat):Int)))),(28,.dead),(37,.dead),(64,.dead)],[],.dead,[]⟩ (.ret) ⟨[(4,.nilS),(5,.int .i64 e)],[],.dead,[]⟩):CO 34 [.sl (aW l) l.length nl,.sl (aw ns) ns.length nn] (.ret (.tup [.nilS,.int .i64 e])):=pK [0] 1 0 (.c h0 .nil) (.l l0 (.c c1 (.c c0 .nil)))
def FD:List Ty ⊕ Int→AV
 | .inl ts=> .tup [.sl (bf ts) ts.length true,.int .i64 0]
 | .inr e=> .tup [.nilS,.int .i64 e]
theorem ye (l:List Sg) (ns:List Nd) (nl nn:Bool) (hlg:l.length<2^40) (hsm:∀ x ∈ ns,x.sm):CO 34 [.sl (aW l) l.length nl,.sl (aw ns) ns.length nn] (.ret (FD (eL l ns))):=by
 have hck:=uI ns nn hsm
 unfold eL
 by_cases hc:dX ns=0
 ·rw [if_pos hc]
  have ha:=EL ns nn hsm hc
  obtain ⟨h60,hin⟩:=gX hc
  have h0:0<ns.length:=by
   cases ns with
   |nil=>simp [fB] at hin
   |cons _ _=>simp
  rw [hc] at hck
  have hloop:=fun nt (hn:71≤nt)=>Iq hn l ns nl nn (by omega) hlg 1 ns [] [] [] [] rfl hin (by simp) rfl rfl rfl
  cases hr:dT l ns 0 [] [] with
  |inl ts=>
   have hl:=oQ l ns 0 [] [] ts hr
   have hT:ts ≠ []:=by intro h;subst h;simp at hl;omega
   have hlt:ts.length=ns.length:=by simpa using hl
   rw [List.length_nil,hr] at hloop
   have htk:List.take (ts.length*3) (bf ts)=bf ts:=List.take_of_length_le (by rw [eT];omega)
   have l0:=aA.blk (id:=0) (e':= .normal) (s:=qd l ns nl nn (bE ns) (0,[])) (s':=sN (.inl ts)) hloop (by simp [ST]) rfl (aF.refl _) (aF.refl _)
   simp only [sN] at l0
   rw [wg hT,wh hT] at l0
   have hb:=QT l ns nl nn (bE ns) ts 0 0
   have hb:=hb rfl hck ha (fun nt hnt=>(l0 nt hnt).weak (aF.of ⟨rfl,rfl,rfl,rfl,rfl,rfl,rfl,trivial⟩) (aF.of ⟨rfl,rfl,rfl,trivial⟩))
   have hb:=hb.thaw (by simp)
   simp only [jz,List.map_cons,List.map_nil,thaw,htk] at hb
   exact hb
  |inr e=>
   rw [List.length_nil,hr] at hloop
   have l0:=aA.blk (id:=0) (e':= .ret) (s:=qd l ns nl nn (bE ns) (0,[])) (s':=sN (.inr e)) hloop (by simp [ST]) rfl (aF.refl _) (aF.refl _)
   simp only [sN] at l0
   exact QR l ns nl nn (bE ns) [] 0 e rfl hck ha (fun nt hnt=>(l0 nt hnt).weak (aF.of ⟨rfl,rfl,rfl,rfl,rfl,rfl,rfl,trivial⟩) (aF.of ⟨rfl,rfl,trivial⟩))
 ·rw [if_neg hc]
  exact QS l ns nl nn (bE ns) [] (dX ns) 0 (by simpa [lit] using hc) hck
theorem QP (l:List Sg) (ns:List Nd) (nl nn:Bool) (ts:List Ty) (e:Int) (h0:(chk .bool (List.headD (List.drop ((Int.toNat (IntKind.wrap .i64 ((ts.length:Int) - ((1:Nat):Int))))*3) (bf ts)) .dead))=true) (h1:(chk (.int .i64) (List.headD (List.tail (List.drop ((Int.toNat (IntKind.wrap .i64 ((ts.length:Int) - ((1:Nat):Int))))*3) (bf ts))) .dead))=true) (h2:(chk (.int .i64) (List.headD (List.tail (List.tail (List.drop ((Int.toNat (IntKind.wrap .i64 ((ts.length:Int) - ((1:Nat):Int))))*3) (bf ts)))) .dead))=true) (h3:(decide (((0:Nat):Int)≤(IntKind.wrap .i64 ((ts.length:Int) - ((1:Nat):Int)))))=true) (h4:(decide ((IntKind.wrap .i64 ((ts.length:Int) - ((1:Nat):Int)))<(ts.length:Int)))=true) (c0:CO 34 [.sl (aW l) l.length nl,.sl (aw ns) ns.length nn] (.ret (.tup [.sl (bf ts) ts.length true,.int .i64 0]))):CO 36 [.sl (aW l) l.length nl,.sl (aw ns) ns.length nn] (.ret (.tup [.agg [.bool (AV.toBool (List.headD (List.drop ((Int.toNat (IntKind.wrap .i64 ((ts.length:Int) - ((1:Nat):Int))))*3) (bf ts)) .dead)),.int .i64 (AV.toInt (List.headD (List.tail (List.drop ((Int.toNat (IntKind.wrap .i64 ((ts.length:Int) - ((1:Nat):Int))))*3) (bf ts))) .dead)),.int .i64 (AV.toInt (List.headD (List.tail (List.tail (List.drop ((Int.toNat (IntKind.wrap .i64 ((ts.length:Int) - ((1:Nat):Int))))*3) (bf ts)))) .dead))],.int .i64 0])):=pK [] 1 0 (.k 4 h0 (.c h1 (.c h2 (.c h3 (.c h4 (.n 1 .nil)))))) (.c c0 .nil)
theorem QO (l:List Sg) (ns:List Nd) (nl nn:Bool) (ts:List Ty) (e:Int) (h0:lit true (!(e==((0:Nat):Int)))=true) (c0:CO 34 [.sl (aW l) l.length nl,.sl (aw ns) ns.length nn] (.ret (.tup [.nilS,.int .i64 e]))):CO 36 [.sl (aW l) l.length nl,.sl (aw ns) ns.length nn] (.ret (.tup [.agg [.bool false,.int .i64 0,.int .i64 0],.int .i64 e])):=pK [] 1 1 (.k 4 h0 .nil) (.c c0 .nil)
def lV (l:List Sg) (ns:List Nd):Ty × Int:=match eL l ns with| .inl ts=>(ts.getD (ts.length - 1) zT,0)| .inr e=>(zT,e)
theorem C3 (l:List Sg):∀ (r:List Nd) (k:Nat) (st:List Nat) (ts:List Ty) (e:Int),dT l r k st ts= .inr e→e ≠ 0:=by
 intro r
 induction r with
 |nil=>intro k st ts e h;simp [dT] at h
 | cons x r ih=>
  intro k st ts e h
  simp only [dT] at h
  split at h
  ·exact ih _ _ _ _ h
  ·rename_i he
   simp only [Sum.inr.injEq] at h
   rw [← h];exact he
theorem sO {l:List Sg} {ns:List Nd} {e:Int} (h:eL l ns= .inr e):e ≠ 0:=by
 unfold eL at h
 split at h
 ·exact C3 l ns 0 [] [] e h
 ·rename_i hc;simp only [Sum.inr.injEq] at h;rw [← h];exact hc
theorem mK {l:List Sg} {ns:List Nd} {ts:List Ty} (h:eL l ns= .inl ts):ts.length=ns.length∧0<ns.length∧ns.length≤60:=by
 unfold eL at h
 split at h
 ·rename_i hc
  obtain ⟨h60,hin⟩:=gX hc
  have:=oQ l ns 0 [] [] ts h
  refine ⟨by simpa using this, ?_,h60⟩
  cases ns with
  |nil=>simp [fB] at hin
  |cons _ _=>simp
 ·cases h
theorem Iz (l:List Sg) (ns:List Nd) (nl nn:Bool) (hlg:l.length<2^40) (hsm:∀ x ∈ ns,x.sm):CO 36 [.sl (aW l) l.length nl,.sl (aw ns) ns.length nn] (.ret (.tup [.agg (bC (lV l ns).1),.int .i64 (lV l ns).2])):=by
 have ht:=ye l ns nl nn hlg hsm
 unfold lV
 cases hq:eL l ns with
 |inl ts=>
  rw [hq] at ht
  obtain ⟨h1,h2,h3⟩:=mK hq
  have hj:ts.length - 1<ts.length:=by omega
  have hd:=jC hj
  rw [Nat.zero_add] at hd
  have hw:IntKind.wrap .i64 ((ts.length:Int) - ((1:Nat):Int))=((ts.length - 1:Nat):Int):=by rw [bo]<;>omega
  have hb:=QP l ns nl nn ts 0
  rw [hw,hd] at hb
  exact hb rfl rfl rfl (decide_eq_true (by omega)) (decide_eq_true (by omega)) ht
 |inr e=>
  rw [hq] at ht
  exact QO l ns nl nn [] e (by simpa [lit] using sO hq) ht
theorem Ux:CO 79 [.agg [.bool false,.int .i64 1,.int .i64 0]] (.ret (.agg [.bool false,.fn 112 [] [.pp [.bool false,.int .i64 1,.int .i64 0] 0]])):=cK (.nil)
theorem Uy:CO 79 [.agg [.bool false,.int .i64 0,.int .i64 1]] (.ret (.agg [.bool false,.fn 112 [] [.pp [.bool false,.int .i64 0,.int .i64 1] 0]])):=cK (.nil)
theorem Uz:CO 79 [.agg [.bool false,.int .i64 0,.int .i64 0]] (.ret (.agg [.bool false,.fn 112 [] [.pp [.bool false,.int .i64 0,.int .i64 0] 0]])):=cK (.nil)
theorem UA:CO 79 [.agg [.bool true,.int .i64 0,.int .i64 0]] (.ret (.agg [.bool false,.fn 112 [] [.pp [.bool true,.int .i64 0,.int .i64 0] 0]])):=cK (.nil)
theorem Q6:CO 80 [] (.ret (.agg [.bool true,.fn 113 [] []])):=cK (.nil)
theorem Q7:CO 81 [.fn 82 [] []] (.ret (.agg [.bool false,.fn 114 [] [.pp [.fn 82 [] []] 0]])):=cK (.nil)
theorem UB:CO 83 [.int .i64 1] (.ret (.agg [.bool false,.fn 115 [] [.pp [.int .i64 1] 0]])):=cK (.nil)
theorem UC:CO 83 [.int .i64 (-1)] (.ret (.agg [.bool false,.fn 115 [] [.pp [.int .i64 (-1)] 0]])):=cK (.nil)
theorem UD:CO 81 [.fn 85 [] []] (.ret (.agg [.bool false,.fn 114 [] [.pp [.fn 85 [] []] 0]])):=cK (.nil)
theorem Sn:CO 87 [] (.ret (.agg [.bool false,.fn 116 [] []])):=cK (.nil)
theorem Li:CO 88 [] (.ret (.agg [.bool false,.fn 117 [] []])):=cK (.nil)
theorem Sm:CO 52 [] (.ret (.own [.bool false,.nilF,.bool false,.fn 112 [] [.pp [.bool false,.int .i64 1,.int .i64 0] 0],.bool false,.fn 112 [] [.pp [.bool false,.int .i64 0,.int .i64 1] 0],.bool false,.fn 112 [] [.pp [.bool false,.int .i64 0,.int .i64 0] 0],.bool false,.fn 112 [] [.pp [.bool true,.int .i64 0,.int .i64 0] 0],.bool true,.fn 113 [] [],.bool true,.fn 113 [] [],.bool true,.fn 113 [] [],.bool true,.fn 113 [] [],.bool false,.fn 114 [] [.pp [.fn 82 [] []] 0],.bool false,.fn 114 [] [.pp [.fn 82 [] []] 0],.bool false,.fn 115 [] [.pp [.int .i64 1] 0],.bool false,.fn 115 [] [.pp [.int .i64 (-1)] 0],.bool false,.fn 114 [] [.pp [.fn 82 [] []] 0],.bool false,.fn 114 [] [.pp [.fn 82 [] []] 0],.bool false,.fn 84 [] [],.bool false,.fn 114 [] [.pp [.fn 85 [] []] 0],.bool false,.fn 86 [] [],.bool false,.fn 116 [] [],.bool false,.fn 116 [] [],.bool false,.fn 116 [] [],.bool false,.fn 117 [] [],.bool false,.fn 117 [] [],.bool false,.fn 117 [] [],.bool true,.fn 89 [] []] 25 2)):=cK (.c Li (.c Li (.c Li (.c Sn (.c Sn (.c Sn (.c UD (.c UC (.c UB (.c Q7 (.c Q7 (.c Q7 (.c Q7 (.c Q6 (.c Q6 (.c Q6 (.c Q6 (.c UA (.c Uz (.c Uy (.c Ux .nil)))))))))))))))))))))
theorem E1:CO 52 [] (.ret (.own [.bool false,.nilF,.bool false,.fn 112 [] [.pp [.bool false,.int .i64 1,.int .i64 0] 0],.bool false,.fn 112 [] [.pp [.bool false,.int .i64 0,.int .i64 1] 0],.bool false,.fn 112 [] [.pp [.bool false,.int .i64 0,.int .i64 0] 0],.bool false,.fn 112 [] [.pp [.bool true,.int .i64 0,.int .i64 0] 0],.bool true,.fn 113 [] [],.bool true,.fn 113 [] [],.bool true,.fn 113 [] [],.bool true,.fn 113 [] [],.bool false,.fn 114 [] [.pp [.fn 82 [] []] 0],.bool false,.fn 114 [] [.pp [.fn 82 [] []] 0],.bool false,.fn 115 [] [.pp [.int .i64 1] 0],.bool false,.fn 115 [] [.pp [.int .i64 (-1)] 0],.bool false,.fn 114 [] [.pp [.fn 82 [] []] 0],.bool false,.fn 114 [] [.pp [.fn 82 [] []] 0],.bool false,.fn 84 [] [],.bool false,.fn 114 [] [.pp [.fn 85 [] []] 0],.bool false,.fn 86 [] [],.bool false,.fn 116 [] [],.bool false,.fn 116 [] [],.bool false,.fn 116 [] [],.bool false,.fn 117 [] [],.bool false,.fn 117 [] [],.bool false,.fn 117 [] [],.bool true,.fn 89 [] []] 25 2)):=Sm
theorem kJ (a:Ty):CO 82 [.agg [.bool a.tr,.int .i64 a.m,.int .i64 a.d]] (.ret (.agg [.bool a.tr,.int .i64 a.m,.int .i64 a.d])):=pK [] 0 0 (.n 7 .nil) (.nil)
theorem I6 (a:Ty):CO 85 [.agg [.bool a.tr,.int .i64 a.m,.int .i64 a.d]] (.ret (.agg [.bool true,.int .i64 0,.int .i64 0])):=pK [] 0 0 (.n 7 .nil) (.nil)
def tT:Ty:=⟨true,0,0⟩
def pV (a b:Ty) (k:Int):Ty:=⟨false,IntKind.wrap .i64 (a.m+IntKind.wrap .i64 (k*b.m)),IntKind.wrap .i64 (a.d+IntKind.wrap .i64 (k*b.d))⟩
def ax:Nat→Ty→List Ty→Bool × Ty
 |1,_,[]=>(true,⟨false,1,0⟩)
 |2,_,[]=>(true,⟨false,0,1⟩)
 |3,_,[]=>(true,⟨false,0,0⟩)
 |4,_,[]=>(true,⟨true,0,0⟩)
 |5,sg,[]=>(true,sg)
 |6,sg,[]=>(true,sg)
 |7,sg,[]=>(true,sg)
 |8,sg,[]=>(true,sg)
 |9,_,[a,b]=>(cE a b && !a.tr,a)
 |10,_,[a,b]=>(cE a b && !a.tr,a)
 |11,_,[a,b]=>(!a.tr && (!b.tr && eC (pV a b 1).m (pV a b 1).d),pV a b 1)
 |12,_,[a,b]=>(!a.tr && (!b.tr && eC (pV a b (-1)).m (pV a b (-1)).d),pV a b (-1))
 |13,_,[a,b]=>(cE a b && !a.tr,a)
 |14,_,[a,b]=>(cE a b && !a.tr,a)
 |15,_,[a,b,c]=>(cE a tT && cE b c,b)
 |16,_,[a,b]=>(cE a b && !a.tr,tT)
 |17,_,[a,b]=>(cE a b,tT)
 |18,_,[a,b]=>(cE a tT && cE b tT,tT)
 |19,_,[a,b]=>(cE a tT && cE b tT,tT)
 |20,_,[a]=>(cE a tT,tT)
 |21,_,[a]=>(!a.tr,a)
 |22,_,[a]=>(!a.tr,a)
 |23,_,[a]=>(!a.tr,a)
 |24,sg,[a]=>(cE a sg,sg)
 |_,_,_=>(false,⟨false,0,0⟩)
theorem MA (nn:Bool) (sg:Ty):CO 112 [.agg (bC sg),.sl (bf []) 0 nn,.pp [.bool false,.int .i64 1,.int .i64 0] 0] (.ret (.tup [.agg (bC (ax 1 sg []).2),.bool (ax 1 sg []).1])):=by
 rw [show ax 1 sg []=(true,⟨false,1,0⟩) by simp only [ax,cond_true,Bool.true_and,Bool.false_and,Bool.not_true,Bool.not_false]<;>rfl]
 exact pK [] 0 0 (.n 7 .nil) (.nil)
theorem ML (nn:Bool) (sg:Ty):CO 112 [.agg (bC sg),.sl (bf []) 0 nn,.pp [.bool false,.int .i64 0,.int .i64 1] 0] (.ret (.tup [.agg (bC (ax 2 sg []).2),.bool (ax 2 sg []).1])):=by
 rw [show ax 2 sg []=(true,⟨false,0,1⟩) by simp only [ax,cond_true,Bool.true_and,Bool.false_and,Bool.not_true,Bool.not_false]<;>rfl]
 exact pK [] 0 0 (.n 7 .nil) (.nil)
theorem MR (nn:Bool) (sg:Ty):CO 112 [.agg (bC sg),.sl (bf []) 0 nn,.pp [.bool false,.int .i64 0,.int .i64 0] 0] (.ret (.tup [.agg (bC (ax 3 sg []).2),.bool (ax 3 sg []).1])):=by
 rw [show ax 3 sg []=(true,⟨false,0,0⟩) by simp only [ax,cond_true,Bool.true_and,Bool.false_and,Bool.not_true,Bool.not_false]<;>rfl]
 exact pK [] 0 0 (.n 7 .nil) (.nil)
theorem MS (nn:Bool) (sg:Ty):CO 112 [.agg (bC sg),.sl (bf []) 0 nn,.pp [.bool true,.int .i64 0,.int .i64 0] 0] (.ret (.tup [.agg (bC (ax 4 sg []).2),.bool (ax 4 sg []).1])):=by
 rw [show ax 4 sg []=(true,⟨true,0,0⟩) by simp only [ax,cond_true,Bool.true_and,Bool.false_and,Bool.not_true,Bool.not_false]<;>rfl]
 exact pK [] 0 0 (.n 7 .nil) (.nil)
theorem MT (nn:Bool) (sg:Ty):CO 113 [.agg (bC sg),.sl (bf []) 0 nn] (.ret (.tup [.agg (bC (ax 5 sg []).2),.bool (ax 5 sg []).1])):=by
 rw [show ax 5 sg []=(true,⟨sg.tr,sg.m,sg.d⟩) by simp only [ax,cond_true,Bool.true_and,Bool.false_and,Bool.not_true,Bool.not_false]<;>rfl]
 exact pK [] 0 0 (.n 7 .nil) (.nil)
theorem MU (nn:Bool) (sg:Ty):CO 113 [.agg (bC sg),.sl (bf []) 0 nn] (.ret (.tup [.agg (bC (ax 6 sg []).2),.bool (ax 6 sg []).1])):=by
 rw [show ax 6 sg []=(true,⟨sg.tr,sg.m,sg.d⟩) by simp only [ax,cond_true,Bool.true_and,Bool.false_and,Bool.not_true,Bool.not_false]<;>rfl]
 exact pK [] 0 0 (.n 7 .nil) (.nil)
theorem MV (nn:Bool) (sg:Ty):CO 113 [.agg (bC sg),.sl (bf []) 0 nn] (.ret (.tup [.agg (bC (ax 7 sg []).2),.bool (ax 7 sg []).1])):=by
 rw [show ax 7 sg []=(true,⟨sg.tr,sg.m,sg.d⟩) by simp only [ax,cond_true,Bool.true_and,Bool.false_and,Bool.not_true,Bool.not_false]<;>rfl]
 exact pK [] 0 0 (.n 7 .nil) (.nil)
theorem MW (nn:Bool) (sg:Ty):CO 113 [.agg (bC sg),.sl (bf []) 0 nn] (.ret (.tup [.agg (bC (ax 8 sg []).2),.bool (ax 8 sg []).1])):=by
 rw [show ax 8 sg []=(true,⟨sg.tr,sg.m,sg.d⟩) by simp only [ax,cond_true,Bool.true_and,Bool.false_and,Bool.not_true,Bool.not_false]<;>rfl]
 exact pK [] 0 0 (.n 7 .nil) (.nil)
theorem Rq (nn:Bool) (sg a b:Ty):CO 114 [.agg (bC sg),.sl (bf [a,b]) 2 nn,.pp [.fn 82 [] []] 0] (.ret (.tup [.agg (bC (ax 9 sg [a,b]).2),.bool (ax 9 sg [a,b]).1])):=by
 rcases tf ((a.tr==b.tr) && ((a.m==b.m) && ((a.d==b.d) && true))) with b0|b0
 ·have gb0:cE a b=true:=b0
  rw [show ax 9 sg [a,b]=((!a.tr),⟨a.tr,a.m,a.d⟩) by simp only [ax,gb0,Bool.true_and,Bool.false_and,Bool.not_true,Bool.not_false]<;>rfl]
  exact pK [] 1 1 (.k 7 (aQ b0) (.n 16 .nil)) (.c (kJ a) .nil)
 ·have gb0:cE a b=false:=b0
  rw [show ax 9 sg [a,b]=(false,⟨a.tr,a.m,a.d⟩) by simp only [ax,gb0,Bool.true_and,Bool.false_and,Bool.not_true,Bool.not_false]<;>rfl]
  exact pK [] 1 0 (.k 4 (aU b0) (.n 16 .nil)) (.c (kJ a) .nil)
theorem MB (nn:Bool) (sg a b:Ty):CO 114 [.agg (bC sg),.sl (bf [a,b]) 2 nn,.pp [.fn 82 [] []] 0] (.ret (.tup [.agg (bC (ax 10 sg [a,b]).2),.bool (ax 10 sg [a,b]).1])):=by
 rcases tf ((a.tr==b.tr) && ((a.m==b.m) && ((a.d==b.d) && true))) with b0|b0
 ·have gb0:cE a b=true:=b0
  rw [show ax 10 sg [a,b]=((!a.tr),⟨a.tr,a.m,a.d⟩) by simp only [ax,gb0,Bool.true_and,Bool.false_and,Bool.not_true,Bool.not_false]<;>rfl]
  exact pK [] 1 1 (.k 7 (aQ b0) (.n 16 .nil)) (.c (kJ a) .nil)
 ·have gb0:cE a b=false:=b0
  rw [show ax 10 sg [a,b]=(false,⟨a.tr,a.m,a.d⟩) by simp only [ax,gb0,Bool.true_and,Bool.false_and,Bool.not_true,Bool.not_false]<;>rfl]
  exact pK [] 1 0 (.k 4 (aU b0) (.n 16 .nil)) (.c (kJ a) .nil)
theorem MC (nn:Bool) (sg a b:Ty):CO 115 [.agg (bC sg),.sl (bf [a,b]) 2 nn,.pp [.int .i64 1] 0] (.ret (.tup [.agg (bC (ax 11 sg [a,b]).2),.bool (ax 11 sg [a,b]).1])):=by
 rcases tf a.tr with b0|b0
 ·rw [show ax 11 sg [a,b]=(false,⟨false,(IntKind.wrap .i64 (a.m+(IntKind.wrap .i64 (((1:Nat):Int)*b.m)))),(IntKind.wrap .i64 (a.d+(IntKind.wrap .i64 (((1:Nat):Int)*b.d))))⟩) by simp only [ax,b0,Bool.true_and,Bool.false_and,Bool.not_true,Bool.not_false]<;>rfl]
  exact pK [] 2 0 (.k 5 (aG b0) (.n 21 .nil)) (.nil)
 ·rcases tf b.tr with b1|b1
  ·rw [show ax 11 sg [a,b]=(false,⟨false,(IntKind.wrap .i64 (a.m+(IntKind.wrap .i64 (((1:Nat):Int)*b.m)))),(IntKind.wrap .i64 (a.d+(IntKind.wrap .i64 (((1:Nat):Int)*b.d))))⟩) by simp only [ax,b0,b1,Bool.true_and,Bool.false_and,Bool.not_true,Bool.not_false]<;>rfl]
   exact pK [] 2 1 (.k 4 (aG b1) (.k 3 (bm b0) (.n 21 .nil))) (.nil)
  ·rw [show ax 11 sg [a,b]=((eC (IntKind.wrap .i64 (a.m+(IntKind.wrap .i64 (((1:Nat):Int)*b.m)))) (IntKind.wrap .i64 (a.d+(IntKind.wrap .i64 (((1:Nat):Int)*b.d))))),⟨false,(IntKind.wrap .i64 (a.m+(IntKind.wrap .i64 (((1:Nat):Int)*b.m)))),(IntKind.wrap .i64 (a.d+(IntKind.wrap .i64 (((1:Nat):Int)*b.d))))⟩) by simp only [ax,b0,b1,Bool.true_and,Bool.false_and,Bool.not_true,Bool.not_false]<;>rfl]
   exact pK [] 2 3 (.k 6 (bm b1) (.k 3 (bm b0) (.n 21 .nil))) (.c (nU (pV a b 1)) .nil)
theorem MD (nn:Bool) (sg a b:Ty):CO 115 [.agg (bC sg),.sl (bf [a,b]) 2 nn,.pp [.int .i64 (-1)] 0] (.ret (.tup [.agg (bC (ax 12 sg [a,b]).2),.bool (ax 12 sg [a,b]).1])):=by
 rcases tf a.tr with b0|b0
 ·rw [show ax 12 sg [a,b]=(false,⟨false,(IntKind.wrap .i64 (a.m+(IntKind.wrap .i64 ((-1:Int)*b.m)))),(IntKind.wrap .i64 (a.d+(IntKind.wrap .i64 ((-1:Int)*b.d))))⟩) by simp only [ax,b0,Bool.true_and,Bool.false_and,Bool.not_true,Bool.not_false]<;>rfl]
  exact pK [] 2 0 (.k 5 (aG b0) (.n 21 .nil)) (.nil)
 ·rcases tf b.tr with b1|b1
  ·rw [show ax 12 sg [a,b]=(false,⟨false,(IntKind.wrap .i64 (a.m+(IntKind.wrap .i64 ((-1:Int)*b.m)))),(IntKind.wrap .i64 (a.d+(IntKind.wrap .i64 ((-1:Int)*b.d))))⟩) by simp only [ax,b0,b1,Bool.true_and,Bool.false_and,Bool.not_true,Bool.not_false]<;>rfl]
   exact pK [] 2 1 (.k 4 (aG b1) (.k 3 (bm b0) (.n 21 .nil))) (.nil)
  ·rw [show ax 12 sg [a,b]=((eC (IntKind.wrap .i64 (a.m+(IntKind.wrap .i64 ((-1:Int)*b.m)))) (IntKind.wrap .i64 (a.d+(IntKind.wrap .i64 ((-1:Int)*b.d))))),⟨false,(IntKind.wrap .i64 (a.m+(IntKind.wrap .i64 ((-1:Int)*b.m)))),(IntKind.wrap .i64 (a.d+(IntKind.wrap .i64 ((-1:Int)*b.d))))⟩) by simp only [ax,b0,b1,Bool.true_and,Bool.false_and,Bool.not_true,Bool.not_false]<;>rfl]
   exact pK [] 2 3 (.k 6 (bm b1) (.k 3 (bm b0) (.n 21 .nil))) (.c (nU (pV a b (-1))) .nil)
theorem ME (nn:Bool) (sg a b:Ty):CO 114 [.agg (bC sg),.sl (bf [a,b]) 2 nn,.pp [.fn 82 [] []] 0] (.ret (.tup [.agg (bC (ax 13 sg [a,b]).2),.bool (ax 13 sg [a,b]).1])):=by
 rcases tf ((a.tr==b.tr) && ((a.m==b.m) && ((a.d==b.d) && true))) with b0|b0
 ·have gb0:cE a b=true:=b0
  rw [show ax 13 sg [a,b]=((!a.tr),⟨a.tr,a.m,a.d⟩) by simp only [ax,gb0,Bool.true_and,Bool.false_and,Bool.not_true,Bool.not_false]<;>rfl]
  exact pK [] 1 1 (.k 7 (aQ b0) (.n 16 .nil)) (.c (kJ a) .nil)
 ·have gb0:cE a b=false:=b0
  rw [show ax 13 sg [a,b]=(false,⟨a.tr,a.m,a.d⟩) by simp only [ax,gb0,Bool.true_and,Bool.false_and,Bool.not_true,Bool.not_false]<;>rfl]
  exact pK [] 1 0 (.k 4 (aU b0) (.n 16 .nil)) (.c (kJ a) .nil)
theorem MF (nn:Bool) (sg a b:Ty):CO 114 [.agg (bC sg),.sl (bf [a,b]) 2 nn,.pp [.fn 82 [] []] 0] (.ret (.tup [.agg (bC (ax 14 sg [a,b]).2),.bool (ax 14 sg [a,b]).1])):=by
 rcases tf ((a.tr==b.tr) && ((a.m==b.m) && ((a.d==b.d) && true))) with b0|b0
 ·have gb0:cE a b=true:=b0
  rw [show ax 14 sg [a,b]=((!a.tr),⟨a.tr,a.m,a.d⟩) by simp only [ax,gb0,Bool.true_and,Bool.false_and,Bool.not_true,Bool.not_false]<;>rfl]
  exact pK [] 1 1 (.k 7 (aQ b0) (.n 16 .nil)) (.c (kJ a) .nil)
 ·have gb0:cE a b=false:=b0
  rw [show ax 14 sg [a,b]=(false,⟨a.tr,a.m,a.d⟩) by simp only [ax,gb0,Bool.true_and,Bool.false_and,Bool.not_true,Bool.not_false]<;>rfl]
  exact pK [] 1 0 (.k 4 (aU b0) (.n 16 .nil)) (.c (kJ a) .nil)
theorem MG (nn:Bool) (sg a b c:Ty):CO 84 [.agg (bC sg),.sl (bf [a,b,c]) 3 nn] (.ret (.tup [.agg (bC (ax 15 sg [a,b,c]).2),.bool (ax 15 sg [a,b,c]).1])):=by
 rcases tf ((a.tr==true) && ((a.m==((0:Nat):Int)) && ((a.d==((0:Nat):Int)) && true))) with b0|b0
 ·have gb0:cE a tT=true:=b0
  rw [show ax 15 sg [a,b,c]=(((b.tr==c.tr) && ((b.m==c.m) && ((b.d==c.d) && true))),⟨b.tr,b.m,b.d⟩) by simp only [ax,gb0,Bool.true_and,Bool.false_and,Bool.not_true,Bool.not_false]<;>rfl]
  exact pK [] 1 1 (.k 14 (aQ b0) (.n 13 .nil)) (.nil)
 ·have gb0:cE a tT=false:=b0
  rw [show ax 15 sg [a,b,c]=(false,⟨b.tr,b.m,b.d⟩) by simp only [ax,gb0,Bool.true_and,Bool.false_and,Bool.not_true,Bool.not_false]<;>rfl]
  exact pK [] 1 0 (.k 4 (aU b0) (.n 13 .nil)) (.nil)
theorem MH (nn:Bool) (sg a b:Ty):CO 114 [.agg (bC sg),.sl (bf [a,b]) 2 nn,.pp [.fn 85 [] []] 0] (.ret (.tup [.agg (bC (ax 16 sg [a,b]).2),.bool (ax 16 sg [a,b]).1])):=by
 rcases tf ((a.tr==b.tr) && ((a.m==b.m) && ((a.d==b.d) && true))) with b0|b0
 ·have gb0:cE a b=true:=b0
  rw [show ax 16 sg [a,b]=((!a.tr),⟨true,0,0⟩) by simp only [ax,gb0,Bool.true_and,Bool.false_and,Bool.not_true,Bool.not_false]<;>rfl]
  exact pK [] 1 1 (.k 7 (aQ b0) (.n 16 .nil)) (.c (I6 a) .nil)
 ·have gb0:cE a b=false:=b0
  rw [show ax 16 sg [a,b]=(false,⟨true,0,0⟩) by simp only [ax,gb0,Bool.true_and,Bool.false_and,Bool.not_true,Bool.not_false]<;>rfl]
  exact pK [] 1 0 (.k 4 (aU b0) (.n 16 .nil)) (.c (I6 a) .nil)
theorem MI (nn:Bool) (sg a b:Ty):CO 86 [.agg (bC sg),.sl (bf [a,b]) 2 nn] (.ret (.tup [.agg (bC (ax 17 sg [a,b]).2),.bool (ax 17 sg [a,b]).1])):=by
 rw [show ax 17 sg [a,b]=(((a.tr==b.tr) && ((a.m==b.m) && ((a.d==b.d) && true))),⟨true,0,0⟩) by simp only [ax,cond_true,Bool.true_and,Bool.false_and,Bool.not_true,Bool.not_false]<;>rfl]
 exact pK [] 0 0 (.n 17 .nil) (.nil)
theorem MJ (nn:Bool) (sg a b:Ty):CO 116 [.agg (bC sg),.sl (bf [a,b]) 2 nn] (.ret (.tup [.agg (bC (ax 18 sg [a,b]).2),.bool (ax 18 sg [a,b]).1])):=by
 rcases tf ((a.tr==true) && ((a.m==((0:Nat):Int)) && ((a.d==((0:Nat):Int)) && true))) with b0|b0
 ·rcases tf ((b.tr==true) && ((b.m==((0:Nat):Int)) && ((b.d==((0:Nat):Int)) && true))) with b1|b1
  ·have gb0:cE a tT=true:=b0
   have gb1:cE b tT=true:=b1
   rw [show ax 18 sg [a,b]=(true,⟨true,0,0⟩) by simp only [ax,gb0,gb1,Bool.true_and,Bool.false_and,Bool.not_true,Bool.not_false]<;>rfl]
   exact pK [] 5 5 (.k 8 (aG b1) (.k 13 (aG b0) (.n 13 .nil))) (.nil)
  ·have gb0:cE a tT=true:=b0
   have gb1:cE b tT=false:=b1
   rw [show ax 18 sg [a,b]=(false,⟨true,0,0⟩) by simp only [ax,gb0,gb1,Bool.true_and,Bool.false_and,Bool.not_true,Bool.not_false]<;>rfl]
   exact pK [] 4 13 (.k 7 (bm b1) (.k 13 (aG b0) (.n 13 .nil))) (.nil)
 ·have gb0:cE a tT=false:=b0
  rw [show ax 18 sg [a,b]=(false,⟨true,0,0⟩) by simp only [ax,gb0,Bool.true_and,Bool.false_and,Bool.not_true,Bool.not_false]<;>rfl]
  exact pK [] 2 3 (.k 7 (bm b0) (.n 13 .nil)) (.nil)
theorem MK (nn:Bool) (sg a b:Ty):CO 116 [.agg (bC sg),.sl (bf [a,b]) 2 nn] (.ret (.tup [.agg (bC (ax 19 sg [a,b]).2),.bool (ax 19 sg [a,b]).1])):=by
 rcases tf ((a.tr==true) && ((a.m==((0:Nat):Int)) && ((a.d==((0:Nat):Int)) && true))) with b0|b0
 ·rcases tf ((b.tr==true) && ((b.m==((0:Nat):Int)) && ((b.d==((0:Nat):Int)) && true))) with b1|b1
  ·have gb0:cE a tT=true:=b0
   have gb1:cE b tT=true:=b1
   rw [show ax 19 sg [a,b]=(true,⟨true,0,0⟩) by simp only [ax,gb0,gb1,Bool.true_and,Bool.false_and,Bool.not_true,Bool.not_false]<;>rfl]
   exact pK [] 5 5 (.k 8 (aG b1) (.k 13 (aG b0) (.n 13 .nil))) (.nil)
  ·have gb0:cE a tT=true:=b0
   have gb1:cE b tT=false:=b1
   rw [show ax 19 sg [a,b]=(false,⟨true,0,0⟩) by simp only [ax,gb0,gb1,Bool.true_and,Bool.false_and,Bool.not_true,Bool.not_false]<;>rfl]
   exact pK [] 4 13 (.k 7 (bm b1) (.k 13 (aG b0) (.n 13 .nil))) (.nil)
 ·have gb0:cE a tT=false:=b0
  rw [show ax 19 sg [a,b]=(false,⟨true,0,0⟩) by simp only [ax,gb0,Bool.true_and,Bool.false_and,Bool.not_true,Bool.not_false]<;>rfl]
  exact pK [] 2 3 (.k 7 (bm b0) (.n 13 .nil)) (.nil)
theorem MM (nn:Bool) (sg a:Ty):CO 116 [.agg (bC sg),.sl (bf [a]) 1 nn] (.ret (.tup [.agg (bC (ax 20 sg [a]).2),.bool (ax 20 sg [a]).1])):=by
 rcases tf ((a.tr==true) && ((a.m==((0:Nat):Int)) && ((a.d==((0:Nat):Int)) && true))) with b0|b0
 ·have gb0:cE a tT=true:=b0
  rw [show ax 20 sg [a]=(true,⟨true,0,0⟩) by simp only [ax,gb0,Bool.true_and,Bool.false_and,Bool.not_true,Bool.not_false]<;>rfl]
  exact pK [] 3 1 (.k 8 (aG b0) (.n 13 .nil)) (.nil)
 ·have gb0:cE a tT=false:=b0
  rw [show ax 20 sg [a]=(false,⟨true,0,0⟩) by simp only [ax,gb0,Bool.true_and,Bool.false_and,Bool.not_true,Bool.not_false]<;>rfl]
  exact pK [] 2 3 (.k 7 (bm b0) (.n 13 .nil)) (.nil)
theorem MN (nn:Bool) (sg a:Ty):CO 117 [.agg (bC sg),.sl (bf [a]) 1 nn] (.ret (.tup [.agg (bC (ax 21 sg [a]).2),.bool (ax 21 sg [a]).1])):=by
 rw [show ax 21 sg [a]=((!a.tr),⟨a.tr,a.m,a.d⟩) by simp only [ax,cond_true,Bool.true_and,Bool.false_and,Bool.not_true,Bool.not_false]<;>rfl]
 exact pK [] 0 0 (.n 12 .nil) (.nil)
theorem MO (nn:Bool) (sg a:Ty):CO 117 [.agg (bC sg),.sl (bf [a]) 1 nn] (.ret (.tup [.agg (bC (ax 22 sg [a]).2),.bool (ax 22 sg [a]).1])):=by
 rw [show ax 22 sg [a]=((!a.tr),⟨a.tr,a.m,a.d⟩) by simp only [ax,cond_true,Bool.true_and,Bool.false_and,Bool.not_true,Bool.not_false]<;>rfl]
 exact pK [] 0 0 (.n 12 .nil) (.nil)
theorem MP (nn:Bool) (sg a:Ty):CO 117 [.agg (bC sg),.sl (bf [a]) 1 nn] (.ret (.tup [.agg (bC (ax 23 sg [a]).2),.bool (ax 23 sg [a]).1])):=by
 rw [show ax 23 sg [a]=((!a.tr),⟨a.tr,a.m,a.d⟩) by simp only [ax,cond_true,Bool.true_and,Bool.false_and,Bool.not_true,Bool.not_false]<;>rfl]
 exact pK [] 0 0 (.n 12 .nil) (.nil)
theorem MQ (nn:Bool) (sg a:Ty):CO 89 [.agg (bC sg),.sl (bf [a]) 1 nn] (.ret (.tup [.agg (bC (ax 24 sg [a]).2),.bool (ax 24 sg [a]).1])):=by
 rw [show ax 24 sg [a]=(((a.tr==sg.tr) && ((a.m==sg.m) && ((a.d==sg.d) && true))),⟨sg.tr,sg.m,sg.d⟩) by simp only [ax,cond_true,Bool.true_and,Bool.false_and,Bool.not_true,Bool.not_false]<;>rfl]
 exact pK [] 0 0 (.n 15 .nil) (.nil)
theorem GG {a b:Ty}:cE a b=true↔a=b:=by
 obtain ⟨t,m,d⟩:=a
 obtain ⟨t2,m2,d2⟩:=b
 simp [cE]
theorem ng (a b:Ty):(cE a b && dM [a,b])=(cE a b && !a.tr):=by
 cases h:cE a b with
 |false=>rfl
 |true=>have:=GG.mp h;subst this;simp [dM]
theorem xq (a b:Ty):dM [a,b]=(!a.tr && !b.tr):=by simp [dM]
theorem rV (a:Ty):dM [a]= !a.tr:=by simp [dM]
theorem gL {a:Ty} (h:aI a=true):cE a tT=a.tr:=by
 obtain ⟨t,m,d⟩:=a
 cases t with
 |true=>simp [aI] at h;simp [cE,tT,h.1,h.2]
 |false=>simp [cE,tT]
theorem Jf {a b:Ty} (ha:aI a=true) (hb:aI b=true):pV a b 1=⟨false,IntKind.wrap .i64 (a.m+b.m),IntKind.wrap .i64 (a.d+b.d)⟩:=by
 have b1:=iR ha
 have b2:=iR hb
 unfold pV
 rw [bo (x:=1*b.m) (by omega) (by omega),bo (x:=1*b.d) (by omega) (by omega),Int.one_mul,Int.one_mul]
theorem Jg {a b:Ty} (ha:aI a=true) (hb:aI b=true):pV a b (-1)=⟨false,IntKind.wrap .i64 (a.m - b.m),IntKind.wrap .i64 (a.d - b.d)⟩:=by
 have b1:=iR ha
 have b2:=iR hb
 unfold pV
 rw [bo (x:= -1*b.m) (by omega) (by omega),bo (x:= -1*b.d) (by omega) (by omega)]
 congr 2<;>omega
def fK (v:Nat) (sg:Ty) (ts:List Ty):Prop:=(aO v sg ts).1=(ax v sg ts).1∧(aO v sg ts).2=(ax v sg ts).2
theorem E0 (sg a b:Ty) (ha:aI a=true) (hb:aI b=true):fK 9 sg [a,b]:=⟨ng a b,rfl⟩
theorem AY (sg a b:Ty) (ha:aI a=true) (hb:aI b=true):fK 10 sg [a,b]:=⟨ng a b,rfl⟩
theorem AZ (sg a b:Ty) (ha:aI a=true) (hb:aI b=true):fK 11 sg [a,b]:=by
 unfold fK
 simp only [aO,ax]
 rw [Jf ha hb,xq]
 refine ⟨?_,rfl⟩
 simp only [aI,cond_false,Bool.and_assoc]
theorem A0 (sg a b:Ty) (ha:aI a=true) (hb:aI b=true):fK 12 sg [a,b]:=by
 unfold fK
 simp only [aO,ax]
 rw [Jg ha hb,xq]
 refine ⟨?_,rfl⟩
 simp only [aI,cond_false,Bool.and_assoc]
theorem A7 (sg a b:Ty) (ha:aI a=true) (hb:aI b=true):fK 13 sg [a,b]:=⟨ng a b,rfl⟩
theorem A8 (sg a b:Ty) (ha:aI a=true) (hb:aI b=true):fK 14 sg [a,b]:=⟨ng a b,rfl⟩
theorem A9 (sg a b c:Ty) (ha:aI a=true) (hb:aI b=true) (hc:aI c=true):fK 15 sg [a,b,c]:=⟨by simp only [aO,ax];rw [gL ha],rfl⟩
theorem A_ (sg a b:Ty) (ha:aI a=true) (hb:aI b=true):fK 16 sg [a,b]:=⟨ng a b,rfl⟩
theorem Ba (sg a b:Ty) (ha:aI a=true) (hb:aI b=true):fK 17 sg [a,b]:=⟨rfl,rfl⟩
theorem Bb (sg a b:Ty) (ha:aI a=true) (hb:aI b=true):fK 18 sg [a,b]:=⟨by simp only [aO,ax];rw [gL ha,gL hb],rfl⟩
theorem Bd (sg a b:Ty) (ha:aI a=true) (hb:aI b=true):fK 19 sg [a,b]:=⟨by simp only [aO,ax];rw [gL ha,gL hb],rfl⟩
theorem Be (sg a:Ty) (ha:aI a=true):fK 20 sg [a]:=⟨by simp only [aO,ax];rw [gL ha],rfl⟩
theorem Bf (sg a:Ty) (ha:aI a=true):fK 21 sg [a]:=⟨rV a,rfl⟩
theorem Bg (sg a:Ty) (ha:aI a=true):fK 22 sg [a]:=⟨rV a,rfl⟩
theorem Bh (sg a:Ty) (ha:aI a=true):fK 23 sg [a]:=⟨rV a,rfl⟩
theorem Bk (sg a:Ty) (ha:aI a=true):fK 24 sg [a]:=⟨rfl,rfl⟩
def lG:List AV:= [.bool false,.nilF,.bool false,.fn 112 [] [.pp [.bool false,.int .i64 1,.int .i64 0] 0],.bool false,.fn 112 [] [.pp [.bool false,.int .i64 0,.int .i64 1] 0],.bool false,.fn 112 [] [.pp [.bool false,.int .i64 0,.int .i64 0] 0],.bool false,.fn 112 [] [.pp [.bool true,.int .i64 0,.int .i64 0] 0],.bool true,.fn 113 [] [],.bool true,.fn 113 [] [],.bool true,.fn 113 [] [],.bool true,.fn 113 [] [],.bool false,.fn 114 [] [.pp [.fn 82 [] []] 0],.bool false,.fn 114 [] [.pp [.fn 82 [] []] 0],.bool false,.fn 115 [] [.pp [.int .i64 1] 0],.bool false,.fn 115 [] [.pp [.int .i64 (-1)] 0],.bool false,.fn 114 [] [.pp [.fn 82 [] []] 0],.bool false,.fn 114 [] [.pp [.fn 82 [] []] 0],.bool false,.fn 84 [] [],.bool false,.fn 114 [] [.pp [.fn 85 [] []] 0],.bool false,.fn 86 [] [],.bool false,.fn 116 [] [],.bool false,.fn 116 [] [],.bool false,.fn 116 [] [],.bool false,.fn 117 [] [],.bool false,.fn 117 [] [],.bool false,.fn 117 [] [],.bool true,.fn 89 [] []]
def cN (ll:List (List Nat)):List AV:=ll.map fun a=> .sl (aj a) a.length false
def fH (l:List Sg) (ns:List Nd) (nl nn:Bool) (ll:List (List Nat)) (k:Nat):dQ:= [(0,.sl (aW l) l.length nl),(1,.sl (aw ns) ns.length nn),(4,.ptr 0 0 0),(5,.ptr 1 0 0),(7,.sl (cN ll) ns.length true),(9,.sl lG 25 true),(30,.sl (aw ns) ns.length nn),(31,.int .i64 (ns.length:Int)),(32,.int .i64 (k:Int))]
def dm:List (Nat × List AV):= [(50,[.ptr 0 0 0,.ptr 1 0 0])]
def dg:Nat × a_:=(1,⟨[.int .i64 0],0,false,0,0,true⟩)
def jF (sg:Ty):Nat × a_:=(3,⟨bC sg,0,false,0,0,true⟩)
def dV (ts:List Ty):a_:=⟨bf ts,0,false,0,3,true⟩
def fI (op:Int) (x:Nd):a_:=⟨[.int .i64 op,.bool x.neg,.str x.num,.str x.den,.str x.name],0,false,0,0,true⟩
theorem nQ (own:List Ty) (t:Ty):List.take (own.length*3) (bf own)++ [AV.bool t.tr,.int .i64 t.m,.int .i64 t.d]=bf (own++ [t]):=by
 rw [List.take_of_length_le (by rw [eT];omega),nP];simp [bf,bC]
theorem Mt {nt:Nat} (hn:84≤nt) (l:List Sg) (ns:List Nd) (nl nn:Bool) (ll:List (List Nat)) (k:Nat) (ag:List Nat) (i:Nat) (x:Nd) (sg:Ty) (ts:List Ty) (j:Nat) (rj:List AV) (t:Ty) (rt:List AV) (hw:AV.int .i64 (IntKind.wrap .i64 ((i:Int)+((1:Nat):Int)))= .int .i64 ((i+1:Nat):Int)) (hj:(List.drop ((Int.toNat (i:Int))*1) (aj ag))= [AV.int .i64 (j:Int)]++rj) (ht:(List.drop ((0+(Int.toNat (j:Int)))*3) (bf ts))=bC t++rt) (h0:(decide (((0:Nat):Int)≤(j:Int)))=true) (h1:(decide ((j:Int)<(ts.length:Int)))=true) (h2:(decide (((0:Nat):Int)≤(i:Int)))=true) (h3:(decide ((i:Int)<(ag.length:Int)))=true) (h4:lit true (decide ((i:Int)<(ag.length:Int)))=true):ah prog ap [] nt (ac 2 (ae f30)) ⟨(fH l ns nl nn ll k++ [(11,.ptr 2 0 0),(12,.ptr 3 0 0),(49,.sl (aj ag) ag.length false),(50,.int .i64 (ag.length:Int)),(13,.nilS),(51,.int .i64 (i:Int))]),[(0,⟨[.ref 4 0 0 ts.length],0,false,0,0,false⟩),dg,(2,fI x.op x),jF sg,(4,dV ts)],.dead,dm⟩ (.normal) ⟨(fH l ns nl nn ll k++ [(11,.ptr 2 0 0),(12,.ptr 3 0 0),(49,.sl (aj ag) ag.length false),(50,.int .i64 (ag.length:Int)),(13,.ref 4 0 0 1),(51,.int .i64 (((i+1):Nat):Int))]),[(0,⟨[.ref 5 0 0 ts.length],0,false,0,0,false⟩),dg,(2,fI x.op x),jF sg,(4,⟨[.bool t.tr,.int .i64 t.m,.int .i64 t.d],0,false,0,3,true⟩),(5,dV ts)],.dead,dm⟩:=pJ 30 [] 2 1 (.n 3 (.a (DA [.bool,.int .i64,.int .i64] ht rfl) (.c h0 (.c h1 (.k 2 h2 (.c h3 (.c h4 .nil))))))) (.v 62 (.eq hw) (.v 59 (.rd [.bool,.int .i64,.int .i64] ht rfl) (.v 53 (.ppt hj) .nil))) hn
theorem Mu {nt:Nat} (hn:84≤nt) (l:List Sg) (ns:List Nd) (nl nn:Bool) (ll:List (List Nat)) (k:Nat) (ag:List Nat) (i:Nat) (x:Nd) (sg:Ty) (ts:List Ty) (h0:lit false (decide ((i:Int)<(ag.length:Int)))=true):ah prog ap [] nt (ac 2 (ae f30)) ⟨(fH l ns nl nn ll k++ [(11,.ptr 2 0 0),(12,.ptr 3 0 0),(49,.sl (aj ag) ag.length false),(50,.int .i64 (ag.length:Int)),(13,.nilS),(51,.int .i64 (i:Int))]),[(0,⟨[.ref 4 0 0 ts.length],0,false,0,0,false⟩),dg,(2,fI x.op x),jF sg,(4,dV ts)],.dead,dm⟩ (.exit 2) ⟨(fH l ns nl nn ll k++ [(11,.ptr 2 0 0),(12,.ptr 3 0 0),(13,.nilS)]),[(0,⟨[.ref 4 0 0 ts.length],0,false,0,0,false⟩),dg,(2,fI x.op x),jF sg,(4,dV ts)],.dead,dm⟩:=pJ 30 [] 1 0 (.c h0 .nil) (.nil) hn
theorem Mr {nt:Nat} (hn:84≤nt) (l:List Sg) (ns:List Nd) (nl nn:Bool) (ll:List (List Nat)) (k:Nat) (ag:List Nat) (i:Nat) (x:Nd) (sg:Ty) (ts own:List Ty) (j:Nat) (rj:List AV) (t:Ty) (rt:List AV) (hw:AV.int .i64 (IntKind.wrap .i64 ((i:Int)+((1:Nat):Int)))= .int .i64 ((i+1:Nat):Int)) (hj:(List.drop ((Int.toNat (i:Int))*1) (aj ag))= [AV.int .i64 (j:Int)]++rj) (ht:(List.drop ((0+(Int.toNat (j:Int)))*3) (bf ts))=bC t++rt) (h0:(Nat.ble (own.length+1) 1099511627776)=true) (h1:(Nat.ble (own.length*3) (List.length (bf own)))=true) (h2:(decide (((0:Nat):Int)≤(j:Int)))=true) (h3:(decide ((j:Int)<(ts.length:Int)))=true) (h4:(decide (((0:Nat):Int)≤(i:Int)))=true) (h5:(decide ((i:Int)<(ag.length:Int)))=true) (h6:lit true (decide ((i:Int)<(ag.length:Int)))=true):ah prog ap [] nt (ac 2 (ae f30)) ⟨(fH l ns nl nn ll k++ [(11,.ptr 2 0 0),(12,.ptr 3 0 0),(49,.sl (aj ag) ag.length false),(50,.int .i64 (ag.length:Int)),(13,.ref 4 0 0 own.length),(51,.int .i64 (i:Int))]),[(0,⟨[.ref 5 0 0 ts.length],0,false,0,0,false⟩),dg,(2,fI x.op x),jF sg,(4,dV own),(5,dV ts)],.dead,dm⟩ (.normal) ⟨(fH l ns nl nn ll k++ [(11,.ptr 2 0 0),(12,.ptr 3 0 0),(49,.sl (aj ag) ag.length false),(50,.int .i64 (ag.length:Int)),(13,.ref 4 0 0 (own.length+1)),(51,.int .i64 (((i+1):Nat):Int))]),[(0,⟨[.ref 5 0 0 ts.length],0,false,0,0,false⟩),dg,(2,fI x.op x),jF sg,(4,⟨(bf (own++ [t])),0,false,0,3,true⟩),(5,dV ts)],.dead,dm⟩:=pJ 30 [] 1 1 (.k 1 h0 (.c h1 (.n 1 (.a (DA [.bool,.int .i64,.int .i64] ht rfl) (.c h2 (.c h3 (.k 2 h4 (.c h5 (.c h6 .nil))))))))) (.v 62 (.eq hw) (.b 61 (nQ own t) (.v 59 (.rd [.bool,.int .i64,.int .i64] ht rfl) (.v 53 (.ppt hj) .nil)))) hn
theorem Ms {nt:Nat} (hn:84≤nt) (l:List Sg) (ns:List Nd) (nl nn:Bool) (ll:List (List Nat)) (k:Nat) (ag:List Nat) (i:Nat) (x:Nd) (sg:Ty) (ts own:List Ty) (h0:lit false (decide ((i:Int)<(ag.length:Int)))=true):ah prog ap [] nt (ac 2 (ae f30)) ⟨(fH l ns nl nn ll k++ [(11,.ptr 2 0 0),(12,.ptr 3 0 0),(49,.sl (aj ag) ag.length false),(50,.int .i64 (ag.length:Int)),(13,.ref 4 0 0 own.length),(51,.int .i64 (i:Int))]),[(0,⟨[.ref 5 0 0 ts.length],0,false,0,0,false⟩),dg,(2,fI x.op x),jF sg,(4,dV own),(5,dV ts)],.dead,dm⟩ (.exit 2) ⟨(fH l ns nl nn ll k++ [(11,.ptr 2 0 0),(12,.ptr 3 0 0),(13,.ref 4 0 0 own.length)]),[(0,⟨[.ref 5 0 0 ts.length],0,false,0,0,false⟩),dg,(2,fI x.op x),jF sg,(4,dV own),(5,dV ts)],.dead,dm⟩:=pJ 30 [] 1 0 (.c h0 .nil) (.nil) hn
theorem IM {nt:Nat} (hn:84≤nt) (l:List Sg) (ns:List Nd) (nl nn:Bool) (ll:List (List Nat)) (k:Nat) (ag:List Nat) (i:Nat) (x:Nd) (sg:Ty) (h0:lit false (decide ((i:Int)<(ag.length:Int)))=true):ah prog ap [] nt (ac 2 (ae f30)) ⟨(fH l ns nl nn ll k++ [(11,.ptr 2 0 0),(12,.ptr 3 0 0),(49,.sl (aj ag) ag.length false),(50,.int .i64 (ag.length:Int)),(13,.nilS),(51,.int .i64 (i:Int))]),[(0,⟨[.nilS],0,false,0,0,true⟩),dg,(2,fI x.op x),jF sg],.dead,dm⟩ (.exit 2) ⟨(fH l ns nl nn ll k++ [(11,.ptr 2 0 0),(12,.ptr 3 0 0),(13,.nilS)]),[(0,⟨[.nilS],0,false,0,0,true⟩),dg,(2,fI x.op x),jF sg],.dead,dm⟩:=pJ 30 [] 1 0 (.c h0 .nil) (.nil) hn
def Mm (op:Int) (l:List Sg) (ns:List Nd) (nl nn:Bool) (ll:List (List Nat)) (k:Nat) (x:Nd) (sg:Ty) (ts own:List Ty):St:=⟨(fH l ns nl nn ll k++ [(11,.ptr 2 0 0),(12,.ptr 3 0 0),(13,.nilS)]),[(0,⟨[.nilS],0,false,0,0,true⟩),dg,(2,fI op x),jF sg],.dead,dm⟩
def Mi (op:Int) (l:List Sg) (ns:List Nd) (nl nn:Bool) (ll:List (List Nat)) (k:Nat) (x:Nd) (sg:Ty) (ts own:List Ty) (q:Ty) (gd:Bool):St:=⟨(fH l ns nl nn ll k++ [(16,.ptr 4 0 0),(17,.bool gd)]),[(0,⟨[.nilS],0,false,0,0,true⟩),dg,(2,fI op x),jF sg,(4,⟨[.bool q.tr,.int .i64 q.m,.int .i64 q.d],0,false,0,0,true⟩)],.dead,dm⟩
def IK (op:Int) (f:Nat) (cap:List AV):Prop:=∀ (l:List Sg) (ns:List Nd) (nl nn:Bool) (ll:List (List Nat)) (k:Nat) (x:Nd) (sg:Ty) (ts own:List Ty) (q:Ty) (gd:Bool),CO f (.agg (bC sg)::.nilS::cap) (.ret (.tup [.agg (bC q),.bool gd]))→aC prog ap [] 84 (iX 19 (ae f30)) (Mm op l ns nl nn ll k x sg ts own) .normal (Mi op l ns nl nn ll k x sg ts own q gd)
theorem SA:IK 1 112 [.pp [.bool false,.int .i64 1,.int .i64 0] 0]:=fun l ns nl nn ll k x sg ts own q gd c0 nt hn=>pJ 30 [] 0 0 (.n 8 .nil) (.c c0 .nil) hn
theorem SB:IK 2 112 [.pp [.bool false,.int .i64 0,.int .i64 1] 0]:=fun l ns nl nn ll k x sg ts own q gd c0 nt hn=>pJ 30 [] 0 0 (.n 8 .nil) (.c c0 .nil) hn
theorem SC:IK 3 112 [.pp [.bool false,.int .i64 0,.int .i64 0] 0]:=fun l ns nl nn ll k x sg ts own q gd c0 nt hn=>pJ 30 [] 0 0 (.n 8 .nil) (.c c0 .nil) hn
theorem SD:IK 4 112 [.pp [.bool true,.int .i64 0,.int .i64 0] 0]:=fun l ns nl nn ll k x sg ts own q gd c0 nt hn=>pJ 30 [] 0 0 (.n 8 .nil) (.c c0 .nil) hn
theorem SE:IK 5 113 []:=fun l ns nl nn ll k x sg ts own q gd c0 nt hn=>pJ 30 [] 0 0 (.n 8 .nil) (.c c0 .nil) hn
theorem SF:IK 6 113 []:=fun l ns nl nn ll k x sg ts own q gd c0 nt hn=>pJ 30 [] 0 0 (.n 8 .nil) (.c c0 .nil) hn
theorem SG:IK 7 113 []:=fun l ns nl nn ll k x sg ts own q gd c0 nt hn=>pJ 30 [] 0 0 (.n 8 .nil) (.c c0 .nil) hn
theorem SH:IK 8 113 []:=fun l ns nl nn ll k x sg ts own q gd c0 nt hn=>pJ 30 [] 0 0 (.n 8 .nil) (.c c0 .nil) hn
def Ml (op:Int) (l:List Sg) (ns:List Nd) (nl nn:Bool) (ll:List (List Nat)) (k:Nat) (x:Nd) (sg:Ty) (ts own:List Ty):St:=⟨(fH l ns nl nn ll k++ [(11,.ptr 2 0 0),(12,.ptr 3 0 0),(13,.nilS)]),[(0,⟨[.ref 4 0 0 ts.length],0,false,0,0,false⟩),dg,(2,fI op x),jF sg,(4,dV ts)],.dead,dm⟩
def Mh (op:Int) (l:List Sg) (ns:List Nd) (nl nn:Bool) (ll:List (List Nat)) (k:Nat) (x:Nd) (sg:Ty) (ts own:List Ty) (q:Ty) (gd:Bool):St:=⟨(fH l ns nl nn ll k++ [(16,.ptr 4 0 0),(17,.bool gd)]),[(0,⟨[.ref 5 0 0 ts.length],0,false,0,0,false⟩),dg,(2,fI op x),jF sg,(4,⟨[.bool q.tr,.int .i64 q.m,.int .i64 q.d],0,false,0,0,true⟩),(5,dV ts)],.dead,dm⟩
def IJ (op:Int) (f:Nat) (cap:List AV):Prop:=∀ (l:List Sg) (ns:List Nd) (nl nn:Bool) (ll:List (List Nat)) (k:Nat) (x:Nd) (sg:Ty) (ts own:List Ty) (q:Ty) (gd:Bool),CO f (.agg (bC sg)::.nilS::cap) (.ret (.tup [.agg (bC q),.bool gd]))→aC prog ap [] 84 (iX 19 (ae f30)) (Ml op l ns nl nn ll k x sg ts own) .normal (Mh op l ns nl nn ll k x sg ts own q gd)
theorem Sr:IJ 1 112 [.pp [.bool false,.int .i64 1,.int .i64 0] 0]:=fun l ns nl nn ll k x sg ts own q gd c0 nt hn=>pJ 30 [] 0 0 (.n 8 .nil) (.c c0 .nil) hn
theorem Ss:IJ 2 112 [.pp [.bool false,.int .i64 0,.int .i64 1] 0]:=fun l ns nl nn ll k x sg ts own q gd c0 nt hn=>pJ 30 [] 0 0 (.n 8 .nil) (.c c0 .nil) hn
theorem Su:IJ 3 112 [.pp [.bool false,.int .i64 0,.int .i64 0] 0]:=fun l ns nl nn ll k x sg ts own q gd c0 nt hn=>pJ 30 [] 0 0 (.n 8 .nil) (.c c0 .nil) hn
theorem Sv:IJ 4 112 [.pp [.bool true,.int .i64 0,.int .i64 0] 0]:=fun l ns nl nn ll k x sg ts own q gd c0 nt hn=>pJ 30 [] 0 0 (.n 8 .nil) (.c c0 .nil) hn
theorem Sw:IJ 5 113 []:=fun l ns nl nn ll k x sg ts own q gd c0 nt hn=>pJ 30 [] 0 0 (.n 8 .nil) (.c c0 .nil) hn
theorem Sx:IJ 6 113 []:=fun l ns nl nn ll k x sg ts own q gd c0 nt hn=>pJ 30 [] 0 0 (.n 8 .nil) (.c c0 .nil) hn
theorem Sy:IJ 7 113 []:=fun l ns nl nn ll k x sg ts own q gd c0 nt hn=>pJ 30 [] 0 0 (.n 8 .nil) (.c c0 .nil) hn
theorem Sz:IJ 8 113 []:=fun l ns nl nn ll k x sg ts own q gd c0 nt hn=>pJ 30 [] 0 0 (.n 8 .nil) (.c c0 .nil) hn
def Mj (op:Int) (l:List Sg) (ns:List Nd) (nl nn:Bool) (ll:List (List Nat)) (k:Nat) (x:Nd) (sg:Ty) (ts own:List Ty):St:=⟨(fH l ns nl nn ll k++ [(11,.ptr 2 0 0),(12,.ptr 3 0 0),(13,.ref 4 0 0 own.length)]),[(0,⟨[.ref 5 0 0 ts.length],0,false,0,0,false⟩),dg,(2,fI op x),jF sg,(4,dV own),(5,dV ts)],.dead,dm⟩
def Mg (op:Int) (l:List Sg) (ns:List Nd) (nl nn:Bool) (ll:List (List Nat)) (k:Nat) (x:Nd) (sg:Ty) (ts own:List Ty) (q:Ty) (gd:Bool):St:=⟨(fH l ns nl nn ll k++ [(16,.ptr 5 0 0),(17,.bool gd)]),[(0,⟨[.ref 6 0 0 ts.length],0,false,0,0,false⟩),dg,(2,fI op x),jF sg,(4,⟨(bf own),0,true,(List.length (bf own)),3,true⟩),(5,⟨[.bool q.tr,.int .i64 q.m,.int .i64 q.d],0,false,0,0,true⟩),(6,dV ts)],.dead,dm⟩
def yj (op:Int) (f:Nat) (cap:List AV):Prop:=∀ (l:List Sg) (ns:List Nd) (nl nn:Bool) (ll:List (List Nat)) (k:Nat) (x:Nd) (sg:Ty) (ts own:List Ty) (q:Ty) (gd:Bool),CO f (.agg (bC sg)::.sl (List.take (own.length*3) (bf own)) own.length true::cap) (.ret (.tup [.agg (bC q),.bool gd]))→aC prog ap [] 84 (iX 19 (ae f30)) (Mj op l ns nl nn ll k x sg ts own) .normal (Mg op l ns nl nn ll k x sg ts own q gd)
theorem Sq:yj 9 114 [.pp [.fn 82 [] []] 0]:=fun l ns nl nn ll k x sg ts own q gd c0 nt hn=>pJ 30 [] 0 0 (.n 8 .nil) (.c c0 .nil) hn
theorem P1:yj 10 114 [.pp [.fn 82 [] []] 0]:=fun l ns nl nn ll k x sg ts own q gd c0 nt hn=>pJ 30 [] 0 0 (.n 8 .nil) (.c c0 .nil) hn
theorem P2:yj 11 115 [.pp [.int .i64 1] 0]:=fun l ns nl nn ll k x sg ts own q gd c0 nt hn=>pJ 30 [] 0 0 (.n 8 .nil) (.c c0 .nil) hn
theorem P3:yj 12 115 [.pp [.int .i64 (-1)] 0]:=fun l ns nl nn ll k x sg ts own q gd c0 nt hn=>pJ 30 [] 0 0 (.n 8 .nil) (.c c0 .nil) hn
theorem P4:yj 13 114 [.pp [.fn 82 [] []] 0]:=fun l ns nl nn ll k x sg ts own q gd c0 nt hn=>pJ 30 [] 0 0 (.n 8 .nil) (.c c0 .nil) hn
theorem P5:yj 14 114 [.pp [.fn 82 [] []] 0]:=fun l ns nl nn ll k x sg ts own q gd c0 nt hn=>pJ 30 [] 0 0 (.n 8 .nil) (.c c0 .nil) hn
theorem P6:yj 15 84 []:=fun l ns nl nn ll k x sg ts own q gd c0 nt hn=>pJ 30 [] 0 0 (.n 8 .nil) (.c c0 .nil) hn
theorem P7:yj 16 114 [.pp [.fn 85 [] []] 0]:=fun l ns nl nn ll k x sg ts own q gd c0 nt hn=>pJ 30 [] 0 0 (.n 8 .nil) (.c c0 .nil) hn
theorem P8:yj 17 86 []:=fun l ns nl nn ll k x sg ts own q gd c0 nt hn=>pJ 30 [] 0 0 (.n 8 .nil) (.c c0 .nil) hn
theorem P9:yj 18 116 []:=fun l ns nl nn ll k x sg ts own q gd c0 nt hn=>pJ 30 [] 0 0 (.n 8 .nil) (.c c0 .nil) hn
theorem P_:yj 19 116 []:=fun l ns nl nn ll k x sg ts own q gd c0 nt hn=>pJ 30 [] 0 0 (.n 8 .nil) (.c c0 .nil) hn
theorem Qa:yj 20 116 []:=fun l ns nl nn ll k x sg ts own q gd c0 nt hn=>pJ 30 [] 0 0 (.n 8 .nil) (.c c0 .nil) hn
theorem Qb:yj 21 117 []:=fun l ns nl nn ll k x sg ts own q gd c0 nt hn=>pJ 30 [] 0 0 (.n 8 .nil) (.c c0 .nil) hn
theorem Qc:yj 22 117 []:=fun l ns nl nn ll k x sg ts own q gd c0 nt hn=>pJ 30 [] 0 0 (.n 8 .nil) (.c c0 .nil) hn
theorem Qd:yj 23 117 []:=fun l ns nl nn ll k x sg ts own q gd c0 nt hn=>pJ 30 [] 0 0 (.n 8 .nil) (.c c0 .nil) hn
theorem Qe:yj 24 89 []:=fun l ns nl nn ll k x sg ts own q gd c0 nt hn=>pJ 30 [] 0 0 (.n 8 .nil) (.c c0 .nil) hn
theorem Nb {nt:Nat} (hn:84≤nt) (l:List Sg) (ns:List Nd) (nl nn:Bool) (ll:List (List Nat)) (k:Nat) (sg q:Ty) (gd:Bool) (x:Nd) (r:List Nd) (rs ra:List AV) (ag:List Nat) (hw:AV.int .i64 (IntKind.wrap .i64 ((k:Int)+((1:Nat):Int)))= .int .i64 ((k+1:Nat):Int)) (hdr:(List.drop ((Int.toNat (k:Int))*5) (aw ns))=fk x++aw r) (hrow:(List.drop ((Int.toNat x.op)*2) lG)= [AV.bool (br x.op)]++rs) (hag:(List.drop ((Int.toNat (k:Int))*1) (cN ll))= [AV.sl (aj ag) ag.length false]++ra) (h0:lit false (!gd)=true) (h1:(decide (((0:Nat):Int)≤(k:Int)))=true) (h2:(decide ((k:Int)<(ns.length:Int)))=true) (h3:lit true (br x.op)=true) (h4:(decide (((0:Nat):Int)≤x.op))=true) (h5:(decide (x.op<((25:Nat):Int)))=true) (h6:lit true (decide ((k:Int)<(ns.length:Int)))=true) (c0:CO 53 [.sl (aW l) l.length nl,.agg [.int .i64 x.op,.bool x.neg,.str x.num,.str x.den,.str x.name]] (.ret (.agg [.bool sg.tr,.int .i64 sg.m,.int .i64 sg.d]))) (l0:aC prog ap [] 84 (.block 2 (.loop (ac 2 (ae f30)))) ⟨[(0,.sl (aW l) l.length nl),(1,.sl (aw ns) ns.length nn),(4,.ptr 0 0 0),(5,.ptr 1 0 0),(6,.dead),(7,.sl (cN ll) ns.length true),(9,.sl lG 25 true),(10,.int .i64 (k:Int)),(11,.ptr 2 0 0),(12,.ptr 3 0 0),(13,.nilS),(15,.dead),(16,.dead),(17,.dead),(21,.dead),(30,.sl (aw ns) ns.length nn),(31,.int .i64 (ns.length:Int)),(32,.int .i64 (k:Int)),(33,.bool (decide ((k:Int)<(ns.length:Int)))),(42,.bool (br x.op)),(49,.sl (aj ag) ag.length false),(50,.int .i64 (ag.length:Int)),(51,.int .i64 0),(52,.dead),(76,.dead)],[(0,⟨[.nilS],0,false,0,0,true⟩),dg,(2,fI x.op x),jF sg],.dead,dm⟩ (.normal) ⟨(fH l ns nl nn ll k++ [(11,.ptr 2 0 0),(12,.ptr 3 0 0),(13,.nilS)]),[(0,⟨[.nilS],0,false,0,0,true⟩),dg,(2,fI x.op x),jF sg],.dead,dm⟩) (l1:aC prog ap [] 84 (iX 19 (ae f30)) ⟨(fH l ns nl nn ll k++ [(11,.ptr 2 0 0),(12,.ptr 3 0 0),(13,.nilS)]),[(0,⟨[.nilS],0,false,0,0,true⟩),dg,(2,fI x.op x),jF sg],.dead,dm⟩ (.normal) ⟨(fH l ns nl nn ll k++ [(16,.ptr 4 0 0),(17,.bool gd)]),[(0,⟨[.nilS],0,false,0,0,true⟩),dg,(2,fI x.op x),jF sg,(4,⟨[.bool q.tr,.int .i64 q.m,.int .i64 q.d],0,false,0,0,true⟩)],.dead,dm⟩):ah prog ap [] nt (ac 0 (ae f30)) ⟨(fH l ns nl nn ll k),[(0,⟨[.nilS],0,false,0,0,true⟩),dg],.dead,dm⟩ (.normal) ⟨[(0,.sl (aW l) l.length nl),(1,.sl (aw ns) ns.length nn),(4,.ptr 0 0 0),(5,.ptr 1 0 0),(7,.sl (cN ll) ns.length true),(9,.sl lG 25 true),(30,.sl (aw ns) ns.length nn),(31,.int .i64 (ns.length:Int)),(32,.int .i64 (((k+1):Nat):Int))],[(0,⟨[.ref 2 0 0 1],0,false,0,0,false⟩),dg,(2,⟨[.bool q.tr,.int .i64 q.m,.int .i64 q.d],0,false,0,3,true⟩)],.dead,dm⟩:=pN 30 [2,1019] 4 3 (.k 8 h0 (.k 1 h1 (.c h2 (.k 6 h3 (.k 1 h4 (.c h5 (.k 7 h1 (.c h2 (.c h6 .nil))))))))) (.v 82 (.eq hw) (.l l1 (.l l0 (.v 48 (.ppt hag) (.c c0 (.v 40 (.ppt hrow) (.v 35 (.ppt hdr) .nil))))))) hn
theorem Nc {nt:Nat} (hn:84≤nt) (l:List Sg) (ns:List Nd) (nl nn:Bool) (ll:List (List Nat)) (k:Nat) (q:Ty) (gd:Bool) (x:Nd) (r:List Nd) (rs ra:List AV) (ag:List Nat) (hw:AV.int .i64 (IntKind.wrap .i64 ((k:Int)+((1:Nat):Int)))= .int .i64 ((k+1:Nat):Int)) (hdr:(List.drop ((Int.toNat (k:Int))*5) (aw ns))=fk x++aw r) (hrow:(List.drop ((Int.toNat x.op)*2) lG)= [AV.bool (br x.op)]++rs) (hag:(List.drop ((Int.toNat (k:Int))*1) (cN ll))= [AV.sl (aj ag) ag.length false]++ra) (h0:lit false (!gd)=true) (h1:(decide (((0:Nat):Int)≤(k:Int)))=true) (h2:(decide ((k:Int)<(ns.length:Int)))=true) (h3:lit false (br x.op)=true) (h4:(decide (((0:Nat):Int)≤x.op))=true) (h5:(decide (x.op<((25:Nat):Int)))=true) (h6:lit true (decide ((k:Int)<(ns.length:Int)))=true) (l0:aC prog ap [] 84 (.block 2 (.loop (ac 2 (ae f30)))) ⟨[(0,.sl (aW l) l.length nl),(1,.sl (aw ns) ns.length nn),(4,.ptr 0 0 0),(5,.ptr 1 0 0),(6,.dead),(7,.sl (cN ll) ns.length true),(9,.sl lG 25 true),(10,.int .i64 (k:Int)),(11,.ptr 2 0 0),(12,.ptr 3 0 0),(13,.nilS),(15,.dead),(16,.dead),(17,.dead),(21,.dead),(30,.sl (aw ns) ns.length nn),(31,.int .i64 (ns.length:Int)),(32,.int .i64 (k:Int)),(33,.bool (decide ((k:Int)<(ns.length:Int)))),(42,.bool (br x.op)),(49,.sl (aj ag) ag.length false),(50,.int .i64 (ag.length:Int)),(51,.int .i64 0),(52,.dead),(76,.dead)],[(0,⟨[.nilS],0,false,0,0,true⟩),dg,(2,fI x.op x),(3,⟨[.bool false,.int .i64 0,.int .i64 0],0,false,0,0,true⟩)],.dead,dm⟩ (.normal) ⟨(fH l ns nl nn ll k++ [(11,.ptr 2 0 0),(12,.ptr 3 0 0),(13,.nilS)]),[(0,⟨[.nilS],0,false,0,0,true⟩),dg,(2,fI x.op x),(3,⟨[.bool false,.int .i64 0,.int .i64 0],0,false,0,0,true⟩)],.dead,dm⟩) (l1:aC prog ap [] 84 (iX 19 (ae f30)) ⟨(fH l ns nl nn ll k++ [(11,.ptr 2 0 0),(12,.ptr 3 0 0),(13,.nilS)]),[(0,⟨[.nilS],0,false,0,0,true⟩),dg,(2,fI x.op x),(3,⟨[.bool false,.int .i64 0,.int .i64 0],0,false,0,0,true⟩)],.dead,dm⟩ (.normal) ⟨(fH l ns nl nn ll k++ [(16,.ptr 4 0 0),(17,.bool gd)]),[(0,⟨[.nilS],0,false,0,0,true⟩),dg,(2,fI x.op x),(3,⟨[.bool false,.int .i64 0,.int .i64 0],0,false,0,0,true⟩),(4,⟨[.bool q.tr,.int .i64 q.m,.int .i64 q.d],0,false,0,0,true⟩)],.dead,dm⟩):ah prog ap [] nt (ac 0 (ae f30)) ⟨(fH l ns nl nn ll k),[(0,⟨[.nilS],0,false,0,0,true⟩),dg],.dead,dm⟩ (.normal) ⟨[(0,.sl (aW l) l.length nl),(1,.sl (aw ns) ns.length nn),(4,.ptr 0 0 0),(5,.ptr 1 0 0),(7,.sl (cN ll) ns.length true),(9,.sl lG 25 true),(30,.sl (aw ns) ns.length nn),(31,.int .i64 (ns.length:Int)),(32,.int .i64 (((k+1):Nat):Int))],[(0,⟨[.ref 2 0 0 1],0,false,0,0,false⟩),dg,(2,⟨[.bool q.tr,.int .i64 q.m,.int .i64 q.d],0,false,0,3,true⟩)],.dead,dm⟩:=pN 30 [2,1019] 4 1 (.k 8 h0 (.k 1 h1 (.c h2 (.c h3 (.k 1 h4 (.c h5 (.k 7 h1 (.c h2 (.c h6 .nil))))))))) (.v 82 (.eq hw) (.l l1 (.l l0 (.v 48 (.ppt hag) (.v 40 (.ppt hrow) (.v 35 (.ppt hdr) .nil)))))) hn
theorem Nf {nt:Nat} (hn:84≤nt) (l:List Sg) (ns:List Nd) (nl nn:Bool) (ll:List (List Nat)) (k:Nat) (h0:lit false (decide ((k:Int)<(ns.length:Int)))=true):ah prog ap [] nt (ac 0 (ae f30)) ⟨(fH l ns nl nn ll k),[(0,⟨[.nilS],0,false,0,0,true⟩),dg],.dead,dm⟩ (.exit 0) ⟨[(4,.ptr 0 0 0),(5,.ptr 1 0 0)],[(0,⟨[.nilS],0,false,0,0,true⟩),dg],.dead,dm⟩:=pN 30 [2,1019] 1 0 (.c h0 .nil) (.nil) hn
theorem Nh {nt:Nat} (hn:84≤nt) (l:List Sg) (ns:List Nd) (nl nn:Bool) (ll:List (List Nat)) (k:Nat) (x:Nd) (r:List Nd) (rs:List AV) (hdr:(List.drop ((Int.toNat (k:Int))*5) (aw ns))=fk x++aw r) (hrow:(List.drop ((Int.toNat x.op)*2) lG)= [AV.bool (br x.op)]++rs) (h0:lit true (br x.op)=true) (h1:(decide (((0:Nat):Int)≤x.op))=true) (h2:(decide (x.op<((25:Nat):Int)))=true) (h3:(decide (((0:Nat):Int)≤(k:Int)))=true) (h4:(decide ((k:Int)<(ns.length:Int)))=true) (h5:lit true (decide ((k:Int)<(ns.length:Int)))=true) (c0:CO 53 [.sl (aW l) l.length nl,.agg [.int .i64 x.op,.bool x.neg,.str x.num,.str x.den,.str x.name]] (.pan (.ifc 63 (.int .i64 12)))):ah prog ap [] nt (ac 0 (ae f30)) ⟨(fH l ns nl nn ll k),[(0,⟨[.nilS],0,false,0,0,true⟩),dg],.dead,dm⟩ (.panic (.ifc 63 (.int .i64 12))) ⟨[(4,.ptr 0 0 0),(5,.ptr 1 0 0)],[(0,⟨[.nilS],0,false,0,0,true⟩),dg],.dead,dm⟩:=pN 30 [2,1019] 2 3 (.k 5 h0 (.k 1 h1 (.c h2 (.k 7 h3 (.c h4 (.c h5 .nil)))))) (.c c0 (.v 40 (.ppt hrow) (.v 35 (.ppt hdr) .nil))) hn
theorem M9 {nt:Nat} (hn:84≤nt) (l:List Sg) (ns:List Nd) (nl nn:Bool) (ll:List (List Nat)) (ts:List Ty) (k:Nat) (sg q:Ty) (gd:Bool) (x:Nd) (r:List Nd) (rs ra:List AV) (ag:List Nat) (hw:AV.int .i64 (IntKind.wrap .i64 ((k:Int)+((1:Nat):Int)))= .int .i64 ((k+1:Nat):Int)) (hdr:(List.drop ((Int.toNat (k:Int))*5) (aw ns))=fk x++aw r) (hrow:(List.drop ((Int.toNat x.op)*2) lG)= [AV.bool (br x.op)]++rs) (hag:(List.drop ((Int.toNat (k:Int))*1) (cN ll))= [AV.sl (aj ag) ag.length false]++ra) (h0:(Nat.ble (ts.length+1) 1099511627776)=true) (h1:(Nat.ble (ts.length*3) (List.length (bf ts)))=true) (h2:lit false (!gd)=true) (h3:(decide (((0:Nat):Int)≤(k:Int)))=true) (h4:(decide ((k:Int)<(ns.length:Int)))=true) (h5:lit true (br x.op)=true) (h6:(decide (((0:Nat):Int)≤x.op))=true) (h7:(decide (x.op<((25:Nat):Int)))=true) (h8:lit true (decide ((k:Int)<(ns.length:Int)))=true) (c0:CO 53 [.sl (aW l) l.length nl,.agg [.int .i64 x.op,.bool x.neg,.str x.num,.str x.den,.str x.name]] (.ret (.agg [.bool sg.tr,.int .i64 sg.m,.int .i64 sg.d]))) (l0:aC prog ap [] 84 (.block 2 (.loop (ac 2 (ae f30)))) ⟨[(0,.sl (aW l) l.length nl),(1,.sl (aw ns) ns.length nn),(4,.ptr 0 0 0),(5,.ptr 1 0 0),(6,.dead),(7,.sl (cN ll) ns.length true),(9,.sl lG 25 true),(10,.int .i64 (k:Int)),(11,.ptr 2 0 0),(12,.ptr 3 0 0),(13,.nilS),(15,.dead),(16,.dead),(17,.dead),(21,.dead),(30,.sl (aw ns) ns.length nn),(31,.int .i64 (ns.length:Int)),(32,.int .i64 (k:Int)),(33,.bool (decide ((k:Int)<(ns.length:Int)))),(42,.bool (br x.op)),(49,.sl (aj ag) ag.length false),(50,.int .i64 (ag.length:Int)),(51,.int .i64 0),(52,.dead),(76,.dead)],[(0,⟨[.ref 4 0 0 ts.length],0,false,0,0,false⟩),dg,(2,fI x.op x),jF sg,(4,dV ts)],.dead,dm⟩ (.normal) ⟨(fH l ns nl nn ll k++ [(11,.ptr 2 0 0),(12,.ptr 3 0 0),(13,.nilS)]),[(0,⟨[.ref 4 0 0 ts.length],0,false,0,0,false⟩),dg,(2,fI x.op x),jF sg,(4,dV ts)],.dead,dm⟩) (l1:aC prog ap [] 84 (iX 19 (ae f30)) ⟨(fH l ns nl nn ll k++ [(11,.ptr 2 0 0),(12,.ptr 3 0 0),(13,.nilS)]),[(0,⟨[.ref 4 0 0 ts.length],0,false,0,0,false⟩),dg,(2,fI x.op x),jF sg,(4,dV ts)],.dead,dm⟩ (.normal) ⟨(fH l ns nl nn ll k++ [(16,.ptr 4 0 0),(17,.bool gd)]),[(0,⟨[.ref 5 0 0 ts.length],0,false,0,0,false⟩),dg,(2,fI x.op x),jF sg,(4,⟨[.bool q.tr,.int .i64 q.m,.int .i64 q.d],0,false,0,0,true⟩),(5,dV ts)],.dead,dm⟩):ah prog ap [] nt (ac 0 (ae f30)) ⟨(fH l ns nl nn ll k),[(0,⟨[.ref 2 0 0 ts.length],0,false,0,0,false⟩),dg,(2,dV ts)],.dead,dm⟩ (.normal) ⟨[(0,.sl (aW l) l.length nl),(1,.sl (aw ns) ns.length nn),(4,.ptr 0 0 0),(5,.ptr 1 0 0),(7,.sl (cN ll) ns.length true),(9,.sl lG 25 true),(30,.sl (aw ns) ns.length nn),(31,.int .i64 (ns.length:Int)),(32,.int .i64 (((k+1):Nat):Int))],[(0,⟨[.ref 2 0 0 (ts.length+1)],0,false,0,0,false⟩),dg,(2,⟨(bf (ts++ [q])),0,false,0,3,true⟩)],.dead,dm⟩:=pN 30 [2,1019] 3 3 (.k 2 h0 (.c h1 (.k 5 h2 (.k 1 h3 (.c h4 (.k 6 h5 (.k 1 h6 (.c h7 (.k 7 h3 (.c h4 (.c h8 .nil))))))))))) (.v 82 (.eq hw) (.b 81 (nQ ts q) (.l l1 (.l l0 (.v 48 (.ppt hag) (.c c0 (.v 40 (.ppt hrow) (.v 35 (.ppt hdr) .nil)))))))) hn
theorem M_ {nt:Nat} (hn:84≤nt) (l:List Sg) (ns:List Nd) (nl nn:Bool) (ll:List (List Nat)) (ts:List Ty) (k:Nat) (q:Ty) (gd:Bool) (x:Nd) (r:List Nd) (rs ra:List AV) (ag:List Nat) (hw:AV.int .i64 (IntKind.wrap .i64 ((k:Int)+((1:Nat):Int)))= .int .i64 ((k+1:Nat):Int)) (hdr:(List.drop ((Int.toNat (k:Int))*5) (aw ns))=fk x++aw r) (hrow:(List.drop ((Int.toNat x.op)*2) lG)= [AV.bool (br x.op)]++rs) (hag:(List.drop ((Int.toNat (k:Int))*1) (cN ll))= [AV.sl (aj ag) ag.length false]++ra) (h0:(Nat.ble (ts.length+1) 1099511627776)=true) (h1:(Nat.ble (ts.length*3) (List.length (bf ts)))=true) (h2:lit false (!gd)=true) (h3:(decide (((0:Nat):Int)≤(k:Int)))=true) (h4:(decide ((k:Int)<(ns.length:Int)))=true) (h5:lit false (br x.op)=true) (h6:(decide (((0:Nat):Int)≤x.op))=true) (h7:(decide (x.op<((25:Nat):Int)))=true) (h8:lit true (decide ((k:Int)<(ns.length:Int)))=true) (l0:aC prog ap [] 84 (.block 2 (.loop (ac 2 (ae f30)))) ⟨[(0,.sl (aW l) l.length nl),(1,.sl (aw ns) ns.length nn),(4,.ptr 0 0 0),(5,.ptr 1 0 0),(6,.dead),(7,.sl (cN ll) ns.length true),(9,.sl lG 25 true),(10,.int .i64 (k:Int)),(11,.ptr 2 0 0),(12,.ptr 3 0 0),(13,.nilS),(15,.dead),(16,.dead),(17,.dead),(21,.dead),(30,.sl (aw ns) ns.length nn),(31,.int .i64 (ns.length:Int)),(32,.int .i64 (k:Int)),(33,.bool (decide ((k:Int)<(ns.length:Int)))),(42,.bool (br x.op)),(49,.sl (aj ag) ag.length false),(50,.int .i64 (ag.length:Int)),(51,.int .i64 0),(52,.dead),(76,.dead)],[(0,⟨[.ref 4 0 0 ts.length],0,false,0,0,false⟩),dg,(2,fI x.op x),(3,⟨[.bool false,.int .i64 0,.int .i64 0],0,false,0,0,true⟩),(4,dV ts)],.dead,dm⟩ (.normal) ⟨(fH l ns nl nn ll k++ [(11,.ptr 2 0 0),(12,.ptr 3 0 0),(13,.nilS)]),[(0,⟨[.ref 4 0 0 ts.length],0,false,0,0,false⟩),dg,(2,fI x.op x),(3,⟨[.bool false,.int .i64 0,.int .i64 0],0,false,0,0,true⟩),(4,dV ts)],.dead,dm⟩) (l1:aC prog ap [] 84 (iX 19 (ae f30)) ⟨(fH l ns nl nn ll k++ [(11,.ptr 2 0 0),(12,.ptr 3 0 0),(13,.nilS)]),[(0,⟨[.ref 4 0 0 ts.length],0,false,0,0,false⟩),dg,(2,fI x.op x),(3,⟨[.bool false,.int .i64 0,.int .i64 0],0,false,0,0,true⟩),(4,dV ts)],.dead,dm⟩ (.normal) ⟨(fH l ns nl nn ll k++ [(16,.ptr 4 0 0),(17,.bool gd)]),[(0,⟨[.ref 5 0 0 ts.length],0,false,0,0,false⟩),dg,(2,fI x.op x),(3,⟨[.bool false,.int .i64 0,.int .i64 0],0,false,0,0,true⟩),(4,⟨[.bool q.tr,.int .i64 q.m,.int .i64 q.d],0,false,0,0,true⟩),(5,dV ts)],.dead,dm⟩):ah prog ap [] nt (ac 0 (ae f30)) ⟨(fH l ns nl nn ll k),[(0,⟨[.ref 2 0 0 ts.length],0,false,0,0,false⟩),dg,(2,dV ts)],.dead,dm⟩ (.normal) ⟨[(0,.sl (aW l) l.length nl),(1,.sl (aw ns) ns.length nn),(4,.ptr 0 0 0),(5,.ptr 1 0 0),(7,.sl (cN ll) ns.length true),(9,.sl lG 25 true),(30,.sl (aw ns) ns.length nn),(31,.int .i64 (ns.length:Int)),(32,.int .i64 (((k+1):Nat):Int))],[(0,⟨[.ref 2 0 0 (ts.length+1)],0,false,0,0,false⟩),dg,(2,⟨(bf (ts++ [q])),0,false,0,3,true⟩)],.dead,dm⟩:=pN 30 [2,1019] 3 1 (.k 2 h0 (.c h1 (.k 5 h2 (.k 1 h3 (.c h4 (.c h5 (.k 1 h6 (.c h7 (.k 7 h3 (.c h4 (.c h8 .nil))))))))))) (.v 82 (.eq hw) (.b 81 (nQ ts q) (.l l1 (.l l0 (.v 48 (.ppt hag) (.v 40 (.ppt hrow) (.v 35 (.ppt hdr) .nil))))))) hn
theorem Na {nt:Nat} (hn:84≤nt) (l:List Sg) (ns:List Nd) (nl nn:Bool) (ll:List (List Nat)) (ts:List Ty) (k:Nat) (h0:lit false (decide ((k:Int)<(ns.length:Int)))=true):ah prog ap [] nt (ac 0 (ae f30)) ⟨(fH l ns nl nn ll k),[(0,⟨[.ref 2 0 0 ts.length],0,false,0,0,false⟩),dg,(2,dV ts)],.dead,dm⟩ (.exit 0) ⟨[(4,.ptr 0 0 0),(5,.ptr 1 0 0)],[(0,⟨[.ref 2 0 0 ts.length],0,false,0,0,false⟩),dg,(2,dV ts)],.dead,dm⟩:=pN 30 [2,1019] 1 0 (.c h0 .nil) (.nil) hn
theorem Ng {nt:Nat} (hn:84≤nt) (l:List Sg) (ns:List Nd) (nl nn:Bool) (ll:List (List Nat)) (ts:List Ty) (k:Nat) (x:Nd) (r:List Nd) (rs:List AV) (hdr:(List.drop ((Int.toNat (k:Int))*5) (aw ns))=fk x++aw r) (hrow:(List.drop ((Int.toNat x.op)*2) lG)= [AV.bool (br x.op)]++rs) (h0:lit true (br x.op)=true) (h1:(decide (((0:Nat):Int)≤x.op))=true) (h2:(decide (x.op<((25:Nat):Int)))=true) (h3:(decide (((0:Nat):Int)≤(k:Int)))=true) (h4:(decide ((k:Int)<(ns.length:Int)))=true) (h5:lit true (decide ((k:Int)<(ns.length:Int)))=true) (c0:CO 53 [.sl (aW l) l.length nl,.agg [.int .i64 x.op,.bool x.neg,.str x.num,.str x.den,.str x.name]] (.pan (.ifc 63 (.int .i64 12)))):ah prog ap [] nt (ac 0 (ae f30)) ⟨(fH l ns nl nn ll k),[(0,⟨[.ref 2 0 0 ts.length],0,false,0,0,false⟩),dg,(2,dV ts)],.dead,dm⟩ (.panic (.ifc 63 (.int .i64 12))) ⟨[(4,.ptr 0 0 0),(5,.ptr 1 0 0)],[(0,⟨[.ref 2 0 0 ts.length],0,false,0,0,false⟩),dg,(2,dV ts)],.dead,dm⟩:=pN 30 [2,1019] 2 3 (.k 5 h0 (.k 1 h1 (.c h2 (.k 7 h3 (.c h4 (.c h5 .nil)))))) (.c c0 (.v 40 (.ppt hrow) (.v 35 (.ppt hdr) .nil))) hn
theorem M5 {nt:Nat} (hn:84≤nt) (l:List Sg) (ns:List Nd) (nl nn:Bool) (ll:List (List Nat)) (ts own:List Ty) (k:Nat) (sg q:Ty) (gd:Bool) (x:Nd) (r:List Nd) (rs ra:List AV) (ag:List Nat) (hdr:(List.drop ((Int.toNat (k:Int))*5) (aw ns))=fk x++aw r) (hrow:(List.drop ((Int.toNat x.op)*2) lG)= [AV.bool (br x.op)]++rs) (hag:(List.drop ((Int.toNat (k:Int))*1) (cN ll))= [AV.sl (aj ag) ag.length false]++ra) (h0:lit true (!gd)=true) (h1:(decide (((0:Nat):Int)≤(k:Int)))=true) (h2:(decide ((k:Int)<(ns.length:Int)))=true) (h3:lit true (br x.op)=true) (h4:(decide (((0:Nat):Int)≤x.op))=true) (h5:(decide (x.op<((25:Nat):Int)))=true) (h6:lit true (decide ((k:Int)<(ns.length:Int)))=true) (c0:CO 53 [.sl (aW l) l.length nl,.agg [.int .i64 x.op,.bool x.neg,.str x.num,.str x.den,.str x.name]] (.ret (.agg [.bool sg.tr,.int .i64 sg.m,.int .i64 sg.d]))) (l0:aC prog ap [] 84 (.block 2 (.loop (ac 2 (ae f30)))) ⟨[(0,.sl (aW l) l.length nl),(1,.sl (aw ns) ns.length nn),(4,.ptr 0 0 0),(5,.ptr 1 0 0),(6,.dead),(7,.sl (cN ll) ns.length true),(9,.sl lG 25 true),(10,.int .i64 (k:Int)),(11,.ptr 2 0 0),(12,.ptr 3 0 0),(13,.nilS),(15,.dead),(16,.dead),(17,.dead),(21,.dead),(30,.sl (aw ns) ns.length nn),(31,.int .i64 (ns.length:Int)),(32,.int .i64 (k:Int)),(33,.bool (decide ((k:Int)<(ns.length:Int)))),(42,.bool (br x.op)),(49,.sl (aj ag) ag.length false),(50,.int .i64 (ag.length:Int)),(51,.int .i64 0),(52,.dead),(76,.dead)],[(0,⟨[.ref 4 0 0 ts.length],0,false,0,0,false⟩),dg,(2,fI x.op x),jF sg,(4,dV ts)],.dead,dm⟩ (.normal) ⟨(fH l ns nl nn ll k++ [(11,.ptr 2 0 0),(12,.ptr 3 0 0),(13,.ref 4 0 0 own.length)]),[(0,⟨[.ref 5 0 0 ts.length],0,false,0,0,false⟩),dg,(2,fI x.op x),jF sg,(4,dV own),(5,dV ts)],.dead,dm⟩) (l1:aC prog ap [] 84 (iX 19 (ae f30)) ⟨(fH l ns nl nn ll k++ [(11,.ptr 2 0 0),(12,.ptr 3 0 0),(13,.ref 4 0 0 own.length)]),[(0,⟨[.ref 5 0 0 ts.length],0,false,0,0,false⟩),dg,(2,fI x.op x),jF sg,(4,dV own),(5,dV ts)],.dead,dm⟩ (.normal) ⟨(fH l ns nl nn ll k++ [(16,.ptr 5 0 0),(17,.bool gd)]),[(0,⟨[.ref 6 0 0 ts.length],0,false,0,0,false⟩),dg,(2,fI x.op x),jF sg,(4,⟨(bf own),0,true,(List.length (bf own)),3,true⟩),(5,⟨[.bool q.tr,.int .i64 q.m,.int .i64 q.d],0,false,0,0,true⟩),(6,dV ts)],.dead,dm⟩):ah prog ap [] nt (ac 0 (ae f30)) ⟨(fH l ns nl nn ll k),[(0,⟨[.ref 2 0 0 ts.length],0,false,0,0,false⟩),dg,(2,dV ts)],.dead,dm⟩ (.panic (.ifc 63 (.int .i64 13))) ⟨[(4,.ptr 0 0 0),(5,.ptr 1 0 0)],[(0,⟨[.ref 2 0 0 ts.length],0,false,0,0,false⟩),dg,(2,dV ts)],.dead,dm⟩:=pN 30 [2,1019] 3 7 (.c h0 (.k 1 h1 (.c h2 (.k 6 h3 (.k 1 h4 (.c h5 (.k 7 h1 (.c h2 (.c h6 .nil))))))))) (.l l1 (.l l0 (.v 48 (.ppt hag) (.c c0 (.v 40 (.ppt hrow) (.v 35 (.ppt hdr) .nil)))))) hn
theorem M6 {nt:Nat} (hn:84≤nt) (l:List Sg) (ns:List Nd) (nl nn:Bool) (ll:List (List Nat)) (ts own:List Ty) (k:Nat) (sg q:Ty) (gd:Bool) (x:Nd) (r:List Nd) (rs ra:List AV) (ag:List Nat) (hw:AV.int .i64 (IntKind.wrap .i64 ((k:Int)+((1:Nat):Int)))= .int .i64 ((k+1:Nat):Int)) (hdr:(List.drop ((Int.toNat (k:Int))*5) (aw ns))=fk x++aw r) (hrow:(List.drop ((Int.toNat x.op)*2) lG)= [AV.bool (br x.op)]++rs) (hag:(List.drop ((Int.toNat (k:Int))*1) (cN ll))= [AV.sl (aj ag) ag.length false]++ra) (h0:(Nat.ble (ts.length+1) 1099511627776)=true) (h1:(Nat.ble (ts.length*3) (List.length (bf ts)))=true) (h2:lit false (!gd)=true) (h3:(decide (((0:Nat):Int)≤(k:Int)))=true) (h4:(decide ((k:Int)<(ns.length:Int)))=true) (h5:lit true (br x.op)=true) (h6:(decide (((0:Nat):Int)≤x.op))=true) (h7:(decide (x.op<((25:Nat):Int)))=true) (h8:lit true (decide ((k:Int)<(ns.length:Int)))=true) (c0:CO 53 [.sl (aW l) l.length nl,.agg [.int .i64 x.op,.bool x.neg,.str x.num,.str x.den,.str x.name]] (.ret (.agg [.bool sg.tr,.int .i64 sg.m,.int .i64 sg.d]))) (l0:aC prog ap [] 84 (.block 2 (.loop (ac 2 (ae f30)))) ⟨[(0,.sl (aW l) l.length nl),(1,.sl (aw ns) ns.length nn),(4,.ptr 0 0 0),(5,.ptr 1 0 0),(6,.dead),(7,.sl (cN ll) ns.length true),(9,.sl lG 25 true),(10,.int .i64 (k:Int)),(11,.ptr 2 0 0),(12,.ptr 3 0 0),(13,.nilS),(15,.dead),(16,.dead),(17,.dead),(21,.dead),(30,.sl (aw ns) ns.length nn),(31,.int .i64 (ns.length:Int)),(32,.int .i64 (k:Int)),(33,.bool (decide ((k:Int)<(ns.length:Int)))),(42,.bool (br x.op)),(49,.sl (aj ag) ag.length false),(50,.int .i64 (ag.length:Int)),(51,.int .i64 0),(52,.dead),(76,.dead)],[(0,⟨[.ref 4 0 0 ts.length],0,false,0,0,false⟩),dg,(2,fI x.op x),jF sg,(4,dV ts)],.dead,dm⟩ (.normal) ⟨(fH l ns nl nn ll k++ [(11,.ptr 2 0 0),(12,.ptr 3 0 0),(13,.ref 4 0 0 own.length)]),[(0,⟨[.ref 5 0 0 ts.length],0,false,0,0,false⟩),dg,(2,fI x.op x),jF sg,(4,dV own),(5,dV ts)],.dead,dm⟩) (l1:aC prog ap [] 84 (iX 19 (ae f30)) ⟨(fH l ns nl nn ll k++ [(11,.ptr 2 0 0),(12,.ptr 3 0 0),(13,.ref 4 0 0 own.length)]),[(0,⟨[.ref 5 0 0 ts.length],0,false,0,0,false⟩),dg,(2,fI x.op x),jF sg,(4,dV own),(5,dV ts)],.dead,dm⟩ (.normal) ⟨(fH l ns nl nn ll k++ [(16,.ptr 5 0 0),(17,.bool gd)]),[(0,⟨[.ref 6 0 0 ts.length],0,false,0,0,false⟩),dg,(2,fI x.op x),jF sg,(4,⟨(bf own),0,true,(List.length (bf own)),3,true⟩),(5,⟨[.bool q.tr,.int .i64 q.m,.int .i64 q.d],0,false,0,0,true⟩),(6,dV ts)],.dead,dm⟩):ah prog ap [] nt (ac 0 (ae f30)) ⟨(fH l ns nl nn ll k),[(0,⟨[.ref 2 0 0 ts.length],0,false,0,0,false⟩),dg,(2,dV ts)],.dead,dm⟩ (.normal) ⟨[(0,.sl (aW l) l.length nl),(1,.sl (aw ns) ns.length nn),(4,.ptr 0 0 0),(5,.ptr 1 0 0),(7,.sl (cN ll) ns.length true),(9,.sl lG 25 true),(30,.sl (aw ns) ns.length nn),(31,.int .i64 (ns.length:Int)),(32,.int .i64 (((k+1):Nat):Int))],[(0,⟨[.ref 2 0 0 (ts.length+1)],0,false,0,0,false⟩),dg,(2,⟨(bf (ts++ [q])),0,false,0,3,true⟩)],.dead,dm⟩:=pN 30 [2,1019] 3 3 (.k 2 h0 (.c h1 (.k 5 h2 (.k 1 h3 (.c h4 (.k 6 h5 (.k 1 h6 (.c h7 (.k 7 h3 (.c h4 (.c h8 .nil))))))))))) (.v 82 (.eq hw) (.b 81 (nQ ts q) (.l l1 (.l l0 (.v 48 (.ppt hag) (.c c0 (.v 40 (.ppt hrow) (.v 35 (.ppt hdr) .nil)))))))) hn
theorem M7 {nt:Nat} (hn:84≤nt) (l:List Sg) (ns:List Nd) (nl nn:Bool) (ll:List (List Nat)) (ts own:List Ty) (k:Nat) (q:Ty) (gd:Bool) (x:Nd) (r:List Nd) (rs ra:List AV) (ag:List Nat) (hdr:(List.drop ((Int.toNat (k:Int))*5) (aw ns))=fk x++aw r) (hrow:(List.drop ((Int.toNat x.op)*2) lG)= [AV.bool (br x.op)]++rs) (hag:(List.drop ((Int.toNat (k:Int))*1) (cN ll))= [AV.sl (aj ag) ag.length false]++ra) (h0:lit true (!gd)=true) (h1:(decide (((0:Nat):Int)≤(k:Int)))=true) (h2:(decide ((k:Int)<(ns.length:Int)))=true) (h3:lit false (br x.op)=true) (h4:(decide (((0:Nat):Int)≤x.op))=true) (h5:(decide (x.op<((25:Nat):Int)))=true) (h6:lit true (decide ((k:Int)<(ns.length:Int)))=true) (l0:aC prog ap [] 84 (.block 2 (.loop (ac 2 (ae f30)))) ⟨[(0,.sl (aW l) l.length nl),(1,.sl (aw ns) ns.length nn),(4,.ptr 0 0 0),(5,.ptr 1 0 0),(6,.dead),(7,.sl (cN ll) ns.length true),(9,.sl lG 25 true),(10,.int .i64 (k:Int)),(11,.ptr 2 0 0),(12,.ptr 3 0 0),(13,.nilS),(15,.dead),(16,.dead),(17,.dead),(21,.dead),(30,.sl (aw ns) ns.length nn),(31,.int .i64 (ns.length:Int)),(32,.int .i64 (k:Int)),(33,.bool (decide ((k:Int)<(ns.length:Int)))),(42,.bool (br x.op)),(49,.sl (aj ag) ag.length false),(50,.int .i64 (ag.length:Int)),(51,.int .i64 0),(52,.dead),(76,.dead)],[(0,⟨[.ref 4 0 0 ts.length],0,false,0,0,false⟩),dg,(2,fI x.op x),(3,⟨[.bool false,.int .i64 0,.int .i64 0],0,false,0,0,true⟩),(4,dV ts)],.dead,dm⟩ (.normal) ⟨(fH l ns nl nn ll k++ [(11,.ptr 2 0 0),(12,.ptr 3 0 0),(13,.ref 4 0 0 own.length)]),[(0,⟨[.ref 5 0 0 ts.length],0,false,0,0,false⟩),dg,(2,fI x.op x),(3,⟨[.bool false,.int .i64 0,.int .i64 0],0,false,0,0,true⟩),(4,dV own),(5,dV ts)],.dead,dm⟩) (l1:aC prog ap [] 84 (iX 19 (ae f30)) ⟨(fH l ns nl nn ll k++ [(11,.ptr 2 0 0),(12,.ptr 3 0 0),(13,.ref 4 0 0 own.length)]),[(0,⟨[.ref 5 0 0 ts.length],0,false,0,0,false⟩),dg,(2,fI x.op x),(3,⟨[.bool false,.int .i64 0,.int .i64 0],0,false,0,0,true⟩),(4,dV own),(5,dV ts)],.dead,dm⟩ (.normal) ⟨(fH l ns nl nn ll k++ [(16,.ptr 5 0 0),(17,.bool gd)]),[(0,⟨[.ref 6 0 0 ts.length],0,false,0,0,false⟩),dg,(2,fI x.op x),(3,⟨[.bool false,.int .i64 0,.int .i64 0],0,false,0,0,true⟩),(4,⟨(bf own),0,true,(List.length (bf own)),3,true⟩),(5,⟨[.bool q.tr,.int .i64 q.m,.int .i64 q.d],0,false,0,0,true⟩),(6,dV ts)],.dead,dm⟩):ah prog ap [] nt (ac 0 (ae f30)) ⟨(fH l ns nl nn ll k),[(0,⟨[.ref 2 0 0 ts.length],0,false,0,0,false⟩),dg,(2,dV ts)],.dead,dm⟩ (.panic (.ifc 63 (.int .i64 13))) ⟨[(4,.ptr 0 0 0),(5,.ptr 1 0 0)],[(0,⟨[.ref 2 0 0 ts.length],0,false,0,0,false⟩),dg,(2,dV ts)],.dead,dm⟩:=pN 30 [2,1019] 3 5 (.c h0 (.k 1 h1 (.c h2 (.c h3 (.k 1 h4 (.c h5 (.k 7 h1 (.c h2 (.c h6 .nil))))))))) (.l l1 (.l l0 (.v 48 (.ppt hag) (.v 40 (.ppt hrow) (.v 35 (.ppt hdr) .nil))))) hn
theorem M8 {nt:Nat} (hn:84≤nt) (l:List Sg) (ns:List Nd) (nl nn:Bool) (ll:List (List Nat)) (ts own:List Ty) (k:Nat) (q:Ty) (gd:Bool) (x:Nd) (r:List Nd) (rs ra:List AV) (ag:List Nat) (hw:AV.int .i64 (IntKind.wrap .i64 ((k:Int)+((1:Nat):Int)))= .int .i64 ((k+1:Nat):Int)) (hdr:(List.drop ((Int.toNat (k:Int))*5) (aw ns))=fk x++aw r) (hrow:(List.drop ((Int.toNat x.op)*2) lG)= [AV.bool (br x.op)]++rs) (hag:(List.drop ((Int.toNat (k:Int))*1) (cN ll))= [AV.sl (aj ag) ag.length false]++ra) (h0:(Nat.ble (ts.length+1) 1099511627776)=true) (h1:(Nat.ble (ts.length*3) (List.length (bf ts)))=true) (h2:lit false (!gd)=true) (h3:(decide (((0:Nat):Int)≤(k:Int)))=true) (h4:(decide ((k:Int)<(ns.length:Int)))=true) (h5:lit false (br x.op)=true) (h6:(decide (((0:Nat):Int)≤x.op))=true) (h7:(decide (x.op<((25:Nat):Int)))=true) (h8:lit true (decide ((k:Int)<(ns.length:Int)))=true) (l0:aC prog ap [] 84 (.block 2 (.loop (ac 2 (ae f30)))) ⟨[(0,.sl (aW l) l.length nl),(1,.sl (aw ns) ns.length nn),(4,.ptr 0 0 0),(5,.ptr 1 0 0),(6,.dead),(7,.sl (cN ll) ns.length true),(9,.sl lG 25 true),(10,.int .i64 (k:Int)),(11,.ptr 2 0 0),(12,.ptr 3 0 0),(13,.nilS),(15,.dead),(16,.dead),(17,.dead),(21,.dead),(30,.sl (aw ns) ns.length nn),(31,.int .i64 (ns.length:Int)),(32,.int .i64 (k:Int)),(33,.bool (decide ((k:Int)<(ns.length:Int)))),(42,.bool (br x.op)),(49,.sl (aj ag) ag.length false),(50,.int .i64 (ag.length:Int)),(51,.int .i64 0),(52,.dead),(76,.dead)],[(0,⟨[.ref 4 0 0 ts.length],0,false,0,0,false⟩),dg,(2,fI x.op x),(3,⟨[.bool false,.int .i64 0,.int .i64 0],0,false,0,0,true⟩),(4,dV ts)],.dead,dm⟩ (.normal) ⟨(fH l ns nl nn ll k++ [(11,.ptr 2 0 0),(12,.ptr 3 0 0),(13,.ref 4 0 0 own.length)]),[(0,⟨[.ref 5 0 0 ts.length],0,false,0,0,false⟩),dg,(2,fI x.op x),(3,⟨[.bool false,.int .i64 0,.int .i64 0],0,false,0,0,true⟩),(4,dV own),(5,dV ts)],.dead,dm⟩) (l1:aC prog ap [] 84 (iX 19 (ae f30)) ⟨(fH l ns nl nn ll k++ [(11,.ptr 2 0 0),(12,.ptr 3 0 0),(13,.ref 4 0 0 own.length)]),[(0,⟨[.ref 5 0 0 ts.length],0,false,0,0,false⟩),dg,(2,fI x.op x),(3,⟨[.bool false,.int .i64 0,.int .i64 0],0,false,0,0,true⟩),(4,dV own),(5,dV ts)],.dead,dm⟩ (.normal) ⟨(fH l ns nl nn ll k++ [(16,.ptr 5 0 0),(17,.bool gd)]),[(0,⟨[.ref 6 0 0 ts.length],0,false,0,0,false⟩),dg,(2,fI x.op x),(3,⟨[.bool false,.int .i64 0,.int .i64 0],0,false,0,0,true⟩),(4,⟨(bf own),0,true,(List.length (bf own)),3,true⟩),(5,⟨[.bool q.tr,.int .i64 q.m,.int .i64 q.d],0,false,0,0,true⟩),(6,dV ts)],.dead,dm⟩):ah prog ap [] nt (ac 0 (ae f30)) ⟨(fH l ns nl nn ll k),[(0,⟨[.ref 2 0 0 ts.length],0,false,0,0,false⟩),dg,(2,dV ts)],.dead,dm⟩ (.normal) ⟨[(0,.sl (aW l) l.length nl),(1,.sl (aw ns) ns.length nn),(4,.ptr 0 0 0),(5,.ptr 1 0 0),(7,.sl (cN ll) ns.length true),(9,.sl lG 25 true),(30,.sl (aw ns) ns.length nn),(31,.int .i64 (ns.length:Int)),(32,.int .i64 (((k+1):Nat):Int))],[(0,⟨[.ref 2 0 0 (ts.length+1)],0,false,0,0,false⟩),dg,(2,⟨(bf (ts++ [q])),0,false,0,3,true⟩)],.dead,dm⟩:=pN 30 [2,1019] 3 1 (.k 2 h0 (.c h1 (.k 5 h2 (.k 1 h3 (.c h4 (.c h5 (.k 1 h6 (.c h7 (.k 7 h3 (.c h4 (.c h8 .nil))))))))))) (.v 82 (.eq hw) (.b 81 (nQ ts q) (.l l1 (.l l0 (.v 48 (.ppt hag) (.v 40 (.ppt hrow) (.v 35 (.ppt hdr) .nil))))))) hn
theorem Lm {op:Int} (h1:1≤op) (h2:op≤8) (l:List Sg) (ns:List Nd) (nl nn:Bool) (ll:List (List Nat)) (k:Nat) (x:Nd) (sg:Ty) (ts own:List Ty):aC prog ap [] 84 (iX 19 (ae f30)) (Mm op l ns nl nn ll k x sg ts own) .normal (Mi op l ns nl nn ll k x sg ts own (aO op.toNat sg []).2 (aO op.toNat sg []).1):=by
 have:op=1∨op=2∨op=3∨op=4∨op=5∨op=6∨op=7∨op=8:=by omega
 rcases this with rfl|rfl|rfl|rfl|rfl|rfl|rfl|rfl
 ·exact SA l ns nl nn ll k x sg ts own _ _ ((MA false sg).args (bi.cons (bp.refl _) (bi.cons (bp.nilS false rfl) (bi.refl _))))
 ·exact SB l ns nl nn ll k x sg ts own _ _ ((ML false sg).args (bi.cons (bp.refl _) (bi.cons (bp.nilS false rfl) (bi.refl _))))
 ·exact SC l ns nl nn ll k x sg ts own _ _ ((MR false sg).args (bi.cons (bp.refl _) (bi.cons (bp.nilS false rfl) (bi.refl _))))
 ·exact SD l ns nl nn ll k x sg ts own _ _ ((MS false sg).args (bi.cons (bp.refl _) (bi.cons (bp.nilS false rfl) (bi.refl _))))
 ·exact SE l ns nl nn ll k x sg ts own _ _ ((MT false sg).args (bi.cons (bp.refl _) (bi.cons (bp.nilS false rfl) (bi.refl _))))
 ·exact SF l ns nl nn ll k x sg ts own _ _ ((MU false sg).args (bi.cons (bp.refl _) (bi.cons (bp.nilS false rfl) (bi.refl _))))
 ·exact SG l ns nl nn ll k x sg ts own _ _ ((MV false sg).args (bi.cons (bp.refl _) (bi.cons (bp.nilS false rfl) (bi.refl _))))
 ·exact SH l ns nl nn ll k x sg ts own _ _ ((MW false sg).args (bi.cons (bp.refl _) (bi.cons (bp.nilS false rfl) (bi.refl _))))
theorem Ll {op:Int} (h1:1≤op) (h2:op≤8) (l:List Sg) (ns:List Nd) (nl nn:Bool) (ll:List (List Nat)) (k:Nat) (x:Nd) (sg:Ty) (ts own:List Ty):aC prog ap [] 84 (iX 19 (ae f30)) (Ml op l ns nl nn ll k x sg ts own) .normal (Mh op l ns nl nn ll k x sg ts own (aO op.toNat sg []).2 (aO op.toNat sg []).1):=by
 have:op=1∨op=2∨op=3∨op=4∨op=5∨op=6∨op=7∨op=8:=by omega
 rcases this with rfl|rfl|rfl|rfl|rfl|rfl|rfl|rfl
 ·exact Sr l ns nl nn ll k x sg ts own _ _ ((MA false sg).args (bi.cons (bp.refl _) (bi.cons (bp.nilS false rfl) (bi.refl _))))
 ·exact Ss l ns nl nn ll k x sg ts own _ _ ((ML false sg).args (bi.cons (bp.refl _) (bi.cons (bp.nilS false rfl) (bi.refl _))))
 ·exact Su l ns nl nn ll k x sg ts own _ _ ((MR false sg).args (bi.cons (bp.refl _) (bi.cons (bp.nilS false rfl) (bi.refl _))))
 ·exact Sv l ns nl nn ll k x sg ts own _ _ ((MS false sg).args (bi.cons (bp.refl _) (bi.cons (bp.nilS false rfl) (bi.refl _))))
 ·exact Sw l ns nl nn ll k x sg ts own _ _ ((MT false sg).args (bi.cons (bp.refl _) (bi.cons (bp.nilS false rfl) (bi.refl _))))
 ·exact Sx l ns nl nn ll k x sg ts own _ _ ((MU false sg).args (bi.cons (bp.refl _) (bi.cons (bp.nilS false rfl) (bi.refl _))))
 ·exact Sy l ns nl nn ll k x sg ts own _ _ ((MV false sg).args (bi.cons (bp.refl _) (bi.cons (bp.nilS false rfl) (bi.refl _))))
 ·exact Sz l ns nl nn ll k x sg ts own _ _ ((MW false sg).args (bi.cons (bp.refl _) (bi.cons (bp.nilS false rfl) (bi.refl _))))
theorem Lj {op:Int} (h1:9≤op) (h2:op≤24) (l:List Sg) (ns:List Nd) (nl nn:Bool) (ll:List (List Nat)) (k:Nat) (x:Nd) (sg:Ty) (ts own:List Ty) (ha:own.length=bB op) (hr:∀ t ∈ own,aI t=true):aC prog ap [] 84 (iX 19 (ae f30)) (Mj op l ns nl nn ll k x sg ts own) .normal (Mg op l ns nl nn ll k x sg ts own (aO op.toNat sg own).2 (aO op.toNat sg own).1):=by
 have:op=9∨op=10∨op=11∨op=12∨op=13∨op=14∨op=15∨op=16∨op=17∨op=18∨op=19∨op=20∨op=21∨op=22∨op=23∨op=24:=by omega
 rcases this with rfl|rfl|rfl|rfl|rfl|rfl|rfl|rfl|rfl|rfl|rfl|rfl|rfl|rfl|rfl|rfl
 ·obtain ⟨a,b,rfl⟩:=fg ha rfl
  have e:aO 9 sg [a,b]=ax 9 sg [a,b]:=Prod.ext (E0 sg a b (hr a (by simp)) (hr b (by simp))).1 (E0 sg a b (hr a (by simp)) (hr b (by simp))).2
  have h:=Sq l ns nl nn ll k x sg ts [a,b] _ _ (Rq true sg a b)
  rw [← e] at h
  exact h
 ·obtain ⟨a,b,rfl⟩:=fg ha rfl
  have e:aO 10 sg [a,b]=ax 10 sg [a,b]:=Prod.ext (AY sg a b (hr a (by simp)) (hr b (by simp))).1 (AY sg a b (hr a (by simp)) (hr b (by simp))).2
  have h:=P1 l ns nl nn ll k x sg ts [a,b] _ _ (MB true sg a b)
  rw [← e] at h
  exact h
 ·obtain ⟨a,b,rfl⟩:=fg ha rfl
  have e:aO 11 sg [a,b]=ax 11 sg [a,b]:=Prod.ext (AZ sg a b (hr a (by simp)) (hr b (by simp))).1 (AZ sg a b (hr a (by simp)) (hr b (by simp))).2
  have h:=P2 l ns nl nn ll k x sg ts [a,b] _ _ (MC true sg a b)
  rw [← e] at h
  exact h
 ·obtain ⟨a,b,rfl⟩:=fg ha rfl
  have e:aO 12 sg [a,b]=ax 12 sg [a,b]:=Prod.ext (A0 sg a b (hr a (by simp)) (hr b (by simp))).1 (A0 sg a b (hr a (by simp)) (hr b (by simp))).2
  have h:=P3 l ns nl nn ll k x sg ts [a,b] _ _ (MD true sg a b)
  rw [← e] at h
  exact h
 ·obtain ⟨a,b,rfl⟩:=fg ha rfl
  have e:aO 13 sg [a,b]=ax 13 sg [a,b]:=Prod.ext (A7 sg a b (hr a (by simp)) (hr b (by simp))).1 (A7 sg a b (hr a (by simp)) (hr b (by simp))).2
  have h:=P4 l ns nl nn ll k x sg ts [a,b] _ _ (ME true sg a b)
  rw [← e] at h
  exact h
 ·obtain ⟨a,b,rfl⟩:=fg ha rfl
  have e:aO 14 sg [a,b]=ax 14 sg [a,b]:=Prod.ext (A8 sg a b (hr a (by simp)) (hr b (by simp))).1 (A8 sg a b (hr a (by simp)) (hr b (by simp))).2
  have h:=P5 l ns nl nn ll k x sg ts [a,b] _ _ (MF true sg a b)
  rw [← e] at h
  exact h
 ·obtain ⟨a,b,c,rfl⟩:=J8 ha rfl
  have e:aO 15 sg [a,b,c]=ax 15 sg [a,b,c]:=Prod.ext (A9 sg a b c (hr a (by simp)) (hr b (by simp)) (hr c (by simp))).1 (A9 sg a b c (hr a (by simp)) (hr b (by simp)) (hr c (by simp))).2
  have h:=P6 l ns nl nn ll k x sg ts [a,b,c] _ _ (MG true sg a b c)
  rw [← e] at h
  exact h
 ·obtain ⟨a,b,rfl⟩:=fg ha rfl
  have e:aO 16 sg [a,b]=ax 16 sg [a,b]:=Prod.ext (A_ sg a b (hr a (by simp)) (hr b (by simp))).1 (A_ sg a b (hr a (by simp)) (hr b (by simp))).2
  have h:=P7 l ns nl nn ll k x sg ts [a,b] _ _ (MH true sg a b)
  rw [← e] at h
  exact h
 ·obtain ⟨a,b,rfl⟩:=fg ha rfl
  have e:aO 17 sg [a,b]=ax 17 sg [a,b]:=Prod.ext (Ba sg a b (hr a (by simp)) (hr b (by simp))).1 (Ba sg a b (hr a (by simp)) (hr b (by simp))).2
  have h:=P8 l ns nl nn ll k x sg ts [a,b] _ _ (MI true sg a b)
  rw [← e] at h
  exact h
 ·obtain ⟨a,b,rfl⟩:=fg ha rfl
  have e:aO 18 sg [a,b]=ax 18 sg [a,b]:=Prod.ext (Bb sg a b (hr a (by simp)) (hr b (by simp))).1 (Bb sg a b (hr a (by simp)) (hr b (by simp))).2
  have h:=P9 l ns nl nn ll k x sg ts [a,b] _ _ (MJ true sg a b)
  rw [← e] at h
  exact h
 ·obtain ⟨a,b,rfl⟩:=fg ha rfl
  have e:aO 19 sg [a,b]=ax 19 sg [a,b]:=Prod.ext (Bd sg a b (hr a (by simp)) (hr b (by simp))).1 (Bd sg a b (hr a (by simp)) (hr b (by simp))).2
  have h:=P_ l ns nl nn ll k x sg ts [a,b] _ _ (MK true sg a b)
  rw [← e] at h
  exact h
 ·obtain ⟨a,rfl⟩:=mz ha rfl
  have e:aO 20 sg [a]=ax 20 sg [a]:=Prod.ext (Be sg a (hr a (by simp))).1 (Be sg a (hr a (by simp))).2
  have h:=Qa l ns nl nn ll k x sg ts [a] _ _ (MM true sg a)
  rw [← e] at h
  exact h
 ·obtain ⟨a,rfl⟩:=mz ha rfl
  have e:aO 21 sg [a]=ax 21 sg [a]:=Prod.ext (Bf sg a (hr a (by simp))).1 (Bf sg a (hr a (by simp))).2
  have h:=Qb l ns nl nn ll k x sg ts [a] _ _ (MN true sg a)
  rw [← e] at h
  exact h
 ·obtain ⟨a,rfl⟩:=mz ha rfl
  have e:aO 22 sg [a]=ax 22 sg [a]:=Prod.ext (Bg sg a (hr a (by simp))).1 (Bg sg a (hr a (by simp))).2
  have h:=Qc l ns nl nn ll k x sg ts [a] _ _ (MO true sg a)
  rw [← e] at h
  exact h
 ·obtain ⟨a,rfl⟩:=mz ha rfl
  have e:aO 23 sg [a]=ax 23 sg [a]:=Prod.ext (Bh sg a (hr a (by simp))).1 (Bh sg a (hr a (by simp))).2
  have h:=Qd l ns nl nn ll k x sg ts [a] _ _ (MP true sg a)
  rw [← e] at h
  exact h
 ·obtain ⟨a,rfl⟩:=mz ha rfl
  have e:aO 24 sg [a]=ax 24 sg [a]:=Prod.ext (Bk sg a (hr a (by simp))).1 (Bk sg a (hr a (by simp))).2
  have h:=Qe l ns nl nn ll k x sg ts [a] _ _ (MQ true sg a)
  rw [← e] at h
  exact h
theorem zA {op:Int} (h1:1≤op) (h2:op≤24) (sg:Ty) (own:List Ty) (ha:own.length=bB op) (hr:∀ t ∈ own,aI t=true) (hs:aI sg=true) (hq:(aO op.toNat sg own).1=true):aI (aO op.toNat sg own).2=true:=by
 rcases kO h1 h2 with rfl|rfl|rfl|rfl|rfl|rfl|rfl|rfl|rfl|rfl|rfl|rfl|rfl|rfl|rfl|rfl|rfl|rfl|rfl|rfl|rfl|rfl|rfl|rfl
 ·obtain rfl:=lF ha rfl
  exact rfl
 ·obtain rfl:=lF ha rfl
  exact rfl
 ·obtain rfl:=lF ha rfl
  exact rfl
 ·obtain rfl:=lF ha rfl
  exact rfl
 ·obtain rfl:=lF ha rfl
  exact hs
 ·obtain rfl:=lF ha rfl
  exact hs
 ·obtain rfl:=lF ha rfl
  exact hs
 ·obtain rfl:=lF ha rfl
  exact hs
 ·obtain ⟨a,b,rfl⟩:=fg ha rfl
  exact hr a (by simp)
 ·obtain ⟨a,b,rfl⟩:=fg ha rfl
  exact hr a (by simp)
 ·obtain ⟨a,b,rfl⟩:=fg ha rfl
  exact ((Bool.and_eq_true _ _).mp hq).2
 ·obtain ⟨a,b,rfl⟩:=fg ha rfl
  exact ((Bool.and_eq_true _ _).mp hq).2
 ·obtain ⟨a,b,rfl⟩:=fg ha rfl
  exact hr a (by simp)
 ·obtain ⟨a,b,rfl⟩:=fg ha rfl
  exact hr a (by simp)
 ·obtain ⟨a,b,c,rfl⟩:=J8 ha rfl
  exact hr b (by simp)
 ·obtain ⟨a,b,rfl⟩:=fg ha rfl
  exact rfl
 ·obtain ⟨a,b,rfl⟩:=fg ha rfl
  exact rfl
 ·obtain ⟨a,b,rfl⟩:=fg ha rfl
  exact rfl
 ·obtain ⟨a,b,rfl⟩:=fg ha rfl
  exact rfl
 ·obtain ⟨a,rfl⟩:=mz ha rfl
  exact rfl
 ·obtain ⟨a,rfl⟩:=mz ha rfl
  exact hr a (by simp)
 ·obtain ⟨a,rfl⟩:=mz ha rfl
  exact hr a (by simp)
 ·obtain ⟨a,rfl⟩:=mz ha rfl
  exact hr a (by simp)
 ·obtain ⟨a,rfl⟩:=mz ha rfl
  exact hs
theorem wU {l:List Sg} {op:Int} {nm:List UInt8} {t:Ty} (h:dL l op nm=some t):aI t=true:=by
 unfold dL at h
 cases hf:l.find? fun s=>gj s op nm with
 |none=>rw [hf] at h;cases h
 |some s=>
  rw [hf] at h
  have:=List.find?_some hf
  simp only [Option.map_some,Option.some.injEq] at h
  subst h
  simp only [gj,Bool.and_eq_true] at this
  exact this.2.2.2.1
theorem FI:aI zT=true:=by simp [aI,zT,eC]
theorem pY (l:List Sg) (op:Int) (nm:List UInt8):aI ((dL l op nm).getD zT)=true:=by
 cases h:dL l op nm with
 |none=>exact FI
 |some t=>exact wU h
theorem zP {l:List Sg} {x:Nd} {own:List Ty} (h1:1≤x.op) (h2:x.op≤24) (ha:own.length=bB x.op) (hr:∀ t ∈ own,aI t=true) (h:(dG l x own).2=0):aI (dG l x own).1=true:=by
 unfold dG bD at h ⊢
 have h3:=zA h1 h2 ((dL l x.op x.name).getD zT) own ha hr (pY l x.op x.name)
 cases hc:br x.op && !(dL l x.op x.name).isSome with
 |true=>rw [hc] at h;simp at h
 |false=>
  rw [hc] at h
  cases hq:(aO x.op.toNat ((dL l x.op x.name).getD zT) own).1 with
  |true=>simp only [cond_false,cond_true];exact h3 hq
  |false=>rw [hq] at h;simp at h
theorem H5 {op:Int} (h1:1≤op) (h2:op≤24):∃ rs,List.drop ((Int.toNat op)*2) lG= [AV.bool (br op)]++rs:=by
 rcases kO h1 h2 with rfl|rfl|rfl|rfl|rfl|rfl|rfl|rfl|rfl|rfl|rfl|rfl|rfl|rfl|rfl|rfl|rfl|rfl|rfl|rfl|rfl|rfl|rfl|rfl<;>exact ⟨_,rfl⟩
theorem FQ {ll:List (List Nat)} {k:Nat} (h:k<ll.length):List.drop (Int.toNat (k:Int)*1) (cN ll)= [AV.sl (aj (ll.getD k [])) (ll.getD k []).length false]++cN (ll.drop (k+1)):=by
 unfold cN
 rw [aD,Nat.mul_one,← List.map_drop,List.drop_eq_getElem_cons h,List.getD_eq_getElem?_getD,List.getElem?_eq_getElem h]
 rfl
theorem wZ {a:List Nat} {i:Nat} (h:i<a.length):List.drop (Int.toNat (i:Int)*1) (aj a)= [AV.int .i64 ((a.getD i 0:Nat):Int)]++aj (a.drop (i+1)):=by
 unfold aj
 rw [aD,Nat.mul_one,← List.map_drop,List.drop_eq_getElem_cons h,List.getD_eq_getElem?_getD,List.getElem?_eq_getElem h]
 rfl
def Rk (l:List Sg) (ns:List Nd) (nl nn:Bool) (ll:List (List Nat)) (k:Nat) (ag:List Nat) (i:Nat) (v:AV):dQ:=fH l ns nl nn ll k++ [(11,.ptr 2 0 0),(12,.ptr 3 0 0),(49,.sl (aj ag) ag.length false),(50,.int .i64 (ag.length:Int)),(13,v),(51,.int .i64 (i:Int))]
def Rl (x:Nd) (sg:Ty) (ts:List Ty):List Ty→Hp
 | []=> [(0,⟨[.ref 4 0 0 ts.length],0,false,0,0,false⟩),dg,(2,fI x.op x),jF sg,(4,dV ts)]
 |y::r=> [(0,⟨[.ref 5 0 0 ts.length],0,false,0,0,false⟩),dg,(2,fI x.op x),jF sg,(4,dV (y::r)),(5,dV ts)]
def Rm:List Ty→AV
 | []=> .nilS
 |y::r=> .ref 4 0 0 (y::r).length
theorem DB {x:Nd} {sg:Ty} {ts own:List Ty} (h:own ≠ []):Rl x sg ts own= [(0,⟨[.ref 5 0 0 ts.length],0,false,0,0,false⟩),dg,(2,fI x.op x),jF sg,(4,dV own),(5,dV ts)]:=by cases own with|nil=>exact absurd rfl h|cons _ _=>rfl
theorem DD {own:List Ty} (h:own ≠ []):Rm own= .ref 4 0 0 own.length:=by cases own with|nil=>exact absurd rfl h|cons _ _=>rfl
def Gf (l:List Sg) (ns:List Nd) (nl nn:Bool) (ll:List (List Nat)) (k:Nat) (ag:List Nat) (x:Nd) (sg:Ty) (ts:List Ty) (p:Nat × List Ty):St:=⟨Rk l ns nl nn ll k ag p.1 (Rm p.2),Rl x sg ts p.2,.dead,dm⟩
def DC (l:List Sg) (ns:List Nd) (nl nn:Bool) (ll:List (List Nat)) (k:Nat) (x:Nd) (sg:Ty) (ts own:List Ty):St:=⟨fH l ns nl nn ll k++ [(11,.ptr 2 0 0),(12,.ptr 3 0 0),(13,Rm own)],Rl x sg ts own,.dead,dm⟩
theorem Gg {nt:Nat} (hn:84≤nt) (l:List Sg) (ns:List Nd) (nl nn:Bool) (ll:List (List Nat)) (k:Nat) (ag:List Nat) (x:Nd) (sg:Ty) (ts:List Ty) (ha:ag.length<2^38) (hj:∀ j ∈ ag,j<ts.length):∀ (d i:Nat) (own:List Ty),i+d=ag.length→own.length≤i→aA prog ap [] nt (ac 2 (ae f30)) (fun _=> .exit 2) (Gf l ns nl nn ll k ag x sg ts) (DC l ns nl nn ll k x sg ts) (i,own) (own++bK ts (ag.drop i)):=by
 intro d
 induction d with
 |zero=>
  intro i own hi ho
  rw [List.drop_of_length_le (by omega)]
  simp only [bK,List.map_nil,List.append_nil]
  have hi':i=ag.length:=by omega
  subst hi'
  have hx:lit false (decide ((ag.length:Int)<(ag.length:Int)))=true:=by rw [aP];simp [lit]
  refine .done ?_
  cases own with
  |nil=>exact Mu hn l ns nl nn ll k ag ag.length x sg ts hx
  |cons y r=>exact Ms hn l ns nl nn ll k ag ag.length x sg ts (y::r) hx
 | succ d ih=>
  intro i own hi ho
  have hia:i<ag.length:=by omega
  have hjm:ag.getD i 0 ∈ ag:=by rw [List.getD_eq_getElem?_getD,List.getElem?_eq_getElem hia];exact List.getElem_mem hia
  have hjt:=hj _ hjm
  have hnext:=ih (i+1) (own++ [ts.getD (ag.getD i 0) zT]) (by omega) (by simp;omega)
  have e:ag.drop i=ag.getD i 0::ag.drop (i+1):=by
   rw [List.drop_eq_getElem_cons hia,List.getD_eq_getElem?_getD,List.getElem?_eq_getElem hia];rfl
  have e2:own++bK ts (ag.drop i)=own++ [ts.getD (ag.getD i 0) zT]++bK ts (ag.drop (i+1)):=by rw [e];simp [bK]
  rw [e2]
  refine .next ?_ hnext
  have hne2:own++ [ts.getD (ag.getD i 0) zT] ≠ []:=by simp
  have hx:lit true (decide ((i:Int)<(ag.length:Int)))=true:=by rw [aP];simp [lit];omega
  unfold Gf
  dsimp only
  rw [DD hne2,DB hne2]
  cases own with
  |nil=>exact Mt hn l ns nl nn ll k ag i x sg ts (ag.getD i 0) _ _ _ (zQ (by omega)) (wZ hia) (jC hjt) (decide_eq_true (by omega)) (decide_eq_true (by omega)) (decide_eq_true (by omega)) (decide_eq_true (by omega)) hx
  |cons y r=>
   have h:=Mr hn l ns nl nn ll k ag i x sg ts (y::r) (ag.getD i 0) _ _ _ (zQ (by omega)) (wZ hia) (jC hjt) (by simp at ho ⊢;omega) (by rw [eT];simp) (decide_eq_true (by omega)) (decide_eq_true (by omega)) (decide_eq_true (by omega)) (decide_eq_true (by omega)) hx
   rw [List.length_append,List.length_singleton]
   exact h
theorem JM (l:List Sg) (ns:List Nd) (nl nn:Bool) (ll:List (List Nat)) (ts:List Ty) (w e:Int) (h0:lit true (!(w==((0:Nat):Int)))=true) (c0:CO 49 [.sl (aw ns) ns.length nn] (.ret (.int .i64 w))):CO 30 [.sl (aW l) l.length nl,.sl (aw ns) ns.length nn] (.ret (.tup [.nilS,.int .i64 w])):=pK [0] 1 1 (.k 4 h0 .nil) (.c c0 .nil)
theorem JN (l:List Sg) (ns:List Nd) (nl nn:Bool) (ll:List (List Nat)) (ts:List Ty) (w e:Int) (h0:lit false (!(w==((0:Nat):Int)))=true) (c0:CO 49 [.sl (aw ns) ns.length nn] (.ret (.int .i64 w))) (c1:CO 51 [.sl (aw ns) ns.length nn] (.ret (.tup [.sl (cN ll) ns.length true,.bool true]))) (c2:CO 52 [] (.ret (.sl lG 25 true))) (l0:aC prog ap [] 84 (.block 0 (.loop (ac 0 (ae f30)))) ⟨[(0,.sl (aW l) l.length nl),(1,.sl (aw ns) ns.length nn),(4,.ptr 0 0 0),(5,.ptr 1 0 0),(6,.int .i64 w),(7,.sl (cN ll) ns.length true),(9,.sl lG 25 true),(10,.dead),(11,.dead),(12,.dead),(13,.dead),(15,.dead),(16,.dead),(17,.dead),(21,.bool (!(w==((0:Nat):Int)))),(30,.sl (aw ns) ns.length nn),(31,.int .i64 (ns.length:Int)),(32,.int .i64 0),(33,.dead),(42,.dead),(49,.dead),(50,.dead),(51,.dead),(52,.dead),(76,.dead)],[(0,⟨[.nilS],0,false,0,0,true⟩),dg],.dead,dm⟩ (.normal) ⟨[(4,.ptr 0 0 0),(5,.ptr 1 0 0)],[(0,⟨[.ref 2 0 0 ts.length],0,false,0,0,false⟩),dg,(2,dV ts)],.dead,dm⟩):CO 30 [.sl (aW l) l.length nl,.sl (aw ns) ns.length nn] (.ret (.tup [.own (List.take (ts.length*3) (bf ts)) ts.length 3,.int .i64 0])):=pK [0] 2 0 (.k 6 h0 .nil) (.l l0 (.c c2 (.c c1 (.c c0 .nil))))
theorem JO (l:List Sg) (ns:List Nd) (nl nn:Bool) (ll:List (List Nat)) (ts:List Ty) (w e:Int) (h0:lit false (!(w==((0:Nat):Int)))=true) (c0:CO 49 [.sl (aw ns) ns.length nn] (.ret (.int .i64 w))) (c1:CO 51 [.sl (aw ns) ns.length nn] (.ret (.tup [.sl (cN ll) ns.length true,.bool true]))) (c2:CO 52 [] (.ret (.sl lG 25 true))) (l0:aC prog ap [] 84 (.block 0 (.loop (ac 0 (ae f30)))) ⟨[(0,.sl (aW l) l.length nl),(1,.sl (aw ns) ns.length nn),(4,.ptr 0 0 0),(5,.ptr 1 0 0),(6,.int .i64 w),(7,.sl (cN ll) ns.length true),(9,.sl lG 25 true),(10,.dead),(11,.dead),(12,.dead),(13,.dead),(15,.dead),(16,.dead),(17,.dead),(21,.bool (!(w==((0:Nat):Int)))),(30,.sl (aw ns) ns.length nn),(31,.int .i64 (ns.length:Int)),(32,.int .i64 0),(33,.dead),(42,.dead),(49,.dead),(50,.dead),(51,.dead),(52,.dead),(76,.dead)],[(0,⟨[.nilS],0,false,0,0,true⟩),dg],.dead,dm⟩ (.panic (.ifc 63 (.int .i64 e))) ⟨[(4,.ptr 0 0 0),(5,.ptr 1 0 0)],[(0,⟨[.ref 2 0 0 ts.length],0,false,0,0,false⟩),dg,(2,dV ts)],.dead,dm⟩):CO 30 [.sl (aW l) l.length nl,.sl (aw ns) ns.length nn] (.ret (.tup [.nilS,.int .i64 e])):=pK [0] 2 2 (.k 5 h0 .nil) (.l l0 (.c c2 (.c c1 (.c c0 .nil))))
theorem JP (l:List Sg) (ns:List Nd) (nl nn:Bool) (ll:List (List Nat)) (ts:List Ty) (w e:Int) (h0:lit false (!(w==((0:Nat):Int)))=true) (c0:CO 49 [.sl (aw ns) ns.length nn] (.ret (.int .i64 w))) (c1:CO 51 [.sl (aw ns) ns.length nn] (.ret (.tup [.sl (cN ll) ns.length true,.bool true]))) (c2:CO 52 [] (.ret (.sl lG 25 true))) (l0:aC prog ap [] 84 (.block 0 (.loop (ac 0 (ae f30)))) ⟨[(0,.sl (aW l) l.length nl),(1,.sl (aw ns) ns.length nn),(4,.ptr 0 0 0),(5,.ptr 1 0 0),(6,.int .i64 w),(7,.sl (cN ll) ns.length true),(9,.sl lG 25 true),(10,.dead),(11,.dead),(12,.dead),(13,.dead),(15,.dead),(16,.dead),(17,.dead),(21,.bool (!(w==((0:Nat):Int)))),(30,.sl (aw ns) ns.length nn),(31,.int .i64 (ns.length:Int)),(32,.int .i64 0),(33,.dead),(42,.dead),(49,.dead),(50,.dead),(51,.dead),(52,.dead),(76,.dead)],[(0,⟨[.nilS],0,false,0,0,true⟩),dg],.dead,dm⟩ (.panic (.ifc 63 (.int .i64 e))) ⟨[(4,.ptr 0 0 0),(5,.ptr 1 0 0)],[(0,⟨[.nilS],0,false,0,0,true⟩),dg],.dead,dm⟩):CO 30 [.sl (aW l) l.length nl,.sl (aw ns) ns.length nn] (.ret (.tup [.nilS,.int .i64 e])):=pK [0] 2 2 (.k 5 h0 .nil) (.l l0 (.c c2 (.c c1 (.c c0 .nil))))
def Rt:List Ty→Hp
 | []=> [(0,⟨[.nilS],0,false,0,0,true⟩),dg]
 |x::r=> [(0,⟨[.ref 2 0 0 (x::r).length],0,false,0,0,false⟩),dg,(2,dV (x::r))]
theorem jL {ts:List Ty} (h:ts ≠ []):Rt ts= [(0,⟨[.ref 2 0 0 ts.length],0,false,0,0,false⟩),dg,(2,dV ts)]:=by cases ts with|nil=>exact absurd rfl h|cons _ _=>rfl
def pW (l:List Sg) (ns:List Nd) (nl nn:Bool) (ll:List (List Nat)) (p:Nat × List Ty):St:=⟨fH l ns nl nn ll p.1,Rt p.2,.dead,dm⟩
def pd (q:List Ty × Int):St:=⟨[(4,.ptr 0 0 0),(5,.ptr 1 0 0)],Rt q.1,.dead,dm⟩
def LH (q:List Ty × Int):bk:=if q.2=0 then .exit 0 else .panic (.ifc 63 (.int .i64 q.2))
theorem yF (q:List Ty × Int):LH q ≠ .normal:=by unfold LH;split<;>simp
theorem OK (named fo:Bool) (sg:Ty) (op:Nat) (ts:List Ty):bD named fo sg op ts=if named && !fo then (zT,12) else if (aO op sg ts).1 then ((aO op sg ts).2,0) else (zT,13):=by
 unfold bD zT
 cases named && !fo<;>cases (aO op sg ts).1<;>rfl
theorem P0 {op:Int} (h1:1≤op) (h2:op≤8) (sg:Ty):(aO op.toNat sg []).1=true:=by
 have:op=1∨op=2∨op=3∨op=4∨op=5∨op=6∨op=7∨op=8:=by omega
 rcases this with rfl|rfl|rfl|rfl|rfl|rfl|rfl|rfl<;>rfl
theorem Md {op:Int} (h1:1≤op) (h2:op≤24) (h:bB op=0):op≤8:=by
 by_cases h3:op<9
 ·omega
 ·exfalso
  have:op=9∨op=10∨op=11∨op=12∨op=13∨op=14∨op=15∨op=16∨op=17∨op=18∨op=19∨op=20∨op=21∨op=22∨op=23∨op=24:=by omega
  rcases this with rfl|rfl|rfl|rfl|rfl|rfl|rfl|rfl|rfl|rfl|rfl|rfl|rfl|rfl|rfl|rfl<;>simp [bB] at h
theorem F2 {op:Int} (h1:1≤op) (h:bB op ≠ 0):9≤op:=by
 by_cases h3:op<9
 ·exfalso
  have:op=1∨op=2∨op=3∨op=4∨op=5∨op=6∨op=7∨op=8:=by omega
  rcases this with rfl|rfl|rfl|rfl|rfl|rfl|rfl|rfl<;>simp [bB] at h
 ·omega
theorem DL {nt:Nat} (hn:84≤nt) (l:List Sg) (ns p r:List Nd) (nl nn:Bool) (ll:List (List Nat)) (x:Nd) (ts:List Ty) (hns:ns=p++x::r) (hle:ns.length<2^38) (hlg:l.length<2^40) (hll:ll.length=ns.length) (hts:ts.length=p.length) (h1:1≤x.op) (h2:x.op≤24) (ha:(ll.getD p.length []).length=bB x.op) (hj:∀ j ∈ ll.getD p.length [],j<p.length) (hr:∀ t ∈ ts,aI t=true):
  ((dG l x (bK ts (ll.getD p.length []))).2=0→ah prog ap [] nt (ac 0 (ae f30)) (pW l ns nl nn ll (p.length,ts)) .normal (pW l ns nl nn ll (p.length+1,ts++ [(dG l x (bK ts (ll.getD p.length []))).1])))∧
  (¬ (dG l x (bK ts (ll.getD p.length []))).2=0→ah prog ap [] nt (ac 0 (ae f30)) (pW l ns nl nn ll (p.length,ts)) (LH (ts,(dG l x (bK ts (ll.getD p.length []))).2)) (pd (ts,(dG l x (bK ts (ll.getD p.length []))).2))):=by
 have hlen:p.length+(r.length+1)=ns.length:=by rw [hns];simp
 have hdr:List.drop (Int.toNat (p.length:Int)*5) (aw ns)=fk x++aw r:=by rw [hns];exact jP rfl
 obtain ⟨rs,hrow⟩:=H5 h1 h2
 have hag:=FQ (ll:=ll) (k:=p.length) (by omega)
 have hsig:∀ t,dL l x.op x.name=some t→br x.op=true→CO 53 [.sl (aW l) l.length nl,.agg (fk x)] (.ret (.agg (bC t))):=fun t h hm=>Fg l nl x t hlg (by rw [← Am l x.name hm];exact h)
 have hsigN:dL l x.op x.name=none→br x.op=true→CO 53 [.sl (aW l) l.length nl,.agg (fk x)] (.pan (.ifc 63 (.int .i64 12))):=fun h hm=>Ff l nl x hlg (by rw [← Am l x.name hm];exact h)
 have hfn:=D1 l (op:=x.op) x.name
 have hrp:∀ t ∈ bK ts (ll.getD p.length []),aI t=true:=by
  intro t ht
  obtain ⟨j,hj1,rfl⟩:=List.mem_map.1 ht
  have:=hj j hj1
  rw [List.getD_eq_getElem?_getD,List.getElem?_eq_getElem (by omega)]
  exact hr _ (List.getElem_mem _)
 have hpl:(bK ts (ll.getD p.length [])).length=bB x.op:=by simp [bK];exact ha
 have har:=qR x.op
 have hin:ts ≠ []→∀ sg nt,84≤nt→aA prog ap [] nt (ac 2 (ae f30)) (fun _=> .exit 2) (Gf l ns nl nn ll p.length (ll.getD p.length []) x sg ts) (DC l ns nl nn ll p.length x sg ts) (0,[]) (bK ts (ll.getD p.length [])):=by
  intro _ sg nt hn
  have h:=Gg hn l ns nl nn ll p.length (ll.getD p.length []) x sg ts (by omega) (by rw [hts];exact hj) (ll.getD p.length []).length 0 [] (by omega) (by simp)
  rwa [List.nil_append,List.drop_zero] at h
 have g0:decide (((0:Nat):Int)≤(p.length:Int))=true:=decide_eq_true (by omega)
 have g1:decide ((p.length:Int)<(ns.length:Int))=true:=decide_eq_true (by omega)
 have g2:lit true (decide ((p.length:Int)<(ns.length:Int)))=true:=by rw [g1];rfl
 have g3:decide (((0:Nat):Int)≤x.op)=true:=decide_eq_true (by omega)
 have g4:decide (x.op<((25:Nat):Int))=true:=decide_eq_true (by omega)
 have hw:=zQ (i:=p.length) (by omega)
 have hown0:ts= []→ll.getD p.length []= []:=by
  intro h
  cases hh:ll.getD p.length [] with
  |nil=>rfl
  |cons j _=>have h4:=hj j (by rw [hh];simp);rw [h] at hts;simp at hts;omega
 unfold dG
 rw [OK]
 generalize hA:ll.getD p.length []=ag at*
 cases hm:br x.op && !(dL l x.op x.name).isSome with
 | true=>
  simp only [if_true]
  refine ⟨fun h=>absurd h (by decide),fun _=> ?_⟩
  rw [Bool.and_eq_true] at hm
  have hno:dL l x.op x.name=none:=by cases hf:dL l x.op x.name with|none=>rfl|some t=>rw [hf] at hm;simp at hm
  have hs:=hsigN hno hm.1
  have hm1:lit true (br x.op)=true:=hm.1
  rcases Decidable.em (ts= []) with hT|hT
  ·subst hT
   exact Nh hn l ns nl nn ll p.length x r rs hdr hrow hm1 g3 g4 g0 g1 g2 hs
  ·unfold pW pd
   dsimp only
   rw [jL hT]
   exact Ng hn l ns nl nn ll ts p.length x r rs hdr hrow hm1 g3 g4 g0 g1 g2 hs
 | false=>
  simp only [Bool.false_eq_true,if_false]
  have hsg:(br x.op=true∧CO 53 [.sl (aW l) l.length nl,.agg (fk x)] (.ret (.agg (bC ((dL l x.op x.name).getD zT)))))∨(br x.op=false∧(dL l x.op x.name).getD zT=zT):=by
   cases hnm:br x.op with
   |false=>right;rw [hfn hnm];exact ⟨rfl,rfl⟩
   |true=>
    left
    rw [hnm] at hm
    cases hf:dL l x.op x.name with
    |none=>rw [hf] at hm;simp at hm
    |some t=>exact ⟨rfl,hsig t hf hnm⟩
  generalize (dL l x.op x.name).getD zT=sg at*
  by_cases hz:ag= []
  ·subst hz
   have h8:=Md h1 h2 ha.symm
   have hg:=P0 h1 h8 sg
   have hp0:bK ts []= []:=rfl
   rw [hp0] at*
   simp only [hg,if_true]
   refine ⟨fun _=> ?_,fun h=>absurd trivial h⟩
   rcases Decidable.em (ts= []) with hT|hT
   ·subst hT
    have l1:=Lm h1 h8 l ns nl nn ll p.length x sg [] []
    rw [hg] at l1
    rcases hsg with ⟨hs1,hs2⟩|⟨hs1,rfl⟩
    ·exact Nb hn l ns nl nn ll p.length sg _ true x r rs _ [] hw hdr hrow hag rfl g0 g1 hs1 g3 g4 g2 hs2 (fun nt hnt=>(aA.blk (id:=2) (e:=fun _:Unit=>bk.exit 2) (st:=fun _:Unit=>(⟨Rk l ns nl nn ll p.length [] 0 .nilS,[(0,⟨[.nilS],0,false,0,0,true⟩),dg,(2,fI x.op x),jF sg],.dead,dm⟩:St)) (out:=fun _:Unit=>(⟨fH l ns nl nn ll p.length++ [(11,.ptr 2 0 0),(12,.ptr 3 0 0),(13,.nilS)],[(0,⟨[.nilS],0,false,0,0,true⟩),dg,(2,fI x.op x),jF sg],.dead,dm⟩:St)) (a:=()) (r:=()) (e':= .normal) (fun nt hn=> .done (IM hn l ns nl nn ll p.length [] 0 x sg rfl)) (by simp) rfl (aF.of ⟨rfl,rfl,rfl,rfl,rfl,rfl,rfl,rfl,rfl,rfl,rfl,rfl,rfl,rfl,rfl,trivial⟩) (aF.refl _)) nt hnt) l1
    ·exact Nc hn l ns nl nn ll p.length _ true x r rs _ [] hw hdr hrow hag rfl g0 g1 (by rw [hs1];rfl) g3 g4 g2 (fun nt hnt=>(aA.blk (id:=2) (e:=fun _:Unit=>bk.exit 2) (st:=fun _:Unit=>(⟨Rk l ns nl nn ll p.length [] 0 .nilS,[(0,⟨[.nilS],0,false,0,0,true⟩),dg,(2,fI x.op x),jF zT],.dead,dm⟩:St)) (out:=fun _:Unit=>(⟨fH l ns nl nn ll p.length++ [(11,.ptr 2 0 0),(12,.ptr 3 0 0),(13,.nilS)],[(0,⟨[.nilS],0,false,0,0,true⟩),dg,(2,fI x.op x),jF zT],.dead,dm⟩:St)) (a:=()) (r:=()) (e':= .normal) (fun nt hn=> .done (IM hn l ns nl nn ll p.length [] 0 x zT rfl)) (by simp) rfl (aF.of ⟨rfl,rfl,rfl,rfl,rfl,rfl,rfl,rfl,rfl,rfl,rfl,rfl,rfl,rfl,rfl,trivial⟩) (aF.refl _)) nt hnt) l1
   ·have l1:=Ll h1 h8 l ns nl nn ll p.length x sg ts []
    rw [hg] at l1
    have hin2:=hin hT sg
    have hL:∀ q:Ty,ts++ [q] ≠ []:=by simp
    have htl:ts.length<2^38:=by omega
    unfold pW
    dsimp only
    rw [jL hT,jL (hL _),List.length_append,List.length_singleton]
    have f0:Nat.ble (ts.length+1) 1099511627776=true:=by simp;omega
    have f1:Nat.ble (ts.length*3) (List.length (bf ts))=true:=by rw [eT];simp
    rcases hsg with ⟨hs1,hs2⟩|⟨hs1,rfl⟩
    ·exact M9 hn l ns nl nn ll ts p.length sg _ true x r rs _ [] hw hdr hrow hag f0 f1 rfl g0 g1 hs1 g3 g4 g2 hs2 (fun nt hnt=>(aA.blk (id:=2) (e':= .normal) hin2 (by simp) rfl (aF.of ⟨rfl,rfl,rfl,rfl,rfl,rfl,rfl,rfl,rfl,rfl,rfl,rfl,rfl,rfl,rfl,trivial⟩) (aF.refl _)) nt hnt) l1
    ·exact M_ hn l ns nl nn ll ts p.length _ true x r rs _ [] hw hdr hrow hag f0 f1 rfl g0 g1 (by rw [hs1];rfl) g3 g4 g2 (fun nt hnt=>(aA.blk (id:=2) (e':= .normal) hin2 (by simp) rfl (aF.of ⟨rfl,rfl,rfl,rfl,rfl,rfl,rfl,rfl,rfl,rfl,rfl,rfl,rfl,rfl,rfl,trivial⟩) (aF.refl _)) nt hnt) l1
  ·have h9:=F2 h1 (by rw [← ha];intro h;exact hz (List.eq_nil_of_length_eq_zero h))
   have hT:ts ≠ []:=fun h=>hz (hown0 h)
   have hin2:=hin hT sg
   have hne:bK ts ag ≠ []:=by intro h;apply hz;simpa [bK] using h
   have l1:=Lj h9 h2 l ns nl nn ll p.length x sg ts (bK ts ag) hpl hrp
   generalize bK ts ag=own at*
   have hL:∀ q:Ty,ts++ [q] ≠ []:=by simp
   have f0:Nat.ble (ts.length+1) 1099511627776=true:=by simp;omega
   have f1:Nat.ble (ts.length*3) (List.length (bf ts))=true:=by rw [eT];simp
   have hin3:=fun nt hn=>hin2 nt hn
   unfold DC at hin3
   have hloop:=aA.blk (id:=2) (e':= .normal) (s':=⟨fH l ns nl nn ll p.length++ [(11,.ptr 2 0 0),(12,.ptr 3 0 0),(13,.ref 4 0 0 own.length)],[(0,⟨[.ref 5 0 0 ts.length],0,false,0,0,false⟩),dg,(2,fI x.op x),jF sg,(4,dV own),(5,dV ts)],.dead,dm⟩) (s:=Gf l ns nl nn ll p.length ag x sg ts (0,[])) hin3 (by simp) rfl (aF.refl _) (by rw [DD hne,DB hne];exact aF.refl _)
   cases hg:(aO x.op.toNat sg own).1 with
   |true=>
    rw [hg] at l1
    simp only [if_true]
    refine ⟨fun _=> ?_,fun h=>absurd trivial h⟩
    unfold pW
    dsimp only
    rw [jL hT,jL (hL _),List.length_append,List.length_singleton]
    rcases hsg with ⟨hs1,hs2⟩|⟨hs1,rfl⟩
    ·exact M6 hn l ns nl nn ll ts own p.length sg _ true x r rs _ ag hw hdr hrow hag f0 f1 rfl g0 g1 hs1 g3 g4 g2 hs2 (fun nt hnt=>(hloop nt hnt).weak (aF.of ⟨rfl,rfl,rfl,rfl,rfl,rfl,rfl,rfl,rfl,rfl,rfl,rfl,rfl,rfl,rfl,trivial⟩) (aF.refl _)) l1
    ·exact M8 hn l ns nl nn ll ts own p.length _ true x r rs _ ag hw hdr hrow hag f0 f1 rfl g0 g1 (by rw [hs1];rfl) g3 g4 g2 (fun nt hnt=>(hloop nt hnt).weak (aF.of ⟨rfl,rfl,rfl,rfl,rfl,rfl,rfl,rfl,rfl,rfl,rfl,rfl,rfl,rfl,rfl,trivial⟩) (aF.refl _)) l1
   |false=>
    rw [hg] at l1
    simp only [Bool.false_eq_true,if_false]
    refine ⟨fun h=>absurd h (by decide),fun _=> ?_⟩
    unfold pW pd
    dsimp only
    rw [jL hT]
    rcases hsg with ⟨hs1,hs2⟩|⟨hs1,rfl⟩
    ·exact M5 hn l ns nl nn ll ts own p.length sg _ false x r rs _ ag hdr hrow hag rfl g0 g1 hs1 g3 g4 g2 hs2 (fun nt hnt=>(hloop nt hnt).weak (aF.of ⟨rfl,rfl,rfl,rfl,rfl,rfl,rfl,rfl,rfl,rfl,rfl,rfl,rfl,rfl,rfl,trivial⟩) (aF.refl _)) l1
    ·exact M7 hn l ns nl nn ll ts own p.length _ false x r rs _ ag hdr hrow hag rfl g0 g1 (by rw [hs1];rfl) g3 g4 g2 (fun nt hnt=>(hloop nt hnt).weak (aF.of ⟨rfl,rfl,rfl,rfl,rfl,rfl,rfl,rfl,rfl,rfl,rfl,rfl,rfl,rfl,rfl,trivial⟩) (aF.refl _)) l1
def ko (l:List Sg):List Nd→Nat→List Nat→List Ty→List Ty × Int
 | [],_,_,ts=>(ts,0)
 |x::r,k,st,ts=>if (dG l x (bK ts (st.drop (st.length - bB x.op)))).2=0 then ko l r (k+1) (st.take (st.length - bB x.op)++ [k]) (ts++ [(dG l x (bK ts (st.drop (st.length - bB x.op)))).1]) else (ts,(dG l x (bK ts (st.drop (st.length - bB x.op)))).2)
theorem BB (l:List Sg):∀ (r:List Nd) (k:Nat) (st:List Nat) (ts:List Ty),dT l r k st ts=if (ko l r k st ts).2=0 then .inl (ko l r k st ts).1 else .inr (ko l r k st ts).2:=by
 intro r
 induction r with
 |nil=>intro k st ts;simp [dT,ko]
 |cons x r ih=>
  intro k st ts
  simp only [dT,ko]
  split
  ·exact ih _ _ _
  ·rfl
theorem Gl {nt:Nat} (hn:84≤nt) (l:List Sg) (ns:List Nd) (nl nn:Bool) (hle:ns.length<2^38) (hlg:l.length<2^40) (e0:Nat):∀ (r p:List Nd) (st:List Nat) (done:List (List Nat)) (ts:List Ty),p++r=ns→fB r st.length= .inl e0→(∀ j ∈ st,j<p.length)→done.length=p.length→ts.length=p.length→(∀ t ∈ ts,aI t=true)→bE ns=done++jf r p.length st→aA prog ap [] nt (ac 0 (ae f30)) LH (pW l ns nl nn (bE ns)) pd (p.length,ts) (ko l r p.length st ts):=by
 intro r
 induction r with
 | nil=>
  intro p st done ts h hc hst hd hts hrt ha
  have hp:p.length=ns.length:=by rw [← h];simp
  simp only [ko]
  refine .done ?_
  have hq:lit false (decide ((p.length:Int)<(ns.length:Int)))=true:=by rw [hp,aP];simp [lit]
  rcases Decidable.em (ts= []) with hT|hT
  ·subst hT
   exact Nf hn l ns nl nn (bE ns) p.length hq
  ·unfold pW pd
   dsimp only
   rw [jL hT]
   exact Na hn l ns nl nn (bE ns) ts p.length hq
 | cons x r ih=>
  intro p st done ts h hc hst hd hts hrt ha
  obtain ⟨⟨h1,h2⟩,har,hc2⟩:=qj hc
  have hst2:(st.take (st.length - bB x.op)++ [p.length]).length=st.length - bB x.op+1:=by
   rw [List.length_append,List.length_take,List.length_singleton,Nat.min_eq_left (by omega)]
  have hget:(bE ns).getD p.length []=st.drop (st.length - bB x.op):=by
   rw [ha]
   simp only [jf]
   rw [← hd,List.getD_eq_getElem?_getD,List.getElem?_append_right (Nat.le_refl _),Nat.sub_self]
   rfl
  have hlen:(bE ns).length=ns.length:=by unfold bE;rw [kx]
  have hal:((bE ns).getD p.length []).length=bB x.op:=by rw [hget,List.length_drop];omega
  have hjs:∀ j ∈ (bE ns).getD p.length [],j<p.length:=by rw [hget];exact fun j hj=>hst j (List.mem_of_mem_drop hj)
  obtain ⟨s1,s2⟩:=DL hn l ns p r nl nn (bE ns) x ts h.symm hle hlg hlen hts h1 h2 hal hjs hrt
  have hrp:∀ t ∈ bK ts ((bE ns).getD p.length []),aI t=true:=by
   intro t ht
   obtain ⟨j,hj1,rfl⟩:=List.mem_map.1 ht
   have:=hjs j hj1
   rw [List.getD_eq_getElem?_getD,List.getElem?_eq_getElem (by omega)]
   exact hrt _ (List.getElem_mem _)
  have hright:=zP (l:=l) h1 h2 (by simp [bK];exact hal) hrp
  rw [hget] at s1 s2 hright
  simp only [ko]
  split
  ·rename_i he
   have hnext:=ih (p++ [x]) (st.take (st.length - bB x.op)++ [p.length]) (done++ [st.drop (st.length - bB x.op)]) (ts++ [(dG l x (bK ts (st.drop (st.length - bB x.op)))).1]) (by simp [h]) (by rw [hst2];exact hc2) (by
    intro j hj
    rcases List.mem_append.mp hj with hj|hj
    ·have:=hst j (List.mem_of_mem_take hj);simp;omega
    ·simp at hj;simp;omega) (by simp [hd]) (by simp [hts]) (by
    intro t ht
    rcases List.mem_append.mp ht with ht|ht
    ·exact hrt t ht
    ·simp at ht;subst ht;exact hright he) (by rw [ha];simp only [jf,List.length_append,List.length_singleton,List.append_assoc,List.singleton_append])
   rw [List.length_append,List.length_singleton] at hnext
   exact .next (s1 he) hnext
  ·rename_i he
   exact .done (s2 he)
theorem Dt (ns:List Nd) (nn:Bool) (hsm:∀ x ∈ ns,x.sm) (hc:dX ns=0):CO 51 [.sl (aw ns) ns.length nn] (.ret (.tup [.sl (cN (bE ns)) ns.length true,.bool true])):=F4 ns nn hsm hc
theorem oL:CO 52 [] (.ret (.sl lG 25 true)):=E1.thaw (by simp)
theorem C0 (l:List Sg) (ns:List Nd) (h:(ko l ns 0 [] []).2=0):(ko l ns 0 [] []).1.length=ns.length:=by
 have h1:=BB l ns 0 [] []
 rw [if_pos h] at h1
 have:=oQ l ns 0 [] [] _ h1
 simpa using this
theorem fO (l:List Sg) (ns:List Nd) (nl nn:Bool) (hlg:l.length<2^40) (hsm:∀ x ∈ ns,x.sm):CO 30 [.sl (aW l) l.length nl,.sl (aw ns) ns.length nn] (.ret (FD (eL l ns))):=by
 have hck:=wI ns nn hsm
 unfold eL
 by_cases hc:dX ns=0
 ·rw [if_pos hc]
  have ha:=Dt ns nn hsm hc
  obtain ⟨h60,hin⟩:=gX hc
  rw [hc] at hck
  have hloop:=fun nt (hn:84≤nt)=>Gl hn l ns nl nn (by omega) hlg 1 ns [] [] [] [] rfl hin (by simp) rfl rfl (by simp) rfl
  rw [List.length_nil] at hloop
  rw [BB]
  have hlen:=C0 l ns
  have h0:0<ns.length:=by
   cases ns with
   |nil=>simp [fB] at hin
   |cons _ _=>simp
  generalize ko l ns 0 [] []=q at*
  obtain ⟨ts,e⟩:=q
  dsimp only at hlen ⊢
  by_cases he:e=0
  ·subst he
   have hl:=hlen rfl
   rw [if_pos rfl]
   have hT:ts ≠ []:=by intro h;subst h;simp at hl;omega
   have htk:List.take (ts.length*3) (bf ts)=bf ts:=List.take_of_length_le (by rw [eT];omega)
   have l0:=aA.blk (id:=0) (e':= .normal) (s':=⟨[(4,.ptr 0 0 0),(5,.ptr 1 0 0)],[(0,⟨[.ref 2 0 0 ts.length],0,false,0,0,false⟩),dg,(2,dV ts)],.dead,dm⟩) (s:=pW l ns nl nn (bE ns) (0,[])) hloop (yF _) rfl (aF.refl _) (by unfold pd;dsimp only;rw [jL hT];exact aF.refl _)
   have hb:=JN l ns nl nn (bE ns) ts 0 0 rfl hck ha oL (fun nt hnt=>(l0 nt hnt).weak (aF.of ⟨rfl,rfl,rfl,rfl,rfl,rfl,rfl,rfl,rfl,trivial⟩) (aF.refl _))
   have hb:=hb.thaw (by simp)
   simp only [jz,List.map_cons,List.map_nil,thaw,htk] at hb
   exact hb
  ·rw [if_neg he]
   rcases Decidable.em (ts= []) with hT|hT
   ·subst hT
    have l0:=aA.blk (id:=0) (e':= .panic (.ifc 63 (.int .i64 e))) (s':=pd ([],e)) (s:=pW l ns nl nn (bE ns) (0,[])) hloop (yF _) (by unfold LH;dsimp only;rw [if_neg he];rfl) (aF.refl _) (aF.refl _)
    exact JP l ns nl nn (bE ns) [] 0 e rfl hck ha oL (fun nt hnt=>(l0 nt hnt).weak (aF.of ⟨rfl,rfl,rfl,rfl,rfl,rfl,rfl,rfl,rfl,trivial⟩) (aF.refl _))
   ·have l0:=aA.blk (id:=0) (e':= .panic (.ifc 63 (.int .i64 e))) (s':=⟨[(4,.ptr 0 0 0),(5,.ptr 1 0 0)],[(0,⟨[.ref 2 0 0 ts.length],0,false,0,0,false⟩),dg,(2,dV ts)],.dead,dm⟩) (s:=pW l ns nl nn (bE ns) (0,[])) hloop (yF _) (by unfold LH;dsimp only;rw [if_neg he];rfl) (aF.refl _) (by unfold pd;dsimp only;rw [jL hT];exact aF.refl _)
    exact JO l ns nl nn (bE ns) ts 0 e rfl hck ha oL (fun nt hnt=>(l0 nt hnt).weak (aF.of ⟨rfl,rfl,rfl,rfl,rfl,rfl,rfl,rfl,rfl,trivial⟩) (aF.refl _))
 ·rw [if_neg hc]
  exact JM l ns nl nn (bE ns) [] (dX ns) 0 (by simpa [lit] using hc) hck
theorem M3 (l:List Sg) (ns:List Nd) (nl nn:Bool) (ts:List Ty) (e:Int) (h0:(chk .bool (List.headD (List.drop ((Int.toNat (IntKind.wrap .i64 ((ts.length:Int) - ((1:Nat):Int))))*3) (bf ts)) .dead))=true) (h1:(chk (.int .i64) (List.headD (List.tail (List.drop ((Int.toNat (IntKind.wrap .i64 ((ts.length:Int) - ((1:Nat):Int))))*3) (bf ts))) .dead))=true) (h2:(chk (.int .i64) (List.headD (List.tail (List.tail (List.drop ((Int.toNat (IntKind.wrap .i64 ((ts.length:Int) - ((1:Nat):Int))))*3) (bf ts)))) .dead))=true) (h3:(decide (((0:Nat):Int)≤(IntKind.wrap .i64 ((ts.length:Int) - ((1:Nat):Int)))))=true) (h4:(decide ((IntKind.wrap .i64 ((ts.length:Int) - ((1:Nat):Int)))<(ts.length:Int)))=true) (c0:CO 30 [.sl (aW l) l.length nl,.sl (aw ns) ns.length nn] (.ret (.tup [.sl (bf ts) ts.length true,.int .i64 0]))):CO 35 [.sl (aW l) l.length nl,.sl (aw ns) ns.length nn] (.ret (.tup [.agg [.bool (AV.toBool (List.headD (List.drop ((Int.toNat (IntKind.wrap .i64 ((ts.length:Int) - ((1:Nat):Int))))*3) (bf ts)) .dead)),.int .i64 (AV.toInt (List.headD (List.tail (List.drop ((Int.toNat (IntKind.wrap .i64 ((ts.length:Int) - ((1:Nat):Int))))*3) (bf ts))) .dead)),.int .i64 (AV.toInt (List.headD (List.tail (List.tail (List.drop ((Int.toNat (IntKind.wrap .i64 ((ts.length:Int) - ((1:Nat):Int))))*3) (bf ts)))) .dead))],.int .i64 0])):=pK [] 1 0 (.k 4 h0 (.c h1 (.c h2 (.c h3 (.c h4 (.n 1 .nil)))))) (.c c0 .nil)
theorem M0 (l:List Sg) (ns:List Nd) (nl nn:Bool) (ts:List Ty) (e:Int) (h0:lit true (!(e==((0:Nat):Int)))=true) (c0:CO 30 [.sl (aW l) l.length nl,.sl (aw ns) ns.length nn] (.ret (.tup [.nilS,.int .i64 e]))):CO 35 [.sl (aW l) l.length nl,.sl (aw ns) ns.length nn] (.ret (.tup [.agg [.bool false,.int .i64 0,.int .i64 0],.int .i64 e])):=pK [] 1 1 (.k 4 h0 .nil) (.c c0 .nil)
theorem gY (l:List Sg) (ns:List Nd) (nl nn:Bool) (hlg:l.length<2^40) (hsm:∀ x ∈ ns,x.sm):CO 35 [.sl (aW l) l.length nl,.sl (aw ns) ns.length nn] (.ret (.tup [.agg (bC (lV l ns).1),.int .i64 (lV l ns).2])):=by
 have ht:=fO l ns nl nn hlg hsm
 unfold lV
 cases hq:eL l ns with
 |inl ts=>
  rw [hq] at ht
  obtain ⟨h1,h2,h3⟩:=mK hq
  have hj:ts.length - 1<ts.length:=by omega
  have hd:=jC hj
  rw [Nat.zero_add] at hd
  have hw:IntKind.wrap .i64 ((ts.length:Int) - ((1:Nat):Int))=((ts.length - 1:Nat):Int):=by rw [bo]<;>omega
  have hb:=M3 l ns nl nn ts 0
  rw [hw,hd] at hb
  exact hb rfl rfl rfl (decide_eq_true (by omega)) (decide_eq_true (by omega)) ht
 |inr e=>
  rw [hq] at ht
  exact M0 l ns nl nn [] e (by simpa [lit] using sO hq) ht
theorem SI {nt:Nat} (hn:26≤nt) (ts:List Ty) (k:Nat) (t:Ty) (r:List AV) (hw:AV.int .i64 (IntKind.wrap .i64 ((k:Int)+((1:Nat):Int)))= .int .i64 ((k+1:Nat):Int)) (ht:(List.drop ((Int.toNat (k:Int))*3) (bf ts))=bC t++r) (h0:lit false (!((t.tr==t.tr) && ((t.m==t.m) && ((t.d==t.d) && true))))=true) (h1:(decide (((0:Nat):Int)≤(k:Int)))=true) (h2:(decide ((k:Int)<(ts.length:Int)))=true) (h3:lit true (decide ((k:Int)<(ts.length:Int)))=true):ah prog ap [] nt (ac 0 (ae f37)) ⟨[(0,.sl (bf ts) ts.length true),(1,.sl (bf ts) ts.length true),(5,.int .i64 (k:Int))],[],.dead,[]⟩ (.normal) ⟨[(0,.sl (bf ts) ts.length true),(1,.sl (bf ts) ts.length true),(5,.int .i64 (((k+1):Nat):Int))],[],.dead,[]⟩:=pN 37 [] 2 1 (.c h0 (.k 3 h1 (.c h2 (.k 3 h1 (.c h2 (.c h3 .nil)))))) (.v 16 (.eq hw) (.v 23 (.ppt ht) (.v 19 (.ppt ht) .nil))) hn
theorem SJ {nt:Nat} (hn:26≤nt) (ts:List Ty) (k:Nat) (h0:lit false (decide ((k:Int)<(ts.length:Int)))=true):ah prog ap [] nt (ac 0 (ae f37)) ⟨[(0,.sl (bf ts) ts.length true),(1,.sl (bf ts) ts.length true),(5,.int .i64 (k:Int))],[],.dead,[]⟩ (.exit 0) ⟨[],[],.dead,[]⟩:=pN 37 [] 1 0 (.c h0 .nil) (.nil) hn
theorem Qf (ts:List Ty) (h0:lit false (!((ts.length:Int)==(ts.length:Int)))=true) (l0:aC prog ap [] 26 (.block 0 (.loop (ac 0 (ae f37)))) ⟨[(0,.sl (bf ts) ts.length true),(1,.sl (bf ts) ts.length true),(4,.bool false),(5,.int .i64 0),(10,.bool (!((ts.length:Int)==(ts.length:Int)))),(14,.dead),(25,.dead)],[],.dead,[]⟩ (.normal) ⟨[],[],.dead,[]⟩):CO 37 [.sl (bf ts) ts.length true,.sl (bf ts) ts.length true] (.ret (.bool true)):=pK [0] 1 0 (.c h0 .nil) (.l l0 .nil)
theorem Qg:CO 37 [.nilS,.nilS] (.ret (.bool true)):=pK [] 2 0 (.n 2 .nil) (.nil)
theorem Qm (l:List Sg) (ns:List Nd) (nl nn:Bool) (ts:List Ty) (e:Int) (t:Ty) (h0:lit true ((t.tr==t.tr) && ((t.m==t.m) && ((t.d==t.d) && true)))=true) (c0:CO 30 [.sl (aW l) l.length nl,.sl (aw ns) ns.length nn] (.ret (.tup [.sl (bf ts) ts.length true,.int .i64 0]))) (c1:CO 34 [.sl (aW l) l.length nl,.sl (aw ns) ns.length nn] (.ret (.tup [.sl (bf ts) ts.length true,.int .i64 0]))) (c2:CO 35 [.sl (aW l) l.length nl,.sl (aw ns) ns.length nn] (.ret (.tup [.agg [.bool t.tr,.int .i64 t.m,.int .i64 t.d],.int .i64 0]))) (c3:CO 36 [.sl (aW l) l.length nl,.sl (aw ns) ns.length nn] (.ret (.tup [.agg [.bool t.tr,.int .i64 t.m,.int .i64 t.d],.int .i64 0]))) (c4:CO 37 [.sl (bf ts) ts.length true,.sl (bf ts) ts.length true] (.ret (.bool true))):CO 12 [.sl (aW l) l.length nl,.sl (aw ns) ns.length nn] (.ret (.bool true)):=pK [] 3 7 (.c h0 (.n 10 .nil)) (.c c4 (.c c3 (.c c2 (.c c1 (.c c0 .nil)))))
theorem Ql (l:List Sg) (ns:List Nd) (nl nn:Bool) (ts:List Ty) (e:Int) (t:Ty) (h0:lit true ((t.tr==t.tr) && ((t.m==t.m) && ((t.d==t.d) && true)))=true) (h1:lit true (e==e)=true) (c0:CO 30 [.sl (aW l) l.length nl,.sl (aw ns) ns.length nn] (.ret (.tup [.nilS,.int .i64 e]))) (c1:CO 34 [.sl (aW l) l.length nl,.sl (aw ns) ns.length nn] (.ret (.tup [.nilS,.int .i64 e]))) (c2:CO 35 [.sl (aW l) l.length nl,.sl (aw ns) ns.length nn] (.ret (.tup [.agg [.bool t.tr,.int .i64 t.m,.int .i64 t.d],.int .i64 e]))) (c3:CO 36 [.sl (aW l) l.length nl,.sl (aw ns) ns.length nn] (.ret (.tup [.agg [.bool t.tr,.int .i64 t.m,.int .i64 t.d],.int .i64 e]))) (c4:CO 37 [.nilS,.nilS] (.ret (.bool true))):CO 12 [.sl (aW l) l.length nl,.sl (aw ns) ns.length nn] (.ret (.bool (e==e))):=pK [] 3 7 (.c h0 (.k 7 h1 (.n 2 .nil))) (.c c4 (.c c3 (.c c2 (.c c1 (.c c0 .nil)))))
theorem H6 {nt:Nat} (hn:26≤nt) (ts:List Ty) (hl:ts.length<2^38):∀ (d k:Nat),k+d=ts.length→aA prog ap [] nt (ac 0 (ae f37)) (fun _=> .exit 0) (fun k:Nat=>(⟨[(0,.sl (bf ts) ts.length true),(1,.sl (bf ts) ts.length true),(5,.int .i64 (k:Int))],[],.dead,[]⟩:St)) (fun _:Unit=>(⟨[],[],.dead,[]⟩:St)) k ():=by
 intro d
 induction d with
 |zero=>
  intro k h
  exact .done (SJ hn ts k (by rw [aP];simp [lit];omega))
 |succ d ih=>
  intro k h
  have hk:k<ts.length:=by omega
  have ht:=jC hk
  rw [Nat.zero_add] at ht
  refine .next ?_ (ih (k+1) (by omega))
  exact SI hn ts k _ _ (zQ (by omega)) ht (by simp [lit]) (decide_eq_true (by omega)) (decide_eq_true (by omega)) (by rw [aP];simp [lit];omega)
theorem H7 (ts:List Ty) (hl:ts.length<2^38):CO 37 [.sl (bf ts) ts.length true,.sl (bf ts) ts.length true] (.ret (.bool true)):=
 Qf ts (by simp [lit]) (fun nt hnt=>(aA.blk (id:=0) (e':= .normal) (fun nt hn=>H6 hn ts hl ts.length 0 (by omega)) (by simp) rfl (aF.of ⟨rfl,rfl,rfl,trivial⟩) (aF.refl _)) nt hnt)
theorem Q8 (l:List Sg) (ns:List Nd) (nl nn:Bool) (hlg:l.length<2^40) (hsm:∀ x ∈ ns,x.sm):CO 12 [.sl (aW l) l.length nl,.sl (aw ns) ns.length nn] (.ret (.bool true)):=by
 have h1:=fO l ns nl nn hlg hsm
 have h2:=ye l ns nl nn hlg hsm
 have h3:=gY l ns nl nn hlg hsm
 have h4:=Iz l ns nl nn hlg hsm
 unfold lV at h3 h4
 have hx:∀ t:Ty,((t.tr==t.tr) && ((t.m==t.m) && ((t.d==t.d) && true)))=true:=fun t=>by simp
 cases hq:eL l ns with
 |inl ts=>
  rw [hq] at h1 h2 h3 h4
  obtain ⟨k1,k2,k3⟩:=mK hq
  exact Qm l ns nl nn ts 0 _ (hx _) h1 h2 h3 h4 (H7 ts (by omega))
 |inr e=>
  rw [hq] at h1 h2 h3 h4
  have h:=Ql l ns nl nn [] e _ (hx _) (by simp [lit]) h1 h2 h3 h4 Qg
  rwa [beq_self_eq_true] at h
theorem uC (k:Nat) (s:List UInt8):AV.int .i64 (if (k:Int)<(s.length:Int) then (k:Int) else (s.length:Int))= .int .i64 ((min k s.length:Nat):Int):=by
 congr 1
 split<;>omega
theorem uj (k:Nat) (s:List UInt8):AV.str (List.drop 0 (List.take (Int.toNat ((min k s.length:Nat):Int)) s))= .str (s.take k):=by
 rw [List.drop_zero,aD]
 congr 1
 rcases Nat.le_total k s.length with h|h
 ·rw [Nat.min_eq_left h]
 ·rw [Nat.min_eq_right h,List.take_of_length_le (Nat.le_refl _),List.take_of_length_le h]
def tG (x:Nd):Nd:=⟨x.op,x.neg,x.num.take 60,x.den.take 60,x.name.take 25⟩
theorem Ho (own:List Nd) (x:Nd):List.take (own.length*5) (aw own)++ [AV.int .i64 x.op,.bool x.neg,.str (List.take 60 x.num),.str (List.take 60 x.den),.str (List.take 25 x.name)]=aw (own++ [tG x]):=by
 rw [List.take_of_length_le (by rw [aJ];omega),qy];simp [aw,fk,tG]
theorem Nn {nt:Nat} (hn:55≤nt) (ns:List Nd) (nn:Bool) (k:Nat) (x:Nd) (r:List Nd) (hw:AV.int .i64 (IntKind.wrap .i64 ((k:Int)+((1:Nat):Int)))= .int .i64 ((k+1:Nat):Int)) (hdr:(List.drop ((Int.toNat (k:Int))*5) (aw ns))=fk x++aw r) (h0:(decide (((0:Nat):Int)≤(((min 60 x.den.length):Nat):Int)))=true) (h1:(decide ((((min 60 x.den.length):Nat):Int)≤(((List.length x.den):Nat):Int)))=true) (h2:(decide (((0:Nat):Int)≤(((min 60 x.num.length):Nat):Int)))=true) (h3:(decide ((((min 60 x.num.length):Nat):Int)≤(((List.length x.num):Nat):Int)))=true) (h4:(decide (((0:Nat):Int)≤(((min 25 x.name.length):Nat):Int)))=true) (h5:(decide ((((min 25 x.name.length):Nat):Int)≤(((List.length x.name):Nat):Int)))=true) (h6:(decide (((0:Nat):Int)≤(k:Int)))=true) (h7:(decide ((k:Int)<(ns.length:Int)))=true) (h8:lit true (decide ((k:Int)<((62:Nat):Int)))=true) (h9:lit true (decide ((k:Int)<(ns.length:Int)))=true):ah prog ap [] nt (ac 0 (ae f13)) ⟨[(0,.sl (aw ns) ns.length nn),(3,.nilS),(4,.int .i64 (k:Int))],[],.dead,[]⟩ (.normal) ⟨[(0,.sl (aw ns) ns.length nn),(3,.ref 0 0 0 1),(4,.int .i64 (((k+1):Nat):Int))],[(0,⟨[.int .i64 x.op,.bool x.neg,.str (List.take 60 x.num),.str (List.take 60 x.den),.str (List.take 25 x.name)],0,false,0,5,true⟩)],.dead,[]⟩:=pN 13 [] 3 3 (.k 10 h0 (.c h1 (.k 4 h2 (.c h3 (.k 4 h4 (.c h5 (.k 8 h6 (.c h7 (.c h8 (.c h9 .nil)))))))))) (.v 15 (.eq hw) (.v 47 (.eq (uj 60 x.den)) (.v 46 (.eq (uC 60 x.den)) (.v 36 (.eq (uj 60 x.num)) (.v 35 (.eq (uC 60 x.num)) (.v 26 (.eq (uj 25 x.name)) (.v 25 (.eq (uC 25 x.name)) (.v 18 (.ppt hdr) .nil)))))))) hn
theorem Np {nt:Nat} (hn:55≤nt) (ns:List Nd) (nn:Bool) (k:Nat) (h0:lit false (decide ((k:Int)<((62:Nat):Int)))=true) (h1:lit true (decide ((k:Int)<(ns.length:Int)))=true):ah prog ap [] nt (ac 0 (ae f13)) ⟨[(0,.sl (aw ns) ns.length nn),(3,.nilS),(4,.int .i64 (k:Int))],[],.dead,[]⟩ (.exit 0) ⟨[(3,.nilS)],[],.dead,[]⟩:=pN 13 [] 2 1 (.c h0 (.c h1 .nil)) (.nil) hn
theorem Nq {nt:Nat} (hn:55≤nt) (ns:List Nd) (nn:Bool) (k:Nat) (h0:lit false (decide ((k:Int)<(ns.length:Int)))=true):ah prog ap [] nt (ac 0 (ae f13)) ⟨[(0,.sl (aw ns) ns.length nn),(3,.nilS),(4,.int .i64 (k:Int))],[],.dead,[]⟩ (.exit 0) ⟨[(3,.nilS)],[],.dead,[]⟩:=pN 13 [] 2 0 (.k 1 h0 .nil) (.nil) hn
theorem Ni {nt:Nat} (hn:55≤nt) (ns cs:List Nd) (nn:Bool) (k:Nat) (x:Nd) (r:List Nd) (hw:AV.int .i64 (IntKind.wrap .i64 ((k:Int)+((1:Nat):Int)))= .int .i64 ((k+1:Nat):Int)) (hdr:(List.drop ((Int.toNat (k:Int))*5) (aw ns))=fk x++aw r) (h0:(Nat.ble (cs.length+1) 1099511627776)=true) (h1:(Nat.ble (cs.length*5) (List.length (aw cs)))=true) (h2:(decide (((0:Nat):Int)≤(((min 60 x.den.length):Nat):Int)))=true) (h3:(decide ((((min 60 x.den.length):Nat):Int)≤(((List.length x.den):Nat):Int)))=true) (h4:(decide (((0:Nat):Int)≤(((min 60 x.num.length):Nat):Int)))=true) (h5:(decide ((((min 60 x.num.length):Nat):Int)≤(((List.length x.num):Nat):Int)))=true) (h6:(decide (((0:Nat):Int)≤(((min 25 x.name.length):Nat):Int)))=true) (h7:(decide ((((min 25 x.name.length):Nat):Int)≤(((List.length x.name):Nat):Int)))=true) (h8:(decide (((0:Nat):Int)≤(k:Int)))=true) (h9:(decide ((k:Int)<(ns.length:Int)))=true) (h10:lit true (decide ((k:Int)<((62:Nat):Int)))=true) (h11:lit true (decide ((k:Int)<(ns.length:Int)))=true):ah prog ap [] nt (ac 0 (ae f13)) ⟨[(0,.sl (aw ns) ns.length nn),(3,.ref 0 0 0 cs.length),(4,.int .i64 (k:Int))],[(0,⟨(aw cs),0,false,0,5,true⟩)],.dead,[]⟩ (.normal) ⟨[(0,.sl (aw ns) ns.length nn),(3,.ref 0 0 0 (cs.length+1)),(4,.int .i64 (((k+1):Nat):Int))],[(0,⟨(aw (cs++ [tG x])),0,false,0,5,true⟩)],.dead,[]⟩:=pN 13 [] 2 3 (.k 1 h0 (.c h1 (.k 8 h2 (.c h3 (.k 4 h4 (.c h5 (.k 4 h6 (.c h7 (.k 8 h8 (.c h9 (.c h10 (.c h11 .nil)))))))))))) (.v 15 (.eq hw) (.b 53 (Ho cs x) (.v 47 (.eq (uj 60 x.den)) (.v 46 (.eq (uC 60 x.den)) (.v 36 (.eq (uj 60 x.num)) (.v 35 (.eq (uC 60 x.num)) (.v 26 (.eq (uj 25 x.name)) (.v 25 (.eq (uC 25 x.name)) (.v 18 (.ppt hdr) .nil))))))))) hn
theorem Nj {nt:Nat} (hn:55≤nt) (ns cs:List Nd) (nn:Bool) (k:Nat) (h0:lit false (decide ((k:Int)<((62:Nat):Int)))=true) (h1:lit true (decide ((k:Int)<(ns.length:Int)))=true):ah prog ap [] nt (ac 0 (ae f13)) ⟨[(0,.sl (aw ns) ns.length nn),(3,.ref 0 0 0 cs.length),(4,.int .i64 (k:Int))],[(0,⟨(aw cs),0,false,0,5,true⟩)],.dead,[]⟩ (.exit 0) ⟨[(3,.ref 0 0 0 cs.length)],[(0,⟨(aw cs),0,false,0,5,true⟩)],.dead,[]⟩:=pN 13 [] 2 1 (.c h0 (.c h1 .nil)) (.nil) hn
theorem Nk {nt:Nat} (hn:55≤nt) (ns cs:List Nd) (nn:Bool) (k:Nat) (h0:lit false (decide ((k:Int)<(ns.length:Int)))=true):ah prog ap [] nt (ac 0 (ae f13)) ⟨[(0,.sl (aw ns) ns.length nn),(3,.ref 0 0 0 cs.length),(4,.int .i64 (k:Int))],[(0,⟨(aw cs),0,false,0,5,true⟩)],.dead,[]⟩ (.exit 0) ⟨[(3,.ref 0 0 0 cs.length)],[(0,⟨(aw cs),0,false,0,5,true⟩)],.dead,[]⟩:=pN 13 [] 2 0 (.k 1 h0 .nil) (.nil) hn
def aR:List Sg:= [⟨5,[105,110,99,111,109,101],⟨false,1,0⟩⟩,⟨5,[107,105,100,115],⟨false,0,0⟩⟩,⟨5,[115,105,110,103,108,101],⟨true,0,0⟩⟩,⟨5,[115,116,97,121],⟨false,0,1⟩⟩,⟨6,[112,111,111,114],⟨true,0,0⟩⟩,⟨6,[116,97,120],⟨false,1,0⟩⟩,⟨7,[112,111,111,114],⟨true,0,0⟩⟩,⟨7,[116,97,120],⟨false,1,0⟩⟩,⟨8,[112,111,111,114],⟨true,0,0⟩⟩,⟨8,[116,97,120],⟨false,1,0⟩⟩,⟨24,[115,99,97,108,101],⟨false,1,0⟩⟩,⟨24,[116,101,114,109],⟨false,0,1⟩⟩]
theorem Nl (ns:List Nd) (nn:Bool) (l0:aC prog ap [] 55 (.block 0 (.loop (ac 0 (ae f13)))) ⟨[(0,.sl (aw ns) ns.length nn),(2,.nilS),(3,.nilS),(4,.int .i64 0),(5,.dead),(13,.dead)],[],.dead,[]⟩ (.normal) ⟨[(3,.nilS)],[],.dead,[]⟩):CO 13 [.sl (aw ns) ns.length nn] (.ret (.nilS)):=pK [0] 0 0 .nil (.l l0 .nil)
theorem Nm (ns cs:List Nd) (nn:Bool) (l0:aC prog ap [] 55 (.block 0 (.loop (ac 0 (ae f13)))) ⟨[(0,.sl (aw ns) ns.length nn),(2,.nilS),(3,.nilS),(4,.int .i64 0),(5,.dead),(13,.dead)],[],.dead,[]⟩ (.normal) ⟨[(3,.ref 0 0 0 cs.length)],[(0,⟨(aw cs),0,false,0,5,true⟩)],.dead,[]⟩):CO 13 [.sl (aw ns) ns.length nn] (.ret (.own (List.take (cs.length*5) (aw cs)) cs.length 5)):=pK [0] 0 0 .nil (.l l0 .nil)
theorem iZ {ns:List Nd} (h:ns.all (fun x=>Nat.ble (x.num.length+1) 8589934592 && Nat.ble (x.den.length+1) 8589934592)=true):∀ x ∈ ns,x.sm:=by
 intro x hx
 have:=List.all_eq_true.1 h x hx
 rw [Bool.and_eq_true] at this
 exact ⟨Nat.le_of_ble_eq_true this.1,Nat.le_of_ble_eq_true this.2⟩
theorem gR {p q:Prop} (h:p) (e:p=q):q:=e ▸ h
def da:List Sg:= [⟨5,[105,110,99,111,109,101],⟨false,1,0⟩⟩,⟨5,[115,116,97,121],⟨false,0,1⟩⟩,⟨6,[112,111,111,114],⟨true,0,0⟩⟩,⟨24,[115,99,97,108,101],⟨false,1,0⟩⟩]
def E3:List Nd:= [⟨5,false,[],[],[105,110,99,111,109,101]⟩,⟨3,false,[1],[10],[]⟩,⟨11,false,[],[],[]⟩]
def E4:List Nd:= [⟨5,false,[],[],[105,110,99,111,109,101]⟩,⟨5,false,[],[],[115,116,97,121]⟩,⟨12,false,[],[],[]⟩]
def E5:List Nd:= [⟨6,false,[],[],[112,111,111,114]⟩,⟨1,false,[],[1],[]⟩,⟨5,false,[],[],[105,110,99,111,109,101]⟩,⟨24,false,[],[],[115,99,97,108,101]⟩,⟨15,false,[],[],[]⟩]
def E6:List Nd:= [⟨5,false,[],[],[105,110,99,111,109,101]⟩,⟨3,false,[5],[1],[]⟩,⟨9,false,[],[],[]⟩]
def E7:List Nd:= [⟨6,false,[],[],[112,111,111,114]⟩,⟨3,false,[1],[1],[]⟩,⟨18,false,[],[],[]⟩]
def E8:List Nd:= [⟨5,false,[],[],[115,116,97,121]⟩,⟨24,false,[],[],[115,99,97,108,101]⟩]
def Bl:List Nd:= [⟨5,false,[],[],[112,111,111,114]⟩]
def E9:List Nd:= [⟨5,false,[],[],[110,111,110,101]⟩,⟨5,false,[],[],[115,116,97,121]⟩,⟨9,false,[],[],[]⟩]
def E_:List Nd:= [⟨6,false,[],[],[112,111,111,114]⟩,⟨4,false,[1],[1],[]⟩,⟨17,false,[],[],[]⟩]
def zB:List Nd:= [⟨2,false,[1],[1],[]⟩,⟨2,false,[2],[1],[]⟩,⟨16,false,[],[],[]⟩]
theorem k0:CO 26 [.int .i64 1,.int .i64 0] (.ret (.agg [.bool false,.int .i64 1,.int .i64 0])):=cK (.nil)
theorem k1:CO 25 [] (.ret (.agg [.bool true,.int .i64 0,.int .i64 0])):=cK (.nil)
theorem k2:CO 24 [.int .i64 5,.str [105,110,99,111,109,101]] (.ret (.agg [.int .i64 5,.bool false,.str [],.str [],.str [105,110,99,111,109,101]])):=cK (.nil)
theorem k3:CO 24 [.int .i64 5,.str [115,116,97,121]] (.ret (.agg [.int .i64 5,.bool false,.str [],.str [],.str [115,116,97,121]])):=cK (.nil)
theorem k4:CO 24 [.int .i64 6,.str [112,111,111,114]] (.ret (.agg [.int .i64 6,.bool false,.str [],.str [],.str [112,111,111,114]])):=cK (.nil)
theorem k5:CO 24 [.int .i64 24,.str [115,99,97,108,101]] (.ret (.agg [.int .i64 24,.bool false,.str [],.str [],.str [115,99,97,108,101]])):=cK (.nil)
theorem k6:CO 26 [.int .i64 0,.int .i64 1] (.ret (.agg [.bool false,.int .i64 0,.int .i64 1])):=cK (.nil)
theorem k7:CO 19 [.int .i64 1] (.ret (.agg [.bool false,.str [1],.str [1]])):=gR (dR 1 (by decide) (by decide)) (by kernel_rfl)
theorem k8:CO 19 [.int .i64 10] (.ret (.agg [.bool false,.str [10],.str [1]])):=gR (dR 10 (by decide) (by decide)) (by kernel_rfl)
theorem k9:CO 46 [.agg [.bool false,.str [1],.str [1]],.agg [.bool false,.str [10],.str [1]]] (.ret (.tup [.agg [.bool false,.str [1],.str [10]],.bool true])):=gR (tJ false 1 10 (by decide) (by decide) (by decide) (by decide)) (by kernel_rfl)
theorem Tq:CO 27 [.int .i64 3,.int .i64 1,.int .i64 10] (.ret (.agg [.int .i64 3,.bool false,.str [1],.str [10],.str []])):=cK (.c k9 (.c k8 (.c k7 .nil)))
theorem Tt:CO 24 [.int .i64 11,.str []] (.ret (.agg [.int .i64 11,.bool false,.str [],.str [],.str []])):=cK (.nil)
theorem Tu:CO 35 [.sl (aW da) 4 true,.sl (aw E3) 3 true] (.ret (.tup [.agg [.bool false,.int .i64 1,.int .i64 0],.int .i64 0])):=gR (gY da E3 true true (by decide) (iZ (by kernel_rfl))) (by kernel_rfl)
theorem Tv:CO 17 [.sl (aW da) 4 true,.sl (aw E3) 3 true,.agg [.bool false,.int .i64 1,.int .i64 0]] (.ret (.bool true)):=cK (.c Tu .nil)
theorem Tw:CO 24 [.int .i64 12,.str []] (.ret (.agg [.int .i64 12,.bool false,.str [],.str [],.str []])):=cK (.nil)
theorem Tx:CO 26 [.int .i64 1,.int .i64 (-1)] (.ret (.agg [.bool false,.int .i64 1,.int .i64 (-1)])):=cK (.nil)
theorem Tz:CO 35 [.sl (aW da) 4 true,.sl (aw E4) 3 true] (.ret (.tup [.agg [.bool false,.int .i64 1,.int .i64 (-1)],.int .i64 0])):=gR (gY da E4 true true (by decide) (iZ (by kernel_rfl))) (by kernel_rfl)
theorem TA:CO 17 [.sl (aW da) 4 true,.sl (aw E4) 3 true,.agg [.bool false,.int .i64 1,.int .i64 (-1)]] (.ret (.bool true)):=cK (.c Tz .nil)
theorem TB:CO 19 [.int .i64 0] (.ret (.agg [.bool false,.str [],.str [1]])):=gR (dR 0 (by decide) (by decide)) (by kernel_rfl)
theorem TC:CO 46 [.agg [.bool false,.str [],.str [1]],.agg [.bool false,.str [1],.str [1]]] (.ret (.tup [.agg [.bool false,.str [],.str [1]],.bool true])):=gR (tJ false 0 1 (by decide) (by decide) (by decide) (by decide)) (by kernel_rfl)
theorem TE:CO 27 [.int .i64 1,.int .i64 0,.int .i64 1] (.ret (.agg [.int .i64 1,.bool false,.str [],.str [1],.str []])):=cK (.c TC (.c k7 (.c TB .nil)))
theorem TF:CO 24 [.int .i64 15,.str []] (.ret (.agg [.int .i64 15,.bool false,.str [],.str [],.str []])):=cK (.nil)
theorem TG:CO 35 [.sl (aW da) 4 true,.sl (aw E5) 5 true] (.ret (.tup [.agg [.bool false,.int .i64 1,.int .i64 0],.int .i64 0])):=gR (gY da E5 true true (by decide) (iZ (by kernel_rfl))) (by kernel_rfl)
theorem TH:CO 17 [.sl (aW da) 4 true,.sl (aw E5) 5 true,.agg [.bool false,.int .i64 1,.int .i64 0]] (.ret (.bool true)):=cK (.c TG .nil)
theorem TJ:CO 19 [.int .i64 5] (.ret (.agg [.bool false,.str [5],.str [1]])):=gR (dR 5 (by decide) (by decide)) (by kernel_rfl)
theorem TK:CO 46 [.agg [.bool false,.str [5],.str [1]],.agg [.bool false,.str [1],.str [1]]] (.ret (.tup [.agg [.bool false,.str [5],.str [1]],.bool true])):=gR (tJ false 5 1 (by decide) (by decide) (by decide) (by decide)) (by kernel_rfl)
theorem TL:CO 27 [.int .i64 3,.int .i64 5,.int .i64 1] (.ret (.agg [.int .i64 3,.bool false,.str [5],.str [1],.str []])):=cK (.c TK (.c k7 (.c TJ .nil)))
theorem S4:CO 24 [.int .i64 9,.str []] (.ret (.agg [.int .i64 9,.bool false,.str [],.str [],.str []])):=cK (.nil)
theorem TM:CO 30 [.sl (aW da) 4 true,.sl (aw E6) 3 true] (.ret (.tup [.nilS,.int .i64 13])):=gR (fO da E6 true true (by decide) (iZ (by kernel_rfl))) (by kernel_rfl)
theorem TN:CO 28 [.sl (aW da) 4 true,.sl (aw E6) 3 true,.int .i64 13] (.ret (.bool true)):=cK (.c TM .nil)
theorem RF:CO 46 [.agg [.bool false,.str [1],.str [1]],.agg [.bool false,.str [1],.str [1]]] (.ret (.tup [.agg [.bool false,.str [1],.str [1]],.bool true])):=gR (tJ false 1 1 (by decide) (by decide) (by decide) (by decide)) (by kernel_rfl)
theorem TP:CO 27 [.int .i64 3,.int .i64 1,.int .i64 1] (.ret (.agg [.int .i64 3,.bool false,.str [1],.str [1],.str []])):=cK (.c RF (.c k7 (.c k7 .nil)))
theorem TQ:CO 24 [.int .i64 18,.str []] (.ret (.agg [.int .i64 18,.bool false,.str [],.str [],.str []])):=cK (.nil)
theorem TR:CO 30 [.sl (aW da) 4 true,.sl (aw E7) 3 true] (.ret (.tup [.nilS,.int .i64 13])):=gR (fO da E7 true true (by decide) (iZ (by kernel_rfl))) (by kernel_rfl)
theorem TS:CO 28 [.sl (aW da) 4 true,.sl (aw E7) 3 true,.int .i64 13] (.ret (.bool true)):=cK (.c TR .nil)
theorem TT:CO 30 [.sl (aW da) 4 true,.sl (aw E8) 2 true] (.ret (.tup [.nilS,.int .i64 13])):=gR (fO da E8 true true (by decide) (iZ (by kernel_rfl))) (by kernel_rfl)
theorem TU:CO 28 [.sl (aW da) 4 true,.sl (aw E8) 2 true,.int .i64 13] (.ret (.bool true)):=cK (.c TT .nil)
theorem TV:CO 24 [.int .i64 5,.str [112,111,111,114]] (.ret (.agg (aw Bl))):=cK (.nil)
theorem TW:CO 30 [.sl (aW da) 4 true,.sl (aw Bl) 1 true] (.ret (.tup [.nilS,.int .i64 12])):=gR (fO da Bl true true (by decide) (iZ (by kernel_rfl))) (by kernel_rfl)
theorem TX:CO 28 [.sl (aW da) 4 true,.sl (aw Bl) 1 true,.int .i64 12] (.ret (.bool true)):=cK (.c TW .nil)
theorem TY:CO 24 [.int .i64 5,.str [110,111,110,101]] (.ret (.agg [.int .i64 5,.bool false,.str [],.str [],.str [110,111,110,101]])):=cK (.nil)
theorem TZ:CO 30 [.sl (aW da) 4 true,.sl (aw E9) 3 true] (.ret (.tup [.nilS,.int .i64 12])):=gR (fO da E9 true true (by decide) (iZ (by kernel_rfl))) (by kernel_rfl)
theorem T9:CO 28 [.sl (aW da) 4 true,.sl (aw E9) 3 true,.int .i64 12] (.ret (.bool true)):=cK (.c TZ .nil)
theorem T_:CO 27 [.int .i64 4,.int .i64 1,.int .i64 1] (.ret (.agg [.int .i64 4,.bool false,.str [1],.str [1],.str []])):=cK (.c RF (.c k7 (.c k7 .nil)))
theorem Ua:CO 24 [.int .i64 17,.str []] (.ret (.agg [.int .i64 17,.bool false,.str [],.str [],.str []])):=cK (.nil)
theorem Ub:CO 35 [.sl (aW da) 4 true,.sl (aw E_) 3 true] (.ret (.tup [.agg [.bool true,.int .i64 0,.int .i64 0],.int .i64 0])):=gR (gY da E_ true true (by decide) (iZ (by kernel_rfl))) (by kernel_rfl)
theorem Uc:CO 17 [.sl (aW da) 4 true,.sl (aw E_) 3 true,.agg [.bool true,.int .i64 0,.int .i64 0]] (.ret (.bool true)):=cK (.c Ub .nil)
theorem Ud:CO 27 [.int .i64 2,.int .i64 1,.int .i64 1] (.ret (.agg [.int .i64 2,.bool false,.str [1],.str [1],.str []])):=cK (.c RF (.c k7 (.c k7 .nil)))
theorem S5:CO 19 [.int .i64 2] (.ret (.agg [.bool false,.str [2],.str [1]])):=gR (dR 2 (by decide) (by decide)) (by kernel_rfl)
theorem Ue:CO 46 [.agg [.bool false,.str [2],.str [1]],.agg [.bool false,.str [1],.str [1]]] (.ret (.tup [.agg [.bool false,.str [2],.str [1]],.bool true])):=gR (tJ false 2 1 (by decide) (by decide) (by decide) (by decide)) (by kernel_rfl)
theorem Uf:CO 27 [.int .i64 2,.int .i64 2,.int .i64 1] (.ret (.agg [.int .i64 2,.bool false,.str [2],.str [1],.str []])):=cK (.c Ue (.c k7 (.c S5 .nil)))
theorem Ug:CO 24 [.int .i64 16,.str []] (.ret (.agg [.int .i64 16,.bool false,.str [],.str [],.str []])):=cK (.nil)
theorem Uh:CO 35 [.sl (aW da) 4 true,.sl (aw zB) 3 true] (.ret (.tup [.agg [.bool true,.int .i64 0,.int .i64 0],.int .i64 0])):=gR (gY da zB true true (by decide) (iZ (by kernel_rfl))) (by kernel_rfl)
theorem Ui:CO 17 [.sl (aW da) 4 true,.sl (aw zB) 3 true,.agg [.bool true,.int .i64 0,.int .i64 0]] (.ret (.bool true)):=cK (.c Uh .nil)
theorem Uj:CO 22 [.agg [.bool true,.int .i64 0,.int .i64 0],.agg [.bool false,.str [2],.str [1]]] (.ret (.bool false)):=gR (sS ⟨true,0,0⟩ false [2] [1] (by decide) (by decide)) (by kernel_rfl)
theorem Uk:CO 22 [.agg [.bool true,.int .i64 0,.int .i64 0],.agg [.bool false,.str [1],.str [1]]] (.ret (.bool true)):=gR (sS ⟨true,0,0⟩ false [1] [1] (by decide) (by decide)) (by kernel_rfl)
theorem Ul:CO 19 [.int .i64 (-1)] (.ret (.agg [.bool true,.str [1],.str [1]])):=gR (dR (-1) (by decide) (by decide)) (by kernel_rfl)
theorem Um:CO 19 [.int .i64 3] (.ret (.agg [.bool false,.str [3],.str [1]])):=gR (dR 3 (by decide) (by decide)) (by kernel_rfl)
theorem Un:CO 46 [.agg [.bool true,.str [1],.str [1]],.agg [.bool false,.str [3],.str [1]]] (.ret (.tup [.agg [.bool true,.str [1],.str [3]],.bool true])):=gR (tJ true 1 3 (by decide) (by decide) (by decide) (by decide)) (by kernel_rfl)
theorem Uo:CO 27 [.int .i64 1,.int .i64 (-1),.int .i64 3] (.ret (.agg [.int .i64 1,.bool true,.str [1],.str [3],.str []])):=cK (.c Un (.c Um (.c Ul .nil)))
theorem Up:CO 22 [.agg [.bool false,.int .i64 1,.int .i64 0],.agg [.bool true,.str [1],.str [3]]] (.ret (.bool true)):=gR (sS ⟨false,1,0⟩ true [1] [3] (by decide) (by decide)) (by kernel_rfl)
theorem Uq:CO 20 [.agg [.int .i64 (-3),.int .i64 3]] (.ret (.bool true)):=gR (nU ⟨false,(-3),3⟩) (by kernel_rfl)
theorem Ur:CO 20 [.agg [.int .i64 4,.int .i64 0]] (.ret (.bool false)):=gR (nU ⟨false,4,0⟩) (by kernel_rfl)
theorem Us:CO 11 [] (.ret (.bool true)):=cK (.c Ur (.c Uq (.c Up (.c Uo (.c Uk (.c k7 (.c Uj (.c S5 (.c Ui (.c Ug (.c Uf (.c Ud (.c Uc (.c Ua (.c T_ (.c T9 (.c S4 (.c TY (.c TX (.c TV (.c TU (.c TS (.c TQ (.c TP (.c TN (.c S4 (.c TL (.c TH (.c TF (.c TE (.c TA (.c Tx (.c Tw (.c Tv (.c Tt (.c Tq (.c k6 (.c k5 (.c k4 (.c k3 (.c k2 (.c k1 (.c k0 .nil)))))))))))))))))))))))))))))))))))))))))))
theorem LQ:CO 11 [] (.ret (.bool true)):=Us
def uX (ns:List Nd):List Nd:=(ns.take 62).map tG
theorem zG {α:Type} {ns p r:List α} {x:α} {n:Nat} (h:ns.take n=p++x::r):ns=p++x::(r++ns.drop n)∧p.length<n∧p.length<ns.length:=by
 have h1:=List.take_append_drop n ns
 rw [h] at h1
 have h2:(ns.take n).length=p.length+(r.length+1):=by rw [h];simp
 rw [List.length_take] at h2
 exact ⟨by have h3:=h1.symm;simpa using h3,by omega,by omega⟩
def Gm (ns:List Nd) (nn:Bool) (p:Nat × List Nd):St:=match p.2 with
 | []=> ⟨[(0,.sl (aw ns) ns.length nn),(3,.nilS),(4,.int .i64 (p.1:Int))],[],.dead,[]⟩
 |x::r=> ⟨[(0,.sl (aw ns) ns.length nn),(3,.ref 0 0 0 (x::r).length),(4,.int .i64 (p.1:Int))],[(0,⟨(aw (x::r)),0,false,0,5,true⟩)],.dead,[]⟩
def DM:List Nd→St
 | []=> ⟨[(3,.nilS)],[],.dead,[]⟩
 |x::r=> ⟨[(3,.ref 0 0 0 (x::r).length)],[(0,⟨(aw (x::r)),0,false,0,5,true⟩)],.dead,[]⟩
theorem Af {ns:List Nd} {nn:Bool} {k:Nat} {cs:List Nd} (h:cs ≠ []):Gm ns nn (k,cs)=⟨[(0,.sl (aw ns) ns.length nn),(3,.ref 0 0 0 cs.length),(4,.int .i64 (k:Int))],[(0,⟨(aw cs),0,false,0,5,true⟩)],.dead,[]⟩:=by cases cs with|nil=>exact absurd rfl h|cons _ _=>rfl
theorem Gn {nt:Nat} (hn:55≤nt) (ns:List Nd) (nn:Bool):aA prog ap [] nt (ac 0 (ae f13)) (fun _=> .exit 0) (Gm ns nn) DM (0,[]) (uX ns):=by
  refine aA.mapL tG (ns.take 62) ?_ ?_
  · intro p x r h
    obtain ⟨h1,h2,h3⟩:=zG h
    have hdr:List.drop (Int.toNat (p.length:Int)*5) (aw ns)=fk x++aw (r++ns.drop 62):=by
      have:=jP (p:=p) (r:=r++ns.drop 62) (x:=x) rfl
      rwa [← h1] at this
    have b1:decide (((0:Nat):Int)≤((min 60 x.den.length:Nat):Int))=true:=decide_eq_true (by omega)
    have b2:decide (((min 60 x.den.length:Nat):Int)≤((List.length x.den:Nat):Int))=true:=decide_eq_true (by omega)
    have b3:decide (((0:Nat):Int)≤((min 60 x.num.length:Nat):Int))=true:=decide_eq_true (by omega)
    have b4:decide (((min 60 x.num.length:Nat):Int)≤((List.length x.num:Nat):Int))=true:=decide_eq_true (by omega)
    have b5:decide (((0:Nat):Int)≤((min 25 x.name.length:Nat):Int))=true:=decide_eq_true (by omega)
    have b6:decide (((min 25 x.name.length:Nat):Int)≤((List.length x.name:Nat):Int))=true:=decide_eq_true (by omega)
    have b7:decide (((0:Nat):Int)≤(p.length:Int))=true:=decide_eq_true (by omega)
    have b8:decide ((p.length:Int)<(ns.length:Int))=true:=decide_eq_true (by omega)
    have b9:lit true (decide ((p.length:Int)<((62:Nat):Int)))=true:=decide_eq_true (by omega)
    have hL:List.map tG p++ [tG x] ≠ []:=by simp
    rw [Af hL]
    have hw:=zQ (i:=p.length) (by omega)
    cases hp:p with
    |nil=>subst hp;exact Nn hn ns nn 0 x _ hw hdr b1 b2 b3 b4 b5 b6 b7 b8 b9 b8
    | cons y q=>
      rw [← hp,Af (by rw [hp];simp),List.length_append,List.length_singleton]
      have hlm:(List.map tG p).length=p.length:=List.length_map ..
      exact Ni hn ns (List.map tG p) nn p.length x _ hw hdr (by simp;omega) (by rw [aJ];simp) b1 b2 b3 b4 b5 b6 b7 b8 b9 b8
  · have hl:(ns.take 62).length=min 62 ns.length:=List.length_take
    generalize hk:(ns.take 62).length=k at*
    have hx:(lit false (decide ((k:Int)<(ns.length:Int)))=true)∨(lit false (decide ((k:Int)<((62:Nat):Int)))=true∧lit true (decide ((k:Int)<(ns.length:Int)))=true):=by
      by_cases h:k<ns.length
      · right
        refine ⟨?_,decide_eq_true (by omega)⟩
        simp only [lit,Bool.not_eq_true']
        exact decide_eq_false (by omega)
      · left
        simp only [lit,Bool.not_eq_true']
        exact decide_eq_false (by omega)
    show ah _ _ _ _ _ (Gm ns nn (k,uX ns)) _ (DM (uX ns))
    generalize uX ns=cs
    cases cs with
    | nil => rcases hx with hx|⟨hx,hy⟩
             · exact Nq hn ns nn k hx
             · exact Np hn ns nn k hx hy
    | cons y q => rcases hx with hx|⟨hx,hy⟩
                  · exact Nk hn ns (y::q) nn k hx
                  · exact Nj hn ns (y::q) nn k hx hy
theorem Ru (ns:List Nd) (nn:Bool):CO 13 [.sl (aw ns) ns.length nn] (.ret (.sl (aw (uX ns)) (uX ns).length false)):=by
 have hloop:=fun nt (hn:55≤nt)=>Gn hn ns nn
 have l0:=aA.blk (id:=0) (e':= .normal) (s:=Gm ns nn (0,[])) (s':=DM (uX ns)) hloop (by simp) rfl (aF.refl _) (aF.refl _)
 generalize uX ns=cs at*
 cases cs with
 |nil=>
  have h:=Nl ns nn (fun nt hnt=>(l0 nt hnt).weak (aF.of ⟨rfl,rfl,rfl,trivial⟩) (aF.refl _))
  exact h.out (eI.ret rfl rfl (bp.nilS false rfl))
 |cons y q=>
  have htk:List.take ((y::q).length*5) (aw (y::q))=aw (y::q):=List.take_of_length_le (by rw [aJ];omega)
  have h:=Nm ns (y::q) nn (fun nt hnt=>(l0 nt hnt).weak (aF.of ⟨rfl,rfl,rfl,trivial⟩) (aF.refl _))
  have h:=h.thaw (by simp)
  simp only [jz,thaw] at h
  rw [List.take_of_length_le (by rw [List.length_take];exact Nat.min_le_left _ _),htk] at h
  exact h.out (eI.ret rfl rfl (bp.sl _ _ _))
theorem Rv (ns:List Nd):∀ x ∈ uX ns,x.sm:=by
 intro x hx
 obtain ⟨y,_,rfl⟩:=List.mem_map.1 hx
 refine ⟨?_, ?_⟩<;>simp only [tG,List.length_take]<;>omega
theorem UE:CO 26 [.int .i64 1,.int .i64 0] (.ret (.agg [.bool false,.int .i64 1,.int .i64 0])):=cK (.nil)
theorem UF:CO 26 [.int .i64 0,.int .i64 0] (.ret (.agg [.bool false,.int .i64 0,.int .i64 0])):=cK (.nil)
theorem Ra:CO 25 [] (.ret (.agg [.bool true,.int .i64 0,.int .i64 0])):=cK (.nil)
theorem S7:CO 26 [.int .i64 0,.int .i64 1] (.ret (.agg [.bool false,.int .i64 0,.int .i64 1])):=cK (.nil)
theorem UG:CO 14 [] (.ret (.own [.int .i64 5,.str [105,110,99,111,109,101],.bool false,.int .i64 1,.int .i64 0,.int .i64 5,.str [107,105,100,115],.bool false,.int .i64 0,.int .i64 0,.int .i64 5,.str [115,105,110,103,108,101],.bool true,.int .i64 0,.int .i64 0,.int .i64 5,.str [115,116,97,121],.bool false,.int .i64 0,.int .i64 1,.int .i64 6,.str [112,111,111,114],.bool true,.int .i64 0,.int .i64 0,.int .i64 6,.str [116,97,120],.bool false,.int .i64 1,.int .i64 0,.int .i64 7,.str [112,111,111,114],.bool true,.int .i64 0,.int .i64 0,.int .i64 7,.str [116,97,120],.bool false,.int .i64 1,.int .i64 0,.int .i64 8,.str [112,111,111,114],.bool true,.int .i64 0,.int .i64 0,.int .i64 8,.str [116,97,120],.bool false,.int .i64 1,.int .i64 0,.int .i64 24,.str [115,99,97,108,101],.bool false,.int .i64 1,.int .i64 0,.int .i64 24,.str [116,101,114,109],.bool false,.int .i64 0,.int .i64 1] 12 5)):=cK (.c S7 (.c Ra (.c Ra (.c Ra (.c S7 (.c Ra (.c UF (.c UE .nil))))))))
theorem Q9:CO 14 [] (.ret (.own (aW aR) 12 5)):=UG
inductive Tm (l:List Sg):List Nd→Ty→Prop where
 |n0 {x:Nd} {t:Ty}:az x=0→bB x.op=0→dG l x []=(t,0)→Tm l [x] t
 |n1 {x:Nd} {t ta:Ty} {a:List Nd}:Tm l a ta→az x=0→bB x.op=1→dG l x [ta]=(t,0)→Tm l (a++ [x]) t
 |n2 {x:Nd} {t ta tb:Ty} {a b:List Nd}:Tm l a ta→Tm l b tb→az x=0→bB x.op=2→dG l x [ta,tb]=(t,0)→Tm l (a++b++ [x]) t
 |n3 {x:Nd} {t ta tb tc:Ty} {a b c:List Nd}:Tm l a ta→Tm l b tb→Tm l c tc→az x=0→bB x.op=3→dG l x [ta,tb,tc]=(t,0)→Tm l (a++b++c++ [x]) t
theorem Tm.ne {l:List Sg} {e:List Nd} {t:Ty} (h:Tm l e t):e ≠ []:=by cases h<;>simp
def qN (op:Int) (q:RQ):Nd:=⟨op,q.neg,ak q.n,ak q.d,[]⟩
theorem EJ {q:RQ} (h:q.ok) (hn:q.n<64) (hd:q.d<64):gb q.neg (ak q.n) (ak q.d)=true:=by
 unfold gb
 rw [yX q h,aT,aT]
 have h1:cg q.n≤6:=fU (by omega)
 have h2:cg q.d≤6:=fU (by omega)
 simp;omega
theorem sx {op:Int} {q:RQ} (hn:q.n<64) (hd:q.d<64):(qN op q).sm:=by
 have h1:=dJ (x:=q.n) (by omega)
 have h2:=dJ (x:=q.d) (by omega)
 exact ⟨by show (ak q.n).length<_;omega,by show (ak q.d).length<_;omega⟩
theorem gM {q:RQ} (h:q.ok) (hn:q.n<64) (hd:q.d<64):∀ op:Int,op=1∨op=2∨op=3→az (qN op q)=0:=by
 intro op ho
 have hf:=EJ h hn hd
 have e:cX (qN op q)=true:=by rcases ho with rfl|rfl|rfl<;>exact hf
 unfold az
 rw [e]
 rcases ho with rfl|rfl|rfl<;>rfl
theorem sY:CO 90 [.sl (aW aR) 12 true,.int .i64 5,.str [105,110,99,111,109,101]] (.ret (.tup [.agg [.bool false,.int .i64 1,.int .i64 0],.bool true])):=gR (cF aR true 5 [105,110,99,111,109,101] (by decide)) (by kernel_rfl)
theorem sZ:CO 90 [.sl (aW aR) 12 true,.int .i64 5,.str [107,105,100,115]] (.ret (.tup [.agg [.bool false,.int .i64 0,.int .i64 0],.bool true])):=gR (cF aR true 5 [107,105,100,115] (by decide)) (by kernel_rfl)
theorem tj:CO 90 [.sl (aW aR) 12 true,.int .i64 5,.str [115,105,110,103,108,101]] (.ret (.tup [.agg [.bool true,.int .i64 0,.int .i64 0],.bool true])):=gR (cF aR true 5 [115,105,110,103,108,101] (by decide)) (by kernel_rfl)
theorem tk:CO 90 [.sl (aW aR) 12 true,.int .i64 5,.str [115,116,97,121]] (.ret (.tup [.agg [.bool false,.int .i64 0,.int .i64 1],.bool true])):=gR (cF aR true 5 [115,116,97,121] (by decide)) (by kernel_rfl)
theorem tq:CO 90 [.sl (aW aR) 12 true,.int .i64 6,.str [112,111,111,114]] (.ret (.tup [.agg [.bool true,.int .i64 0,.int .i64 0],.bool true])):=gR (cF aR true 6 [112,111,111,114] (by decide)) (by kernel_rfl)
theorem tu:CO 90 [.sl (aW aR) 12 true,.int .i64 6,.str [116,97,120]] (.ret (.tup [.agg [.bool false,.int .i64 1,.int .i64 0],.bool true])):=gR (cF aR true 6 [116,97,120] (by decide)) (by kernel_rfl)
theorem tv:CO 90 [.sl (aW aR) 12 true,.int .i64 7,.str [112,111,111,114]] (.ret (.tup [.agg [.bool true,.int .i64 0,.int .i64 0],.bool true])):=gR (cF aR true 7 [112,111,111,114] (by decide)) (by kernel_rfl)
theorem tw:CO 90 [.sl (aW aR) 12 true,.int .i64 7,.str [116,97,120]] (.ret (.tup [.agg [.bool false,.int .i64 1,.int .i64 0],.bool true])):=gR (cF aR true 7 [116,97,120] (by decide)) (by kernel_rfl)
theorem tz:CO 90 [.sl (aW aR) 12 true,.int .i64 8,.str [112,111,111,114]] (.ret (.tup [.agg [.bool true,.int .i64 0,.int .i64 0],.bool true])):=gR (cF aR true 8 [112,111,111,114] (by decide)) (by kernel_rfl)
theorem tA:CO 90 [.sl (aW aR) 12 true,.int .i64 8,.str [116,97,120]] (.ret (.tup [.agg [.bool false,.int .i64 1,.int .i64 0],.bool true])):=gR (cF aR true 8 [116,97,120] (by decide)) (by kernel_rfl)
theorem iD:CO 90 [.sl (aW aR) 12 true,.int .i64 24,.str [115,99,97,108,101]] (.ret (.tup [.agg [.bool false,.int .i64 1,.int .i64 0],.bool true])):=gR (cF aR true 24 [115,99,97,108,101] (by decide)) (by kernel_rfl)
theorem iE:CO 90 [.sl (aW aR) 12 true,.int .i64 24,.str [116,101,114,109]] (.ret (.tup [.agg [.bool false,.int .i64 0,.int .i64 1],.bool true])):=gR (cF aR true 24 [116,101,114,109] (by decide)) (by kernel_rfl)
def iA (op:Int):Nd:=⟨op,false,[],[],[]⟩
theorem iW (op:Int):(iA op).sm:=⟨by show 0<_;omega,by show 0<_;omega⟩
theorem xz {v:Int} (h:0≤v) (h':v<64):(nG v).ok∧(nG v).n<64∧(nG v).d<64:=by
 refine ⟨vB (fun hn=> ?_),by simp only [nG];omega,by simp [nG]⟩
 simp only [decide_eq_true_eq] at hn
 omega
theorem xR {x:Nd} (h:x.sm):∀ y ∈ [x],y.sm:=by intro y hy;simp at hy;subst hy;exact h
theorem Ac (xs:List Int) (nn:Bool) (k:Nat) (hl:xs.length<2^62) (hk:k≤xs.length):∃ (e:List Nd) (k2:Nat),k2≤xs.length∧Tm aR e ⟨false,1,0⟩∧(∀ x ∈ e,x.sm)∧e.length≤1∧aB prog ap 93 [.ptr 0 0 0,.agg (bC ⟨false,1,0⟩)] [dB xs nn k] (.ret (.own (aw e) e.length 5)) [dB xs nn k2]:=by
 obtain ⟨w,k1,hk1,h1,h2,h3,_,c0⟩:=kQ xs nn k hl hk (-8) (by omega) (by omega)
 exact ⟨[qN 1 w],k1,hk1,.n0 (gM h1 h2 h3 1 (by simp)) rfl (by kernel_rfl),xR (sx h2 h3),by simp,pK [] 1 1 (.n 7 .nil) (.c c0 .nil)⟩
theorem Ab (xs:List Int) (nn:Bool) (k:Nat) (hl:xs.length<2^62) (hk:k≤xs.length):∃ (e:List Nd) (k2:Nat),k2≤xs.length∧Tm aR e ⟨false,0,1⟩∧(∀ x ∈ e,x.sm)∧e.length≤1∧aB prog ap 93 [.ptr 0 0 0,.agg (bC ⟨false,0,1⟩)] [dB xs nn k] (.ret (.own (aw e) e.length 5)) [dB xs nn k2]:=by
 obtain ⟨w,k1,hk1,h1,h2,h3,_,c0⟩:=kQ xs nn k hl hk (-8) (by omega) (by omega)
 exact ⟨[qN 2 w],k1,hk1,.n0 (gM h1 h2 h3 2 (by simp)) rfl (by kernel_rfl),xR (sx h2 h3),by simp,pK [] 2 2 (.n 8 .nil) (.c c0 .nil)⟩
theorem Ad (xs:List Int) (nn:Bool) (k:Nat) (hl:xs.length<2^62) (hk:k≤xs.length):∃ (e:List Nd) (k2:Nat),k2≤xs.length∧Tm aR e ⟨false,0,0⟩∧(∀ x ∈ e,x.sm)∧e.length≤1∧aB prog ap 93 [.ptr 0 0 0,.agg (bC ⟨false,0,0⟩)] [dB xs nn k] (.ret (.own (aw e) e.length 5)) [dB xs nn k2]:=by
 obtain ⟨w,k1,hk1,h1,h2,h3,_,c0⟩:=kQ xs nn k hl hk (-8) (by omega) (by omega)
 exact ⟨[qN 3 w],k1,hk1,.n0 (gM h1 h2 h3 3 (by simp)) rfl (by kernel_rfl),xR (sx h2 h3),by simp,pK [] 4 0 (.n 12 .nil) (.c c0 .nil)⟩
theorem Ae (xs:List Int) (nn:Bool) (k:Nat) (hl:xs.length<2^62) (hk:k≤xs.length):∃ (e:List Nd) (k2:Nat),k2≤xs.length∧Tm aR e ⟨false,1, -1⟩∧(∀ x ∈ e,x.sm)∧e.length≤5∧aB prog ap 93 [.ptr 0 0 0,.agg (bC ⟨false,1, -1⟩)] [dB xs nn k] (.ret (.own (aw e) e.length 5)) [dB xs nn k2]:=by
 obtain ⟨w,k1,hk1,h1,h2,h3,_,c0⟩:=kQ xs nn k hl hk (-8) (by omega) (by omega)
 obtain ⟨r1,k2,hr1,hk2,c1⟩:=cG xs nn k1 3 hl hk1 (by omega) (by omega)
 obtain ⟨r2,k3,hr2,hk3,c3⟩:=cG xs nn k2 3 hl hk2 (by omega) (by omega)
 have e1:IntKind.wrap .i64 (((1:Nat):Int)+(r1:Int))=1+(r1:Int):=bo (by omega) (by omega)
 have e2:IntKind.wrap .i64 (((1:Nat):Int)+(r2:Int))=1+(r2:Int):=bo (by omega) (by omega)
 have c2:=dR (1+(r1:Int)) (by omega) (by omega)
 have c4:=dR (1+(r2:Int)) (by omega) (by omega)
 obtain ⟨a1,a2,a3⟩:=xz (v:=1+(r1:Int)) (by omega) (by omega)
 obtain ⟨b1,b2,b3⟩:=xz (v:=1+(r2:Int)) (by omega) (by omega)
 have m1:Tm aR ([qN 3 w]++ [qN 1 (nG (1+(r1:Int)))]++ [iA 11]) ⟨false,1,0⟩:= .n2 (.n0 (t:=⟨false,0,0⟩) (gM h1 h2 h3 3 (by simp)) rfl (by kernel_rfl)) (.n0 (t:=⟨false,1,0⟩) (gM a1 a2 a3 1 (by simp)) rfl (by kernel_rfl)) (by kernel_rfl) rfl (by kernel_rfl)
 have m2:Tm aR ([qN 3 w]++ [qN 1 (nG (1+(r1:Int)))]++ [iA 11]++ [qN 2 (nG (1+(r2:Int)))]++ [iA 12]) ⟨false,1, -1⟩:= .n2 m1 (.n0 (t:=⟨false,0,1⟩) (gM b1 b2 b3 2 (by simp)) rfl (by kernel_rfl)) (by kernel_rfl) rfl (by kernel_rfl)
 have hq:∀ x ∈ [qN 3 w]++ [qN 1 (nG (1+(r1:Int)))]++ [iA 11]++ [qN 2 (nG (1+(r2:Int)))]++ [iA 12],x.sm:=by
  intro x hx
  simp only [List.mem_append,List.mem_singleton] at hx
  rcases hx with (((rfl|rfl)|rfl)|rfl)|rfl
  ·exact sx h2 h3
  ·exact sx a2 a3
  ·exact iW _
  ·exact sx b2 b3
  ·exact iW _
 generalize nG (1+(r1:Int))=q1 at*
 generalize nG (1+(r2:Int))=q2 at*
 exact ⟨_,k3,hk3,m2,hq,by simp,pK [] 12 92 (.n 28 .nil) (.c (show CO 19 [.int .i64 (IntKind.wrap .i64 (((1:Nat):Int)+(r2:Int)))] (.ret (qA q2)) by rw [e2];exact c4) (.c c3 (.c (show CO 19 [.int .i64 (IntKind.wrap .i64 (((1:Nat):Int)+(r1:Int)))] (.ret (qA q1)) by rw [e1];exact c2) (.c c1 (.c c0 .nil)))))⟩
theorem J5 (xs:List Int) (nn:Bool) (k:Nat) (hl:xs.length<2^62) (hk:k≤xs.length):∃ (e:List Nd) (k2:Nat),k2≤xs.length∧Tm aR e ⟨false,1,0⟩∧(∀ x ∈ e,x.sm)∧e.length≤1∧aB prog ap 57 [.sl (aW aR) 12 true,.ptr 0 0 0,.agg (bC ⟨false,1,0⟩)] [dB xs nn k] (.ret (.own (aw e) e.length 5)) [dB xs nn k2]:=by
 obtain ⟨r,k1,hr,hk1,c0⟩:=cG xs nn k 6 hl hk (by omega) (by omega)
 have this:r=0∨r=1∨r=2∨r=3∨r=4∨r=5:=by omega
 rcases this with rfl|rfl|rfl|rfl|rfl|rfl
 ·exact ⟨[⟨5,false,[],[],[105,110,99,111,109,101]⟩],k1,hk1,.n0 (by kernel_rfl) rfl (by kernel_rfl),xR ⟨by simp,by simp⟩,by simp,pK [] 51 1240180127100655 (.n 276 .nil) (.c c0 (.c iE (.c iD (.c tA (.c tz (.c tw (.c tv (.c tu (.c tq (.c tk (.c tj (.c sZ (.c sY .nil)))))))))))))⟩
 ·exact ⟨[⟨6,false,[],[],[116,97,120]⟩],k1,hk1,.n0 (by kernel_rfl) rfl (by kernel_rfl),xR ⟨by simp,by simp⟩,by simp,pK [] 51 1240180127100655 (.n 276 .nil) (.c c0 (.c iE (.c iD (.c tA (.c tz (.c tw (.c tv (.c tu (.c tq (.c tk (.c tj (.c sZ (.c sY .nil)))))))))))))⟩
 ·exact ⟨[⟨7,false,[],[],[116,97,120]⟩],k1,hk1,.n0 (by kernel_rfl) rfl (by kernel_rfl),xR ⟨by simp,by simp⟩,by simp,pK [] 51 1240180127100655 (.n 276 .nil) (.c c0 (.c iE (.c iD (.c tA (.c tz (.c tw (.c tv (.c tu (.c tq (.c tk (.c tj (.c sZ (.c sY .nil)))))))))))))⟩
 ·exact ⟨[⟨8,false,[],[],[116,97,120]⟩],k1,hk1,.n0 (by kernel_rfl) rfl (by kernel_rfl),xR ⟨by simp,by simp⟩,by simp,pK [] 51 1240180127100655 (.n 276 .nil) (.c c0 (.c iE (.c iD (.c tA (.c tz (.c tw (.c tv (.c tu (.c tq (.c tk (.c tj (.c sZ (.c sY .nil)))))))))))))⟩
 ·obtain ⟨e,k2,hk2,h1,h2,h3,cc⟩:=Ac xs nn k1 hl hk1
  have h:aB prog ap 57 [.sl (aW aR) 12 true,.ptr 0 0 0,.agg (bC ⟨false,1,0⟩)] [dB xs nn k] (.ret (.own (List.take (e.length*5) (aw e)) e.length 5)) [dB xs nn k2]:=pK [] 52 114280220258031 (.n 274 .nil) (.c cc (.c c0 (.c iE (.c iD (.c tA (.c tz (.c tw (.c tv (.c tu (.c tq (.c tk (.c tj (.c sZ (.c sY .nil))))))))))))))
  rw [List.take_of_length_le (by rw [aJ];omega)] at h
  exact ⟨e,k2,hk2,h1,h2,h3,h⟩
 ·obtain ⟨e,k2,hk2,h1,h2,h3,cc⟩:=Ac xs nn k1 hl hk1
  have h:aB prog ap 57 [.sl (aW aR) 12 true,.ptr 0 0 0,.agg (bC ⟨false,1,0⟩)] [dB xs nn k] (.ret (.own (List.take (e.length*5) (aw e)) e.length 5)) [dB xs nn k2]:=pK [] 52 114280220258031 (.n 274 .nil) (.c cc (.c c0 (.c iE (.c iD (.c tA (.c tz (.c tw (.c tv (.c tu (.c tq (.c tk (.c tj (.c sZ (.c sY .nil))))))))))))))
  rw [List.take_of_length_le (by rw [aJ];omega)] at h
  exact ⟨e,k2,hk2,h1,h2,h3,h⟩
theorem J4 (xs:List Int) (nn:Bool) (k:Nat) (hl:xs.length<2^62) (hk:k≤xs.length):∃ (e:List Nd) (k2:Nat),k2≤xs.length∧Tm aR e ⟨false,0,1⟩∧(∀ x ∈ e,x.sm)∧e.length≤1∧aB prog ap 57 [.sl (aW aR) 12 true,.ptr 0 0 0,.agg (bC ⟨false,0,1⟩)] [dB xs nn k] (.ret (.own (aw e) e.length 5)) [dB xs nn k2]:=by
 obtain ⟨r,k1,hr,hk1,c0⟩:=cG xs nn k 3 hl hk (by omega) (by omega)
 have this:r=0∨r=1∨r=2:=by omega
 rcases this with rfl|rfl|rfl
 ·exact ⟨[⟨5,false,[],[],[115,116,97,121]⟩],k1,hk1,.n0 (by kernel_rfl) rfl (by kernel_rfl),xR ⟨by simp,by simp⟩,by simp,pK [] 51 1239076303730551 (.n 246 .nil) (.c c0 (.c iE (.c iD (.c tA (.c tz (.c tw (.c tv (.c tu (.c tq (.c tk (.c tj (.c sZ (.c sY .nil)))))))))))))⟩
 ·obtain ⟨e,k2,hk2,h1,h2,h3,cc⟩:=Ab xs nn k1 hl hk1
  have h:aB prog ap 57 [.sl (aW aR) 12 true,.ptr 0 0 0,.agg (bC ⟨false,0,1⟩)] [dB xs nn k] (.ret (.own (List.take (e.length*5) (aw e)) e.length 5)) [dB xs nn k2]:=pK [] 52 113176396887927 (.n 244 .nil) (.c cc (.c c0 (.c iE (.c iD (.c tA (.c tz (.c tw (.c tv (.c tu (.c tq (.c tk (.c tj (.c sZ (.c sY .nil))))))))))))))
  rw [List.take_of_length_le (by rw [aJ];omega)] at h
  exact ⟨e,k2,hk2,h1,h2,h3,h⟩
 ·obtain ⟨e,k2,hk2,h1,h2,h3,cc⟩:=Ab xs nn k1 hl hk1
  have h:aB prog ap 57 [.sl (aW aR) 12 true,.ptr 0 0 0,.agg (bC ⟨false,0,1⟩)] [dB xs nn k] (.ret (.own (List.take (e.length*5) (aw e)) e.length 5)) [dB xs nn k2]:=pK [] 52 113176396887927 (.n 244 .nil) (.c cc (.c c0 (.c iE (.c iD (.c tA (.c tz (.c tw (.c tv (.c tu (.c tq (.c tk (.c tj (.c sZ (.c sY .nil))))))))))))))
  rw [List.take_of_length_le (by rw [aJ];omega)] at h
  exact ⟨e,k2,hk2,h1,h2,h3,h⟩
theorem Ee (xs:List Int) (nn:Bool) (k:Nat) (hl:xs.length<2^62) (hk:k≤xs.length):∃ (e:List Nd) (k2:Nat),k2≤xs.length∧Tm aR e ⟨false,0,0⟩∧(∀ x ∈ e,x.sm)∧e.length≤1∧aB prog ap 57 [.sl (aW aR) 12 true,.ptr 0 0 0,.agg (bC ⟨false,0,0⟩)] [dB xs nn k] (.ret (.own (aw e) e.length 5)) [dB xs nn k2]:=by
 obtain ⟨r,k1,hr,hk1,c0⟩:=cG xs nn k 3 hl hk (by omega) (by omega)
 have this:r=0∨r=1∨r=2:=by omega
 rcases this with rfl|rfl|rfl
 ·exact ⟨[⟨5,false,[],[],[107,105,100,115]⟩],k1,hk1,.n0 (by kernel_rfl) rfl (by kernel_rfl),xR ⟨by simp,by simp⟩,by simp,pK [] 51 1239076303728375 (.n 246 .nil) (.c c0 (.c iE (.c iD (.c tA (.c tz (.c tw (.c tv (.c tu (.c tq (.c tk (.c tj (.c sZ (.c sY .nil)))))))))))))⟩
 ·obtain ⟨e,k2,hk2,h1,h2,h3,cc⟩:=Ad xs nn k1 hl hk1
  have h:aB prog ap 57 [.sl (aW aR) 12 true,.ptr 0 0 0,.agg (bC ⟨false,0,0⟩)] [dB xs nn k] (.ret (.own (List.take (e.length*5) (aw e)) e.length 5)) [dB xs nn k2]:=pK [] 52 113176396885751 (.n 244 .nil) (.c cc (.c c0 (.c iE (.c iD (.c tA (.c tz (.c tw (.c tv (.c tu (.c tq (.c tk (.c tj (.c sZ (.c sY .nil))))))))))))))
  rw [List.take_of_length_le (by rw [aJ];omega)] at h
  exact ⟨e,k2,hk2,h1,h2,h3,h⟩
 ·obtain ⟨e,k2,hk2,h1,h2,h3,cc⟩:=Ad xs nn k1 hl hk1
  have h:aB prog ap 57 [.sl (aW aR) 12 true,.ptr 0 0 0,.agg (bC ⟨false,0,0⟩)] [dB xs nn k] (.ret (.own (List.take (e.length*5) (aw e)) e.length 5)) [dB xs nn k2]:=pK [] 52 113176396885751 (.n 244 .nil) (.c cc (.c c0 (.c iE (.c iD (.c tA (.c tz (.c tw (.c tv (.c tu (.c tq (.c tk (.c tj (.c sZ (.c sY .nil))))))))))))))
  rw [List.take_of_length_le (by rw [aJ];omega)] at h
  exact ⟨e,k2,hk2,h1,h2,h3,h⟩
theorem J7 (xs:List Int) (nn:Bool) (k:Nat) (hl:xs.length<2^62) (hk:k≤xs.length):∃ (e:List Nd) (k2:Nat),k2≤xs.length∧Tm aR e ⟨true,0,0⟩∧(∀ x ∈ e,x.sm)∧e.length≤1∧aB prog ap 57 [.sl (aW aR) 12 true,.ptr 0 0 0,.agg (bC ⟨true,0,0⟩)] [dB xs nn k] (.ret (.own (aw e) e.length 5)) [dB xs nn k2]:=by
 obtain ⟨r,k1,hr,hk1,c0⟩:=cG xs nn k 6 hl hk (by omega) (by omega)
 have this:r=0∨r=1∨r=2∨r=3∨r=4∨r=5:=by omega
 rcases this with rfl|rfl|rfl|rfl|rfl|rfl
 ·exact ⟨[⟨5,false,[],[],[115,105,110,103,108,101]⟩],k1,hk1,.n0 (by kernel_rfl) rfl (by kernel_rfl),xR ⟨by simp,by simp⟩,by simp,pK [] 51 1239145292689271 (.n 276 .nil) (.c c0 (.c iE (.c iD (.c tA (.c tz (.c tw (.c tv (.c tu (.c tq (.c tk (.c tj (.c sZ (.c sY .nil)))))))))))))⟩
 ·exact ⟨[⟨6,false,[],[],[112,111,111,114]⟩],k1,hk1,.n0 (by kernel_rfl) rfl (by kernel_rfl),xR ⟨by simp,by simp⟩,by simp,pK [] 51 1239145292689271 (.n 276 .nil) (.c c0 (.c iE (.c iD (.c tA (.c tz (.c tw (.c tv (.c tu (.c tq (.c tk (.c tj (.c sZ (.c sY .nil)))))))))))))⟩
 ·exact ⟨[⟨7,false,[],[],[112,111,111,114]⟩],k1,hk1,.n0 (by kernel_rfl) rfl (by kernel_rfl),xR ⟨by simp,by simp⟩,by simp,pK [] 51 1239145292689271 (.n 276 .nil) (.c c0 (.c iE (.c iD (.c tA (.c tz (.c tw (.c tv (.c tu (.c tq (.c tk (.c tj (.c sZ (.c sY .nil)))))))))))))⟩
 ·exact ⟨[⟨8,false,[],[],[112,111,111,114]⟩],k1,hk1,.n0 (by kernel_rfl) rfl (by kernel_rfl),xR ⟨by simp,by simp⟩,by simp,pK [] 51 1239145292689271 (.n 276 .nil) (.c c0 (.c iE (.c iD (.c tA (.c tz (.c tw (.c tv (.c tu (.c tq (.c tk (.c tj (.c sZ (.c sY .nil)))))))))))))⟩
 ·obtain ⟨s,k2,hs,hk2,c1⟩:=cG xs nn k1 2 hl hk1 (by omega) (by omega)
  have this:s=0∨s=1:=by omega
  rcases this with rfl|rfl
  ·have c2:=dR ((0:Nat):Int) (by decide) (by decide)
   exact ⟨[qN 4 (nG ((0:Nat):Int))],k2,hk2,.n0 (by kernel_rfl) rfl (by kernel_rfl),xR (sx (by decide) (by decide)),by simp,pK [] 52 2365045199531895 (.n 271 .nil) (.c c2 (.c c1 (.c c0 (.c iE (.c iD (.c tA (.c tz (.c tw (.c tv (.c tu (.c tq (.c tk (.c tj (.c sZ (.c sY .nil)))))))))))))))⟩
  ·have c2:=dR ((1:Nat):Int) (by decide) (by decide)
   exact ⟨[qN 4 (nG ((1:Nat):Int))],k2,hk2,.n0 (by kernel_rfl) rfl (by kernel_rfl),xR (sx (by decide) (by decide)),by simp,pK [] 52 2365045199531895 (.n 271 .nil) (.c c2 (.c c1 (.c c0 (.c iE (.c iD (.c tA (.c tz (.c tw (.c tv (.c tu (.c tq (.c tk (.c tj (.c sZ (.c sY .nil)))))))))))))))⟩
 ·obtain ⟨s,k2,hs,hk2,c1⟩:=cG xs nn k1 2 hl hk1 (by omega) (by omega)
  have this:s=0∨s=1:=by omega
  rcases this with rfl|rfl
  ·have c2:=dR ((0:Nat):Int) (by decide) (by decide)
   exact ⟨[qN 4 (nG ((0:Nat):Int))],k2,hk2,.n0 (by kernel_rfl) rfl (by kernel_rfl),xR (sx (by decide) (by decide)),by simp,pK [] 52 2365045199531895 (.n 271 .nil) (.c c2 (.c c1 (.c c0 (.c iE (.c iD (.c tA (.c tz (.c tw (.c tv (.c tu (.c tq (.c tk (.c tj (.c sZ (.c sY .nil)))))))))))))))⟩
  ·have c2:=dR ((1:Nat):Int) (by decide) (by decide)
   exact ⟨[qN 4 (nG ((1:Nat):Int))],k2,hk2,.n0 (by kernel_rfl) rfl (by kernel_rfl),xR (sx (by decide) (by decide)),by simp,pK [] 52 2365045199531895 (.n 271 .nil) (.c c2 (.c c1 (.c c0 (.c iE (.c iD (.c tA (.c tz (.c tw (.c tv (.c tu (.c tq (.c tk (.c tj (.c sZ (.c sY .nil)))))))))))))))⟩
theorem J6 (xs:List Int) (nn:Bool) (k:Nat) (hl:xs.length<2^62) (hk:k≤xs.length):∃ (e:List Nd) (k2:Nat),k2≤xs.length∧Tm aR e ⟨false,1, -1⟩∧(∀ x ∈ e,x.sm)∧e.length≤5∧aB prog ap 57 [.sl (aW aR) 12 true,.ptr 0 0 0,.agg (bC ⟨false,1, -1⟩)] [dB xs nn k] (.ret (.own (aw e) e.length 5)) [dB xs nn k2]:=by
 obtain ⟨r,k1,hr,hk1,c0⟩:=cG xs nn k 2 hl hk (by omega) (by omega)
 have this:r=0∨r=1:=by omega
 rcases this with rfl|rfl
 ·obtain ⟨e,k2,hk2,h1,h2,h3,cc⟩:=Ae xs nn k1 hl hk1
  have h:aB prog ap 57 [.sl (aW aR) 12 true,.ptr 0 0 0,.agg (bC ⟨false,1, -1⟩)] [dB xs nn k] (.ret (.own (List.take (e.length*5) (aw e)) e.length 5)) [dB xs nn k2]:=pK [] 51 56588198442871 (.n 235 .nil) (.c cc (.c c0 (.c iE (.c iD (.c tA (.c tz (.c tw (.c tv (.c tu (.c tq (.c tk (.c tj (.c sZ (.c sY .nil))))))))))))))
  rw [List.take_of_length_le (by rw [aJ];omega)] at h
  exact ⟨e,k2,hk2,h1,h2,h3,h⟩
 ·obtain ⟨e,k2,hk2,h1,h2,h3,cc⟩:=Ae xs nn k1 hl hk1
  have h:aB prog ap 57 [.sl (aW aR) 12 true,.ptr 0 0 0,.agg (bC ⟨false,1, -1⟩)] [dB xs nn k] (.ret (.own (List.take (e.length*5) (aw e)) e.length 5)) [dB xs nn k2]:=pK [] 51 56588198442871 (.n 235 .nil) (.c cc (.c c0 (.c iE (.c iD (.c tA (.c tz (.c tw (.c tv (.c tu (.c tq (.c tk (.c tj (.c sZ (.c sY .nil))))))))))))))
  rw [List.take_of_length_le (by rw [aJ];omega)] at h
  exact ⟨e,k2,hk2,h1,h2,h3,h⟩
theorem zj {n:Nat} (a b:List Nd) (h:n=a.length):List.take (n*5) (aw a)++aw b=aw (a++b):=by
 rw [List.take_of_length_le (by rw [aJ];omega),qy]
theorem zk {n:Nat} (a:List Nd) (x:Nd) (h:n=a.length):List.take (n*5) (aw a)++ [AV.int .i64 x.op,.bool x.neg,.str x.num,.str x.den,.str x.name]=aw (a++ [x]):=by
 rw [List.take_of_length_le (by rw [aJ];omega),qy];rfl
theorem LY (x:Nd) (a:List Nd) (h0:(Nat.ble (a.length+1) 1099511627776)=true) (h1:(Nat.ble (a.length*5) (List.length (aw a)))=true) (h2:(Nat.beq (List.length (aw a)) (a.length*5))=true) (h3:(Nat.ble a.length 1099511627776)=true) (h4:lit false (Nat.beq a.length 0)=true):CO 58 [.agg [.int .i64 x.op,.bool x.neg,.str x.num,.str x.den,.str x.name],.sl [.sl (aw a) a.length true] 1 true] (.ret (.own (List.take ((a.length+1)*5) (aw (a++ [x]))) (a.length+1) 5)):=pK [] 3 1 (.k 1 h0 (.c h1 (.k 7 h2 (.c h3 (.c h4 (.n 4 .nil)))))) (.b 22 (zk a x rfl) (.b 18 (Eq.refl (aw a)) .nil))
theorem Jh (x:Nd) (a:List Nd) (ne:a ≠ []) (ha:a.length<1000):CO 58 [.agg (fk x),.sl [.sl (aw a) a.length true] 1 true] (.ret (.own (aw (a++ [x])) (a++ [x]).length 5)):=by
 have hp:0<a.length:=by cases a with|nil=>exact absurd rfl ne|cons _ _=>simp
 have hb:Nat.beq a.length 0=false:=by cases ha:a.length with|zero=>omega|succ n=>rfl
 have h:=LY x a (by first|(simp [aJ];done)|(simp [aJ];omega)|omega) (by first|(simp [aJ];done)|(simp [aJ];omega)|omega) (by first|(simp [aJ];done)|(simp [aJ];omega)|omega) (by first|(simp [aJ];done)|(simp [aJ];omega)|omega) (aU hb)
 rw [List.take_of_length_le (by rw [aJ];first|(simp;done)|(simp;omega))] at h
 rw [show (a++ [x]).length=a.length+1 by simp [Nat.add_assoc]]
 exact h
theorem LZ (x:Nd) (a b:List Nd) (h0:(Nat.ble ((a.length+b.length)+1) 1099511627776)=true) (h1:(Nat.ble ((a.length+b.length)*5) (List.length (aw (a++b))))=true) (h2:(Nat.beq (List.length (aw b)) (b.length*5))=true) (h3:(Nat.ble (a.length+b.length) 1099511627776)=true) (h4:(Nat.ble (a.length*5) (List.length (aw a)))=true) (h5:(Nat.beq (List.length (aw a)) (a.length*5))=true) (h6:(Nat.ble a.length 1099511627776)=true) (h7:lit false (Nat.beq a.length 0)=true):CO 58 [.agg [.int .i64 x.op,.bool x.neg,.str x.num,.str x.den,.str x.name],.sl [.sl (aw a) a.length true,.sl (aw b) b.length true] 2 true] (.ret (.own (List.take (((a.length+b.length)+1)*5) (aw (a++b++ [x]))) ((a.length+b.length)+1) 5)):=pK [] 4 5 (.k 1 h0 (.c h1 (.k 7 h2 (.c h3 (.c h4 (.k 5 h5 (.c h6 (.c h7 (.n 4 .nil))))))))) (.b 22 (zk (a++b) x List.length_append.symm) (.b 18 (zj a b rfl) (.b 18 (Eq.refl (aw a)) .nil)))
theorem Ji (x:Nd) (a b:List Nd) (ne:a ≠ []) (ha:a.length<1000) (hb:b.length<1000):CO 58 [.agg (fk x),.sl [.sl (aw a) a.length true,.sl (aw b) b.length true] 2 true] (.ret (.own (aw (a++b++ [x])) (a++b++ [x]).length 5)):=by
 have hp:0<a.length:=by cases a with|nil=>exact absurd rfl ne|cons _ _=>simp
 have hb:Nat.beq a.length 0=false:=by cases ha:a.length with|zero=>omega|succ n=>rfl
 have h:=LZ x a b (by first|(simp [aJ];done)|(simp [aJ];omega)|omega) (by first|(simp [aJ];done)|(simp [aJ];omega)|omega) (by first|(simp [aJ];done)|(simp [aJ];omega)|omega) (by first|(simp [aJ];done)|(simp [aJ];omega)|omega) (by first|(simp [aJ];done)|(simp [aJ];omega)|omega) (by first|(simp [aJ];done)|(simp [aJ];omega)|omega) (by first|(simp [aJ];done)|(simp [aJ];omega)|omega) (aU hb)
 rw [List.take_of_length_le (by rw [aJ];first|(simp;done)|(simp;omega))] at h
 rw [show (a++b++ [x]).length=a.length+b.length+1 by simp [Nat.add_assoc]]
 exact h
theorem L5 (x:Nd) (a b c:List Nd) (h0:(Nat.ble (((a.length+b.length)+c.length)+1) 1099511627776)=true) (h1:(Nat.ble (((a.length+b.length)+c.length)*5) (List.length (aw (a++b++c))))=true) (h2:(Nat.beq (List.length (aw c)) (c.length*5))=true) (h3:(Nat.ble ((a.length+b.length)+c.length) 1099511627776)=true) (h4:(Nat.ble ((a.length+b.length)*5) (List.length (aw (a++b))))=true) (h5:(Nat.beq (List.length (aw b)) (b.length*5))=true) (h6:(Nat.ble (a.length+b.length) 1099511627776)=true) (h7:(Nat.ble (a.length*5) (List.length (aw a)))=true) (h8:(Nat.beq (List.length (aw a)) (a.length*5))=true) (h9:(Nat.ble a.length 1099511627776)=true) (h10:lit false (Nat.beq a.length 0)=true):CO 58 [.agg [.int .i64 x.op,.bool x.neg,.str x.num,.str x.den,.str x.name],.sl [.sl (aw a) a.length true,.sl (aw b) b.length true,.sl (aw c) c.length true] 3 true] (.ret (.own (List.take ((((a.length+b.length)+c.length)+1)*5) (aw (a++b++c++ [x]))) (((a.length+b.length)+c.length)+1) 5)):=pK [] 5 13 (.k 1 h0 (.c h1 (.k 7 h2 (.c h3 (.c h4 (.k 5 h5 (.c h6 (.c h7 (.k 5 h8 (.c h9 (.c h10 (.n 4 .nil)))))))))))) (.b 22 (zk (a++b++c) x (by rw [List.length_append,List.length_append])) (.b 18 (zj (a++b) c List.length_append.symm) (.b 18 (zj a b rfl) (.b 18 (Eq.refl (aw a)) .nil))))
theorem Jj (x:Nd) (a b c:List Nd) (ne:a ≠ []) (ha:a.length<1000) (hb:b.length<1000) (hc:c.length<1000):CO 58 [.agg (fk x),.sl [.sl (aw a) a.length true,.sl (aw b) b.length true,.sl (aw c) c.length true] 3 true] (.ret (.own (aw (a++b++c++ [x])) (a++b++c++ [x]).length 5)):=by
 have hp:0<a.length:=by cases a with|nil=>exact absurd rfl ne|cons _ _=>simp
 have hb:Nat.beq a.length 0=false:=by cases ha:a.length with|zero=>omega|succ n=>rfl
 have h:=L5 x a b c (by first|(simp [aJ];done)|(simp [aJ];omega)|omega) (by first|(simp [aJ];done)|(simp [aJ];omega)|omega) (by first|(simp [aJ];done)|(simp [aJ];omega)|omega) (by first|(simp [aJ];done)|(simp [aJ];omega)|omega) (by first|(simp [aJ];done)|(simp [aJ];omega)|omega) (by first|(simp [aJ];done)|(simp [aJ];omega)|omega) (by first|(simp [aJ];done)|(simp [aJ];omega)|omega) (by first|(simp [aJ];done)|(simp [aJ];omega)|omega) (by first|(simp [aJ];done)|(simp [aJ];omega)|omega) (by first|(simp [aJ];done)|(simp [aJ];omega)|omega) (aU hb)
 rw [List.take_of_length_le (by rw [aJ];first|(simp;done)|(simp;omega))] at h
 rw [show (a++b++c++ [x]).length=a.length+b.length+c.length+1 by simp [Nat.add_assoc]]
 exact h
def tM:Ty:=⟨false,1,0⟩
def tD:Ty:=⟨false,0,1⟩
def tP:Ty:=⟨false,0,0⟩
def bF (t:Ty):Prop:=t=tM∨t=tD∨t=tP∨t=tT
def bL:Nat→Nat
 |0=>1
 |n+1=>3*bL n+1
def Mk (f:Nat) (pre post:List AV) (t:Ty) (bnd:Nat) (xs:List Int) (nn:Bool) (k:Nat):Prop:=∃ (e:List Nd) (k2:Nat),k2≤xs.length∧Tm aR e t∧(∀ x ∈ e,x.sm)∧e.length≤bnd∧aB prog ap f (pre++ .agg (bC t)::post) [dB xs nn k] (.ret (.own (aw e) e.length 5)) [dB xs nn k2]
abbrev eX (t:Ty) (lv:Int) (bnd:Nat) (xs:List Int) (nn:Bool) (k:Nat):Prop:=Mk 38 [.sl (aW aR) 12 true,.ptr 0 0 0] [.int .i64 lv] t bnd xs nn k
theorem zi {f:Nat} {pre post:List AV} {t:Ty} {bnd k k2:Nat} {xs:List Int} {nn:Bool} {e:List Nd} (hk:k2≤xs.length) (h1:Tm aR e t) (h2:∀ x ∈ e,x.sm) (h3:e.length≤bnd) (h:aB prog ap f (pre++ .agg (bC t)::post) [dB xs nn k] (.ret (.own (List.take (e.length*5) (aw e)) e.length 5)) [dB xs nn k2]):Mk f pre post t bnd xs nn k:=by
 rw [List.take_of_length_le (by rw [aJ];omega)] at h
 exact ⟨e,k2,hk,h1,h2,h3,h⟩
theorem xo (a:List Nd):List.take (a.length*5) (aw a)=aw a:=List.take_of_length_le (by rw [aJ];omega)
theorem FP (x:Nd) (a:List Nd) (ne:a ≠ []) (ha:a.length<1000):CO 58 [.agg (fk x),.sl [.sl (List.take (a.length*5) (aw a)) a.length true] 1 true] (.ret (.own (aw (a++ [x])) (a++ [x]).length 5)):=by
 simp only [xo]
 exact Jh x a ne ha
theorem Ia {a:List Nd} {x:Nd} (ha:∀ y ∈ a,y.sm) (hx:x.sm):∀ y ∈ a++ [x],y.sm:=by
 intro y hy
 simp only [List.mem_append,List.mem_singleton] at hy
 rcases hy with hy|rfl
 ·exact ha y hy
 ·exact hx
theorem Dk (x:Nd) (a b:List Nd) (ne:a ≠ []) (ha:a.length<1000) (hb:b.length<1000):CO 58 [.agg (fk x),.sl [.sl (List.take (a.length*5) (aw a)) a.length true,.sl (List.take (b.length*5) (aw b)) b.length true] 2 true] (.ret (.own (aw (a++b++ [x])) (a++b++ [x]).length 5)):=by
 simp only [xo]
 exact Ji x a b ne ha hb
theorem Fh {a b:List Nd} {x:Nd} (ha:∀ y ∈ a,y.sm) (hb:∀ y ∈ b,y.sm) (hx:x.sm):∀ y ∈ a++b++ [x],y.sm:=by
 intro y hy
 simp only [List.mem_append,List.mem_singleton] at hy
 rcases hy with (hy|hy)|rfl
 ·exact ha y hy
 ·exact hb y hy
 ·exact hx
theorem L6 (x:Nd) (a b c:List Nd) (ne:a ≠ []) (ha:a.length<1000) (hb:b.length<1000) (hc:c.length<1000):CO 58 [.agg (fk x),.sl [.sl (List.take (a.length*5) (aw a)) a.length true,.sl (List.take (b.length*5) (aw b)) b.length true,.sl (List.take (c.length*5) (aw c)) c.length true] 3 true] (.ret (.own (aw (a++b++c++ [x])) (a++b++c++ [x]).length 5)):=by
 simp only [xo]
 exact Jj x a b c ne ha hb hc
theorem Qk {a b c:List Nd} {x:Nd} (ha:∀ y ∈ a,y.sm) (hb:∀ y ∈ b,y.sm) (hc:∀ y ∈ c,y.sm) (hx:x.sm):∀ y ∈ a++b++c++ [x],y.sm:=by
 intro y hy
 simp only [List.mem_append,List.mem_singleton] at hy
 rcases hy with ((hy|hy)|hy)|rfl
 ·exact ha y hy
 ·exact hb y hy
 ·exact hc y hy
 ·exact hx
theorem Ar {t:Ty} (ht:bF t) (xs:List Int) (nn:Bool) (k:Nat) (hl:xs.length<2^62) (hk:k≤xs.length):Mk 57 [.sl (aW aR) 12 true,.ptr 0 0 0] [] t 1 xs nn k:=by
 rcases ht with rfl|rfl|rfl|rfl
 ·exact J5 xs nn k hl hk
 ·exact J4 xs nn k hl hk
 ·exact Ee xs nn k hl hk
 ·exact J7 xs nn k hl hk
theorem N8 {t:Ty} (ht:bF t) (xs:List Int) (nn:Bool) (k:Nat) (hl:xs.length<2^62) (hk:k≤xs.length):eX t 0 1 xs nn k:=by
 obtain ⟨e,k2,hk2,h1,h2,h3,c0⟩:=Ar ht xs nn k hl hk
 refine zi hk2 h1 h2 h3 ?_
 rcases ht with rfl|rfl|rfl|rfl
 ·exact pK [] 2 3 (.n 5 .nil) (.c c0 .nil)
 ·exact pK [] 2 3 (.n 5 .nil) (.c c0 .nil)
 ·exact pK [] 2 3 (.n 5 .nil) (.c c0 .nil)
 ·exact pK [] 2 3 (.n 5 .nil) (.c c0 .nil)
theorem N_ (xs:List Int) (nn:Bool) (k:Nat) (hl:xs.length<2^62) (hk:k≤xs.length):eX ⟨false,1, -1⟩ 0 5 xs nn k:=by
 obtain ⟨e,k2,hk2,h1,h2,h3,c0⟩:=J6 xs nn k hl hk
 exact zi hk2 h1 h2 h3 (pK [] 2 3 (.n 5 .nil) (.c c0 .nil))
def kT:Nat→Ty
 |0=>tM
 |1=>tD
 |_=>tP
theorem RG:CO 26 [.int .i64 1,.int .i64 0] (.ret (.agg [.bool false,.int .i64 1,.int .i64 0])):=cK (.nil)
theorem RH:CO 26 [.int .i64 0,.int .i64 1] (.ret (.agg [.bool false,.int .i64 0,.int .i64 1])):=cK (.nil)
theorem RI:CO 26 [.int .i64 0,.int .i64 0] (.ret (.agg [.bool false,.int .i64 0,.int .i64 0])):=cK (.nil)
theorem RJ:CO 25 [] (.ret (.agg [.bool true,.int .i64 0,.int .i64 0])):=cK (.nil)
theorem RK:CO 26 [.int .i64 1,.int .i64 (-1)] (.ret (.agg [.bool false,.int .i64 1,.int .i64 (-1)])):=cK (.nil)
theorem Ut:CO 18 [.int .i64 0,.int .i64 5] (.ret (.int .i64 0)):=cK (.nil)
theorem NT:CO 15 [.int .i64 0] (.ret (.agg [.bool false,.int .i64 1,.int .i64 0])):=cK (.c Ut (.c RK (.c RJ (.c RI (.c RH (.c RG .nil))))))
theorem Uu:CO 18 [.int .i64 1,.int .i64 5] (.ret (.int .i64 1)):=cK (.nil)
theorem Q3:CO 15 [.int .i64 1] (.ret (.agg [.bool false,.int .i64 0,.int .i64 1])):=cK (.c Uu (.c RK (.c RJ (.c RI (.c RH (.c RG .nil))))))
theorem Uv:CO 18 [.int .i64 2,.int .i64 5] (.ret (.int .i64 2)):=cK (.nil)
theorem J2:CO 15 [.int .i64 2] (.ret (.agg [.bool false,.int .i64 0,.int .i64 0])):=cK (.c Uv (.c RK (.c RJ (.c RI (.c RH (.c RG .nil))))))
theorem Eb {u:Nat} (hu:u<3):CO 15 [.int .i64 (u:Int)] (.ret (.agg (bC (kT u))))∧bF (kT u):=by
 rcases (show u=0∨u=1∨u=2 by omega) with rfl|rfl|rfl
 ·exact ⟨NT,by simp [bF,kT]⟩
 ·exact ⟨Q3,by simp [bF,kT]⟩
 ·exact ⟨J2,by simp [bF,kT]⟩
theorem pT:bF tT:=by simp [bF]
theorem pP:bF tP:=by simp [bF]
def xw (t:Ty):Prop:=t=tM∨t=tD∨t=tP
theorem xw.pl {t:Ty} (h:xw t):bF t:=by rcases h with rfl|rfl|rfl<;>simp [bF]
theorem RW {xs:List Int} {nn:Bool} {k lv r0 k1 s k2:Nat} (hl:xs.length<2^62) (hlv:lv<2^62) (hb:bL lv<300) (ih:∀ t,bF t→∀ k,k≤xs.length→eX t (lv:Int) (bL lv) xs nn k) (z0:((r0:Int)==((0:Nat):Int))=false) (zl:(decide ((((lv+1):Nat):Int)≤((0:Nat):Int)))=false) (hk2:k2≤xs.length) (c0:aB prog ap 56 [.ptr 0 0 0,.int .i64 5] [dB xs nn k] (.ret (.int .i64 (r0:Int))) [dB xs nn k1]) (c1:aB prog ap 56 [.ptr 0 0 0,.int .i64 5] [dB xs nn k1] (.ret (.int .i64 (s:Int))) [dB xs nn k2]) (hs:s=0∨s=1):eX tT ((lv+1:Nat):Int) (bL (lv+1)) xs nn k:=by
 obtain ⟨u,k3,hu,hk3,cu⟩:=cG xs nn k2 3 hl hk2 (by omega) (by omega)
 obtain ⟨r,k4,hr,hk4,cr⟩:=cG xs nn k3 2 hl hk3 (by omega) (by omega)
 have hkd:=(Eb hu).1
 obtain ⟨e0,k5,hk5,t0,m0,b0,d0⟩:=ih (kT u) (Eb hu).2 k4 hk4
 obtain ⟨e1,k6,hk6,t1,m1,b1,d1⟩:=ih (kT u) (Eb hu).2 k5 hk5
 have h58:=Dk (iA (16+(r:Int))) e0 e1 t0.ne (by omega) (by omega)
 have hW:az (iA (16+(r:Int)))=0:=by rcases (show u=0∨u=1∨u=2 by omega) with rfl|rfl|rfl<;>rcases (show r=0∨r=1 by omega) with rfl|rfl<;>kernel_rfl
 have hA:bB (iA (16+(r:Int))).op=2:=by rcases (show u=0∨u=1∨u=2 by omega) with rfl|rfl|rfl<;>rcases (show r=0∨r=1 by omega) with rfl|rfl<;>rfl
 have hT:dG aR (iA (16+(r:Int))) [(kT u),(kT u)]=(tT,0):=by rcases (show u=0∨u=1∨u=2 by omega) with rfl|rfl|rfl<;>rcases (show r=0∨r=1 by omega) with rfl|rfl<;>kernel_rfl
 refine zi (e:=e0++e1++ [iA (16+(r:Int))]) hk6 (.n2 t0 t1 hW hA hT) (Fh m0 m1 (iW _)) (by simp [bL];omega) ?_
 rcases hs with rfl|rfl
 ·rcases (show u=0∨u=1∨u=2 by omega) with rfl|rfl|rfl<;>rcases (show r=0∨r=1 by omega) with rfl|rfl<;>exact pK [] 5 28 (.k 11 (aU z0) (.c (aU zl) .nil)) (.c h58 (.c d1 (.c d0 (.c cr (.c hkd (.c cu (.c c1 (.v 27 (.eq (zR hlv)) (.c c0 .nil)))))))))
 ·rcases (show u=0∨u=1∨u=2 by omega) with rfl|rfl|rfl<;>rcases (show r=0∨r=1 by omega) with rfl|rfl<;>exact pK [] 5 20 (.k 11 (aU z0) (.c (aU zl) .nil)) (.c h58 (.c d1 (.c d0 (.c cr (.c hkd (.c cu (.c c1 (.v 27 (.eq (zR hlv)) (.c c0 .nil)))))))))
theorem RX {xs:List Int} {nn:Bool} {k lv r0 k1 s k2:Nat} (hl:xs.length<2^62) (hlv:lv<2^62) (hb:bL lv<300) (ih:∀ t,bF t→∀ k,k≤xs.length→eX t (lv:Int) (bL lv) xs nn k) (z0:((r0:Int)==((0:Nat):Int))=false) (zl:(decide ((((lv+1):Nat):Int)≤((0:Nat):Int)))=false) (hk2:k2≤xs.length) (c0:aB prog ap 56 [.ptr 0 0 0,.int .i64 5] [dB xs nn k] (.ret (.int .i64 (r0:Int))) [dB xs nn k1]) (c1:aB prog ap 56 [.ptr 0 0 0,.int .i64 5] [dB xs nn k1] (.ret (.int .i64 (s:Int))) [dB xs nn k2]) (hs:s=2):eX tT ((lv+1:Nat):Int) (bL (lv+1)) xs nn k:=by
 obtain ⟨e0,k3,hk3,t0,m0,b0,d0⟩:=ih tT pT k2 hk2
 have h58:=FP (iA 20) e0 t0.ne (by omega)
 have hW:az (iA 20)=0:=by kernel_rfl
 have hA:bB (iA 20).op=1:=by rfl
 have hT:dG aR (iA 20) [tT]=(tT,0):=by kernel_rfl
 refine zi (e:=e0++ [iA 20]) hk3 (.n1 t0 hW hA hT) (Ia m0 (iW _)) (by simp [bL];omega) ?_
 subst hs
 exact pK [] 6 36 (.k 8 (aU z0) (.c (aU zl) .nil)) (.c h58 (.c d0 (.c c1 (.v 27 (.eq (zR hlv)) (.c c0 .nil)))))
theorem RY {xs:List Int} {nn:Bool} {k lv r0 k1 s k2:Nat} (hl:xs.length<2^62) (hlv:lv<2^62) (hb:bL lv<300) (ih:∀ t,bF t→∀ k,k≤xs.length→eX t (lv:Int) (bL lv) xs nn k) (z0:((r0:Int)==((0:Nat):Int))=false) (zl:(decide ((((lv+1):Nat):Int)≤((0:Nat):Int)))=false) (hk2:k2≤xs.length) (c0:aB prog ap 56 [.ptr 0 0 0,.int .i64 5] [dB xs nn k] (.ret (.int .i64 (r0:Int))) [dB xs nn k1]) (c1:aB prog ap 56 [.ptr 0 0 0,.int .i64 5] [dB xs nn k1] (.ret (.int .i64 (s:Int))) [dB xs nn k2]) (hs:s=3):eX tT ((lv+1:Nat):Int) (bL (lv+1)) xs nn k:=by
 obtain ⟨e0,k3,hk3,t0,m0,b0,d0⟩:=ih tT pT k2 hk2
 obtain ⟨e1,k4,hk4,t1,m1,b1,d1⟩:=ih tT pT k3 hk3
 obtain ⟨e2,k5,hk5,t2,m2,b2,d2⟩:=ih tT pT k4 hk4
 have h58:=L6 (iA 15) e0 e1 e2 t0.ne (by omega) (by omega) (by omega)
 have hW:az (iA 15)=0:=by kernel_rfl
 have hA:bB (iA 15).op=3:=by rfl
 have hT:dG aR (iA 15) [tT,tT,tT]=(tT,0):=by kernel_rfl
 refine zi (e:=e0++e1++e2++ [iA 15]) hk5 (.n3 t0 t1 t2 hW hA hT) (Qk m0 m1 m2 (iW _)) (by simp [bL];omega) ?_
 subst hs
 exact pK [] 7 68 (.k 15 (aU z0) (.c (aU zl) .nil)) (.c h58 (.c d2 (.c d1 (.c d0 (.c c1 (.v 27 (.eq (zR hlv)) (.c c0 .nil)))))))
theorem RZ {xs:List Int} {nn:Bool} {k lv r0 k1 s k2:Nat} (hl:xs.length<2^62) (hlv:lv<2^62) (hb:bL lv<300) (ih:∀ t,bF t→∀ k,k≤xs.length→eX t (lv:Int) (bL lv) xs nn k) (z0:((r0:Int)==((0:Nat):Int))=false) (zl:(decide ((((lv+1):Nat):Int)≤((0:Nat):Int)))=false) (hk2:k2≤xs.length) (c0:aB prog ap 56 [.ptr 0 0 0,.int .i64 5] [dB xs nn k] (.ret (.int .i64 (r0:Int))) [dB xs nn k1]) (c1:aB prog ap 56 [.ptr 0 0 0,.int .i64 5] [dB xs nn k1] (.ret (.int .i64 (s:Int))) [dB xs nn k2]) (hs:s=4):eX tT ((lv+1:Nat):Int) (bL (lv+1)) xs nn k:=by
 obtain ⟨r,k3,hr,hk3,cr⟩:=cG xs nn k2 2 hl hk2 (by omega) (by omega)
 obtain ⟨e0,k4,hk4,t0,m0,b0,d0⟩:=ih tT pT k3 hk3
 obtain ⟨e1,k5,hk5,t1,m1,b1,d1⟩:=ih tT pT k4 hk4
 have h58:=Dk (iA (18+(r:Int))) e0 e1 t0.ne (by omega) (by omega)
 have hW:az (iA (18+(r:Int)))=0:=by rcases (show r=0∨r=1 by omega) with rfl|rfl<;>kernel_rfl
 have hA:bB (iA (18+(r:Int))).op=2:=by rcases (show r=0∨r=1 by omega) with rfl|rfl<;>rfl
 have hT:dG aR (iA (18+(r:Int))) [tT,tT]=(tT,0):=by rcases (show r=0∨r=1 by omega) with rfl|rfl<;>kernel_rfl
 refine zi (e:=e0++e1++ [iA (18+(r:Int))]) hk5 (.n2 t0 t1 hW hA hT) (Fh m0 m1 (iW _)) (by simp [bL];omega) ?_
 subst hs
 rcases (show r=0∨r=1 by omega) with rfl|rfl<;>exact pK [] 7 4 (.k 12 (aU z0) (.c (aU zl) .nil)) (.c h58 (.c d1 (.c d0 (.c cr (.c c1 (.v 27 (.eq (zR hlv)) (.c c0 .nil)))))))
def OV (r:Nat):Int:=([9,10,13,14]:List Int).getD r 0
theorem S6:CO 26 [.int .i64 0,.int .i64 0] (.ret (.agg (bC tP))):=cK .nil
theorem Uw:CO 25 [] (.ret (.agg (bC tT))):=cK .nil
theorem RN {xs:List Int} {nn:Bool} {k lv r0 k1 s k2:Nat} (hl:xs.length<2^62) (hlv:lv<2^62) (hb:bL lv<300) (ih:∀ t,bF t→∀ k,k≤xs.length→eX t (lv:Int) (bL lv) xs nn k) (z0:((r0:Int)==((0:Nat):Int))=false) (zl:(decide ((((lv+1):Nat):Int)≤((0:Nat):Int)))=false) (hk2:k2≤xs.length) (c0:aB prog ap 56 [.ptr 0 0 0,.int .i64 5] [dB xs nn k] (.ret (.int .i64 (r0:Int))) [dB xs nn k1]) (c1:aB prog ap 56 [.ptr 0 0 0,.int .i64 7] [dB xs nn k1] (.ret (.int .i64 (s:Int))) [dB xs nn k2]) (hs:s=0∨s=1) {t:Ty} (ht:xw t):eX t ((lv+1:Nat):Int) (bL (lv+1)) xs nn k:=by
 obtain ⟨r,k3,hr,hk3,cr⟩:=cG xs nn k2 4 hl hk2 (by omega) (by omega)
 obtain ⟨e0,k4,hk4,t0,m0,b0,d0⟩:=ih t ht.pl k3 hk3
 obtain ⟨e1,k5,hk5,t1,m1,b1,d1⟩:=ih t ht.pl k4 hk4
 have h58:=Dk (iA (OV r)) e0 e1 t0.ne (by omega) (by omega)
 have hW:az (iA (OV r))=0:=by rcases ht with rfl|rfl|rfl<;>rcases (show r=0∨r=1∨r=2∨r=3 by omega) with rfl|rfl|rfl|rfl<;>kernel_rfl
 have hA:bB (iA (OV r)).op=2:=by rcases ht with rfl|rfl|rfl<;>rcases (show r=0∨r=1∨r=2∨r=3 by omega) with rfl|rfl|rfl|rfl<;>rfl
 have hT:dG aR (iA (OV r)) [t,t]=(t,0):=by rcases ht with rfl|rfl|rfl<;>rcases (show r=0∨r=1∨r=2∨r=3 by omega) with rfl|rfl|rfl|rfl<;>kernel_rfl
 refine zi (e:=e0++e1++ [iA (OV r)]) hk5 (.n2 t0 t1 hW hA hT) (Fh m0 m1 (iW _)) (by simp [bL];omega) ?_
 rcases hs with rfl|rfl
 ·rcases ht with rfl|rfl|rfl<;>rcases (show r=0∨r=1∨r=2∨r=3 by omega) with rfl|rfl|rfl|rfl<;>exact pK [] 5 24 (.k 13 (aU z0) (.c (aU zl) .nil)) (.c h58 (.c d1 (.c d0 (.c cr (.c c1 (.v 27 (.eq (zR hlv)) (.c c0 .nil)))))))
 ·rcases ht with rfl|rfl|rfl<;>rcases (show r=0∨r=1∨r=2∨r=3 by omega) with rfl|rfl|rfl|rfl<;>exact pK [] 5 16 (.k 13 (aU z0) (.c (aU zl) .nil)) (.c h58 (.c d1 (.c d0 (.c cr (.c c1 (.v 27 (.eq (zR hlv)) (.c c0 .nil)))))))
theorem RO {xs:List Int} {nn:Bool} {k lv r0 k1 s k2:Nat} (hl:xs.length<2^62) (hlv:lv<2^62) (hb:bL lv<300) (ih:∀ t,bF t→∀ k,k≤xs.length→eX t (lv:Int) (bL lv) xs nn k) (z0:((r0:Int)==((0:Nat):Int))=false) (zl:(decide ((((lv+1):Nat):Int)≤((0:Nat):Int)))=false) (hk2:k2≤xs.length) (c0:aB prog ap 56 [.ptr 0 0 0,.int .i64 5] [dB xs nn k] (.ret (.int .i64 (r0:Int))) [dB xs nn k1]) (c1:aB prog ap 56 [.ptr 0 0 0,.int .i64 7] [dB xs nn k1] (.ret (.int .i64 (s:Int))) [dB xs nn k2]) (hs:s=2) {t:Ty} (ht:xw t):eX t ((lv+1:Nat):Int) (bL (lv+1)) xs nn k:=by
 obtain ⟨e0,k3,hk3,t0,m0,b0,d0⟩:=ih t ht.pl k2 hk2
 obtain ⟨e1,k4,hk4,t1,m1,b1,d1⟩:=ih tP pP k3 hk3
 have h58:=Dk (iA 11) e0 e1 t0.ne (by omega) (by omega)
 have hW:az (iA 11)=0:=by rcases ht with rfl|rfl|rfl<;>kernel_rfl
 have hA:bB (iA 11).op=2:=by rcases ht with rfl|rfl|rfl<;>rfl
 have hT:dG aR (iA 11) [t,tP]=(t,0):=by rcases ht with rfl|rfl|rfl<;>kernel_rfl
 refine zi (e:=e0++e1++ [iA 11]) hk4 (.n2 t0 t1 hW hA hT) (Fh m0 m1 (iW _)) (by simp [bL];omega) ?_
 subst hs
 rcases ht with rfl|rfl|rfl<;>exact pK [] 6 32 (.k 8 (aU z0) (.c (aU zl) .nil)) (.c h58 (.c d1 (.c S6 (.c d0 (.c c1 (.v 27 (.eq (zR hlv)) (.c c0 .nil)))))))
theorem RP {xs:List Int} {nn:Bool} {k lv r0 k1 s k2:Nat} (hl:xs.length<2^62) (hlv:lv<2^62) (hb:bL lv<300) (ih:∀ t,bF t→∀ k,k≤xs.length→eX t (lv:Int) (bL lv) xs nn k) (z0:((r0:Int)==((0:Nat):Int))=false) (zl:(decide ((((lv+1):Nat):Int)≤((0:Nat):Int)))=false) (hk2:k2≤xs.length) (c0:aB prog ap 56 [.ptr 0 0 0,.int .i64 5] [dB xs nn k] (.ret (.int .i64 (r0:Int))) [dB xs nn k1]) (c1:aB prog ap 56 [.ptr 0 0 0,.int .i64 7] [dB xs nn k1] (.ret (.int .i64 (s:Int))) [dB xs nn k2]) (hs:s=3) {t:Ty} (ht:xw t):eX t ((lv+1:Nat):Int) (bL (lv+1)) xs nn k:=by
 obtain ⟨e0,k3,hk3,t0,m0,b0,d0⟩:=ih t ht.pl k2 hk2
 obtain ⟨e1,k4,hk4,t1,m1,b1,d1⟩:=ih tP pP k3 hk3
 have h58:=Dk (iA 12) e0 e1 t0.ne (by omega) (by omega)
 have hW:az (iA 12)=0:=by rcases ht with rfl|rfl|rfl<;>kernel_rfl
 have hA:bB (iA 12).op=2:=by rcases ht with rfl|rfl|rfl<;>rfl
 have hT:dG aR (iA 12) [t,tP]=(t,0):=by rcases ht with rfl|rfl|rfl<;>kernel_rfl
 refine zi (e:=e0++e1++ [iA 12]) hk4 (.n2 t0 t1 hW hA hT) (Fh m0 m1 (iW _)) (by simp [bL];omega) ?_
 subst hs
 rcases ht with rfl|rfl|rfl<;>exact pK [] 7 64 (.k 9 (aU z0) (.c (aU zl) .nil)) (.c h58 (.c d1 (.c S6 (.c d0 (.c c1 (.v 27 (.eq (zR hlv)) (.c c0 .nil)))))))
theorem RT {xs:List Int} {nn:Bool} {k lv r0 k1 s k2:Nat} (hl:xs.length<2^62) (hlv:lv<2^62) (hb:bL lv<300) (ih:∀ t,bF t→∀ k,k≤xs.length→eX t (lv:Int) (bL lv) xs nn k) (z0:((r0:Int)==((0:Nat):Int))=false) (zl:(decide ((((lv+1):Nat):Int)≤((0:Nat):Int)))=false) (hk2:k2≤xs.length) (c0:aB prog ap 56 [.ptr 0 0 0,.int .i64 5] [dB xs nn k] (.ret (.int .i64 (r0:Int))) [dB xs nn k1]) (c1:aB prog ap 56 [.ptr 0 0 0,.int .i64 7] [dB xs nn k1] (.ret (.int .i64 (s:Int))) [dB xs nn k2]) (hs:s=4) {t:Ty} (ht:xw t):eX t ((lv+1:Nat):Int) (bL (lv+1)) xs nn k:=by
 obtain ⟨e0,k3,hk3,t0,m0,b0,d0⟩:=ih tT pT k2 hk2
 obtain ⟨e1,k4,hk4,t1,m1,b1,d1⟩:=ih t ht.pl k3 hk3
 obtain ⟨e2,k5,hk5,t2,m2,b2,d2⟩:=ih t ht.pl k4 hk4
 have h58:=L6 (iA 15) e0 e1 e2 t0.ne (by omega) (by omega) (by omega)
 have hW:az (iA 15)=0:=by rcases ht with rfl|rfl|rfl<;>kernel_rfl
 have hA:bB (iA 15).op=3:=by rcases ht with rfl|rfl|rfl<;>rfl
 have hT:dG aR (iA 15) [tT,t,t]=(t,0):=by rcases ht with rfl|rfl|rfl<;>kernel_rfl
 refine zi (e:=e0++e1++e2++ [iA 15]) hk5 (.n3 t0 t1 t2 hW hA hT) (Qk m0 m1 m2 (iW _)) (by simp [bL];omega) ?_
 subst hs
 rcases ht with rfl|rfl|rfl<;>exact pK [] 8 128 (.k 13 (aU z0) (.c (aU zl) .nil)) (.c h58 (.c d2 (.c d1 (.c d0 (.c Uw (.c c1 (.v 27 (.eq (zR hlv)) (.c c0 .nil))))))))
theorem Dw {q:RQ} (h:q.ok) (hn:q.n<64) (hd:q.d<64) (hp:q.neg=false∧0<q.n) {op:Int} (ho:op=21∨op=22∨op=23):az (qN op q)=0:=by
 have hf:=EJ h hn hd
 have hs:oM q.neg (ak q.n) (ak q.d)=1:=by
  unfold oM
  rw [if_pos ⟨yX q h,by rw [aT];exact hp.2⟩,hp.1];rfl
 have hs2:decide (((0:Nat):Int)<oM q.neg (ak q.n) (ak q.d))=true:=by rw [hs];rfl
 have e:cX (qN op q)=true:=by
  have:(gb q.neg (ak q.n) (ak q.d) && decide (((0:Nat):Int)<oM q.neg (ak q.n) (ak q.d)))=true:=by rw [hf,hs2];rfl
  rcases ho with rfl|rfl|rfl<;>exact this
 unfold az
 rw [e]
 rcases ho with rfl|rfl|rfl<;>rfl
theorem RU {xs:List Int} {nn:Bool} {k lv r0 k1 s k2:Nat} (hl:xs.length<2^62) (hlv:lv<2^62) (hb:bL lv<300) (ih:∀ t,bF t→∀ k,k≤xs.length→eX t (lv:Int) (bL lv) xs nn k) (z0:((r0:Int)==((0:Nat):Int))=false) (zl:(decide ((((lv+1):Nat):Int)≤((0:Nat):Int)))=false) (hk2:k2≤xs.length) (c0:aB prog ap 56 [.ptr 0 0 0,.int .i64 5] [dB xs nn k] (.ret (.int .i64 (r0:Int))) [dB xs nn k1]) (c1:aB prog ap 56 [.ptr 0 0 0,.int .i64 7] [dB xs nn k1] (.ret (.int .i64 (s:Int))) [dB xs nn k2]) (hs:s=5) {t:Ty} (ht:xw t):eX t ((lv+1:Nat):Int) (bL (lv+1)) xs nn k:=by
 obtain ⟨r,k3,hr,hk3,cr⟩:=cG xs nn k2 3 hl hk2 (by omega) (by omega)
 obtain ⟨w,k4,hk4,w1,w2,w3,w4,cw⟩:=kQ xs nn k3 hl hk3 1 (by omega) (by omega)
 obtain ⟨e0,k5,hk5,t0,m0,b0,d0⟩:=ih t ht.pl k4 hk4
 have h58:=FP (qN (21+(r:Int)) w) e0 t0.ne (by omega)
 have hW:az (qN (21+(r:Int)) w)=0:=by exact Dw w1 w2 w3 (w4 rfl) (by omega)
 have hA:bB (qN (21+(r:Int)) w).op=1:=by rcases ht with rfl|rfl|rfl<;>rcases (show r=0∨r=1∨r=2 by omega) with rfl|rfl|rfl<;>rfl
 have hT:dG aR (qN (21+(r:Int)) w) [t]=(t,0):=by rcases ht with rfl|rfl|rfl<;>rcases (show r=0∨r=1∨r=2 by omega) with rfl|rfl|rfl<;>kernel_rfl
 refine zi (e:=e0++ [qN (21+(r:Int)) w]) hk5 (.n1 t0 hW hA hT) (Ia m0 (sx w2 w3)) (by simp [bL];omega) ?_
 subst hs
 rcases ht with rfl|rfl|rfl<;>rcases (show r=0∨r=1∨r=2 by omega) with rfl|rfl|rfl<;>exact pK [] 9 256 (.k 11 (aU z0) (.c (aU zl) .nil)) (.c h58 (.c d0 (.c cw (.c cr (.c c1 (.v 27 (.eq (zR hlv)) (.c c0 .nil)))))))
theorem Ry:CO 90 [.sl (aW aR) 12 true,.int .i64 24,.str [105,110,99,111,109,101]] (.ret (.tup [.agg [.bool false,.int .i64 0,.int .i64 0],.bool false])):=gR (cF aR true 24 [105,110,99,111,109,101] (by decide)) (by kernel_rfl)
theorem Rz:CO 90 [.sl (aW aR) 12 true,.int .i64 24,.str [107,105,100,115]] (.ret (.tup [.agg [.bool false,.int .i64 0,.int .i64 0],.bool false])):=gR (cF aR true 24 [107,105,100,115] (by decide)) (by kernel_rfl)
theorem RA:CO 90 [.sl (aW aR) 12 true,.int .i64 24,.str [115,105,110,103,108,101]] (.ret (.tup [.agg [.bool false,.int .i64 0,.int .i64 0],.bool false])):=gR (cF aR true 24 [115,105,110,103,108,101] (by decide)) (by kernel_rfl)
theorem RB:CO 90 [.sl (aW aR) 12 true,.int .i64 24,.str [115,116,97,121]] (.ret (.tup [.agg [.bool false,.int .i64 0,.int .i64 0],.bool false])):=gR (cF aR true 24 [115,116,97,121] (by decide)) (by kernel_rfl)
theorem GK:CO 90 [.sl (aW aR) 12 true,.int .i64 24,.str [112,111,111,114]] (.ret (.tup [.agg [.bool false,.int .i64 0,.int .i64 0],.bool false])):=gR (cF aR true 24 [112,111,111,114] (by decide)) (by kernel_rfl)
theorem GL:CO 90 [.sl (aW aR) 12 true,.int .i64 24,.str [116,97,120]] (.ret (.tup [.agg [.bool false,.int .i64 0,.int .i64 0],.bool false])):=gR (cF aR true 24 [116,97,120] (by decide)) (by kernel_rfl)
theorem RC:CO 90 [.sl (aW aR) 12 true,.int .i64 24,.str [115,99,97,108,101]] (.ret (.tup [.agg [.bool false,.int .i64 1,.int .i64 0],.bool true])):=gR (cF aR true 24 [115,99,97,108,101] (by decide)) (by kernel_rfl)
theorem RD:CO 90 [.sl (aW aR) 12 true,.int .i64 24,.str [116,101,114,109]] (.ret (.tup [.agg [.bool false,.int .i64 0,.int .i64 1],.bool true])):=gR (cF aR true 24 [116,101,114,109] (by decide)) (by kernel_rfl)
theorem HJ {xs:List Int} {nn:Bool} {k:Nat} (hl:xs.length<2^62) (hk:k≤xs.length):∃ k2,k2≤xs.length∧aB prog ap 60 [.sl (aW aR) 12 true,.ptr 0 0 0,.agg (bC tM)] [dB xs nn k] (.ret (.tup [.str [115,99,97,108,101],.bool true])) [dB xs nn k2]:=by
 obtain ⟨r,k1,hr,hk1,c0⟩:=cG xs nn k 1 hl hk (by omega) (by omega)
 obtain rfl:r=0:=by omega
 exact ⟨k1,hk1,pK [] 51 262856579813649 (.n 125 .nil) (.c c0 (.c RD (.c RC (.c GL (.c GK (.c GL (.c GK (.c GL (.c GK (.c RB (.c RA (.c Rz (.c Ry .nil)))))))))))))⟩
theorem HI {xs:List Int} {nn:Bool} {k:Nat} (hl:xs.length<2^62) (hk:k≤xs.length):∃ k2,k2≤xs.length∧aB prog ap 60 [.sl (aW aR) 12 true,.ptr 0 0 0,.agg (bC tD)] [dB xs nn k] (.ret (.tup [.str [116,101,114,109],.bool true])) [dB xs nn k2]:=by
 obtain ⟨r,k1,hr,hk1,c0⟩:=cG xs nn k 1 hl hk (by omega) (by omega)
 obtain rfl:r=0:=by omega
 exact ⟨k1,hk1,pK [] 51 271652672835857 (.n 125 .nil) (.c c0 (.c RD (.c RC (.c GL (.c GK (.c GL (.c GK (.c GL (.c GK (.c RB (.c RA (.c Rz (.c Ry .nil)))))))))))))⟩
theorem HK {xs:List Int} {nn:Bool} {k:Nat}:aB prog ap 60 [.sl (aW aR) 12 true,.ptr 0 0 0,.agg (bC tP)] [dB xs nn k] (.ret (.tup [.str [],.bool false])) [dB xs nn k]:=pK [] 50 693865137901841 (.n 116 .nil) (.c RD (.c RC (.c GL (.c GK (.c GL (.c GK (.c GL (.c GK (.c RB (.c RA (.c Rz (.c Ry .nil))))))))))))
theorem Ob {xs:List Int} {nn:Bool} {k lv r0 k1 s k2:Nat} (hl:xs.length<2^62) (hlv:lv<2^62) (hb:bL lv<300) (ih:∀ t,bF t→∀ k,k≤xs.length→eX t (lv:Int) (bL lv) xs nn k) (z0:((r0:Int)==((0:Nat):Int))=false) (zl:(decide ((((lv+1):Nat):Int)≤((0:Nat):Int)))=false) (hk2:k2≤xs.length) (c0:aB prog ap 56 [.ptr 0 0 0,.int .i64 5] [dB xs nn k] (.ret (.int .i64 (r0:Int))) [dB xs nn k1]) (c1:aB prog ap 56 [.ptr 0 0 0,.int .i64 7] [dB xs nn k1] (.ret (.int .i64 (s:Int))) [dB xs nn k2]) (hs:s=6):eX tM ((lv+1:Nat):Int) (bL (lv+1)) xs nn k:=by
 obtain ⟨k3,hk3,cr⟩:=HJ (nn:=nn) hl hk2
 obtain ⟨e0,k4,hk4,t0,m0,b0,d0⟩:=ih tM (by simp [bF]) k3 hk3
 have h58:=FP ((⟨24,false,[],[],[115,99,97,108,101]⟩:Nd)) e0 t0.ne (by omega)
 have hW:az ((⟨24,false,[],[],[115,99,97,108,101]⟩:Nd))=0:=by kernel_rfl
 have hA:bB ((⟨24,false,[],[],[115,99,97,108,101]⟩:Nd)).op=1:=by rfl
 have hT:dG aR ((⟨24,false,[],[],[115,99,97,108,101]⟩:Nd)) [tM]=(tM,0):=by kernel_rfl
 refine zi (e:=e0++ [(⟨24,false,[],[],[115,99,97,108,101]⟩:Nd)]) hk4 (.n1 t0 hW hA hT) (Ia m0 (⟨by simp,by simp⟩)) (by simp [bL];omega) ?_
 subst hs
 exact pK [] 10 0 (.k 15 (aU z0) (.c (aU zl) .nil)) (.c h58 (.c d0 (.c cr (.c c1 (.v 27 (.eq (zR hlv)) (.c c0 .nil))))))
theorem Oa {xs:List Int} {nn:Bool} {k lv r0 k1 s k2:Nat} (hl:xs.length<2^62) (hlv:lv<2^62) (hb:bL lv<300) (ih:∀ t,bF t→∀ k,k≤xs.length→eX t (lv:Int) (bL lv) xs nn k) (z0:((r0:Int)==((0:Nat):Int))=false) (zl:(decide ((((lv+1):Nat):Int)≤((0:Nat):Int)))=false) (hk2:k2≤xs.length) (c0:aB prog ap 56 [.ptr 0 0 0,.int .i64 5] [dB xs nn k] (.ret (.int .i64 (r0:Int))) [dB xs nn k1]) (c1:aB prog ap 56 [.ptr 0 0 0,.int .i64 7] [dB xs nn k1] (.ret (.int .i64 (s:Int))) [dB xs nn k2]) (hs:s=6):eX tD ((lv+1:Nat):Int) (bL (lv+1)) xs nn k:=by
 obtain ⟨k3,hk3,cr⟩:=HI (nn:=nn) hl hk2
 obtain ⟨e0,k4,hk4,t0,m0,b0,d0⟩:=ih tD (by simp [bF]) k3 hk3
 have h58:=FP ((⟨24,false,[],[],[116,101,114,109]⟩:Nd)) e0 t0.ne (by omega)
 have hW:az ((⟨24,false,[],[],[116,101,114,109]⟩:Nd))=0:=by kernel_rfl
 have hA:bB ((⟨24,false,[],[],[116,101,114,109]⟩:Nd)).op=1:=by rfl
 have hT:dG aR ((⟨24,false,[],[],[116,101,114,109]⟩:Nd)) [tD]=(tD,0):=by kernel_rfl
 refine zi (e:=e0++ [(⟨24,false,[],[],[116,101,114,109]⟩:Nd)]) hk4 (.n1 t0 hW hA hT) (Ia m0 (⟨by simp,by simp⟩)) (by simp [bL];omega) ?_
 subst hs
 exact pK [] 10 0 (.k 15 (aU z0) (.c (aU zl) .nil)) (.c h58 (.c d0 (.c cr (.c c1 (.v 27 (.eq (zR hlv)) (.c c0 .nil))))))
theorem RV {xs:List Int} {nn:Bool} {k lv r0 k1 s k2:Nat} (hl:xs.length<2^62) (hlv:lv<2^62) (hb:bL lv<300) (ih:∀ t,bF t→∀ k,k≤xs.length→eX t (lv:Int) (bL lv) xs nn k) (z0:((r0:Int)==((0:Nat):Int))=false) (zl:(decide ((((lv+1):Nat):Int)≤((0:Nat):Int)))=false) (hk2:k2≤xs.length) (c0:aB prog ap 56 [.ptr 0 0 0,.int .i64 5] [dB xs nn k] (.ret (.int .i64 (r0:Int))) [dB xs nn k1]) (c1:aB prog ap 56 [.ptr 0 0 0,.int .i64 7] [dB xs nn k1] (.ret (.int .i64 (s:Int))) [dB xs nn k2]) (hs:s=6):eX tP ((lv+1:Nat):Int) (bL (lv+1)) xs nn k:=by
 obtain ⟨e,k3,hk3,h1,h2,h3,cc⟩:=Ee xs nn k2 hl hk2
 have cr:=HK (xs:=xs) (nn:=nn) (k:=k2)
 refine zi hk3 h1 h2 (by simp [bL];omega) ?_
 subst hs
 exact pK [] 10 512 (.k 15 (aU z0) (.c (aU zl) .nil)) (.c cc (.c cr (.c c1 (.v 27 (.eq (zR hlv)) (.c c0 .nil)))))
theorem uB {t:Ty} (ht:bF t) {xs:List Int} {nn:Bool} {k lv:Nat} (hl:xs.length<2^62) (hk:k≤xs.length) (hlv:lv<2^62) (hb:bL lv<300) (ih:∀ t,bF t→∀ k,k≤xs.length→eX t (lv:Int) (bL lv) xs nn k):eX t ((lv+1:Nat):Int) (bL (lv+1)) xs nn k:=by
 have zl:(decide ((((lv+1):Nat):Int)≤((0:Nat):Int)))=false:=decide_eq_false (by omega)
 obtain ⟨r0,k1,hr0,hk1,c0⟩:=cG xs nn k 5 hl hk (by omega) (by omega)
 by_cases hz:r0=0
 ·subst hz
  obtain ⟨e,k2,hk2,h1,h2,h3,cc⟩:=Ar ht xs nn k1 hl hk1
  refine zi hk2 h1 h2 (by simp [bL];omega) ?_
  rcases ht with rfl|rfl|rfl|rfl
  ·exact pK [] 2 2 (.k 4 (aU zl) .nil) (.c cc (.c c0 .nil))
  ·exact pK [] 2 2 (.k 4 (aU zl) .nil) (.c cc (.c c0 .nil))
  ·exact pK [] 2 2 (.k 4 (aU zl) .nil) (.c cc (.c c0 .nil))
  ·exact pK [] 2 2 (.k 4 (aU zl) .nil) (.c cc (.c c0 .nil))
 ·have z0:((r0:Int)==((0:Nat):Int))=false:=by simp;omega
  have go:∀ t,xw t→eX t ((lv+1:Nat):Int) (bL (lv+1)) xs nn k:=by
   intro t ht
   obtain ⟨s,k2,hs,hk2,c1⟩:=cG xs nn k1 7 hl hk1 (by omega) (by omega)
   rcases (show (s=0∨s=1)∨s=2∨s=3∨s=4∨s=5∨s=6 by omega) with h|h|h|h|h|h
   ·exact RN hl hlv hb ih z0 zl hk2 c0 c1 h ht
   ·exact RO hl hlv hb ih z0 zl hk2 c0 c1 h ht
   ·exact RP hl hlv hb ih z0 zl hk2 c0 c1 h ht
   ·exact RT hl hlv hb ih z0 zl hk2 c0 c1 h ht
   ·exact RU hl hlv hb ih z0 zl hk2 c0 c1 h ht
   ·rcases ht with rfl|rfl|rfl
    ·exact Ob hl hlv hb ih z0 zl hk2 c0 c1 h
    ·exact Oa hl hlv hb ih z0 zl hk2 c0 c1 h
    ·exact RV hl hlv hb ih z0 zl hk2 c0 c1 h
  rcases ht with rfl|rfl|rfl|rfl
  ·exact go _ (.inl rfl)
  ·exact go _ (.inr (.inl rfl))
  ·exact go _ (.inr (.inr rfl))
  ·obtain ⟨s,k2,hs,hk2,c1⟩:=cG xs nn k1 5 hl hk1 (by omega) (by omega)
   rcases (show (s=0∨s=1)∨s=2∨s=3∨s=4 by omega) with h|h|h|h
   ·exact RW hl hlv hb ih z0 zl hk2 c0 c1 h
   ·exact RX hl hlv hb ih z0 zl hk2 c0 c1 h
   ·exact RY hl hlv hb ih z0 zl hk2 c0 c1 h
   ·exact RZ hl hlv hb ih z0 zl hk2 c0 c1 h
theorem N9 {xs:List Int} {nn:Bool} (hl:xs.length<2^62) (t:Ty) (ht:bF t) (k:Nat) (hk:k≤xs.length):eX t ((1:Nat):Int) (bL 1) xs nn k:=
 uB (lv:=0) ht hl hk (by omega) (by decide) fun _ ht k hk=>N8 ht xs nn k hl hk
theorem Av {xs:List Int} {nn:Bool} (hl:xs.length<2^62) (t:Ty) (ht:bF t) (k:Nat) (hk:k≤xs.length):eX t ((2:Nat):Int) (bL 2) xs nn k:=
 uB (lv:=1) ht hl hk (by omega) (by decide) fun t ht k hk=>N9 hl t ht k hk
def IX (t:Ty):Prop:=bF t∨t=⟨false,1, -1⟩
theorem QW {t:Ty} (ht:IX t) (xs:List Int) (nn:Bool) (hl:xs.length<2^62):∃ e:List Nd,Tm aR e t∧(∀ x ∈ e,x.sm)∧e.length≤13∧CO 16 [.sl (aW aR) 12 true,.agg (bC t),.sl (iL xs) xs.length nn] (.ret (.own (aw e) e.length 5)):=by
 rcases ht with (rfl|rfl|rfl|rfl)|rfl
 ·obtain ⟨e,k2,hk2,h1,h2,h3,c0⟩:=Av (nn:=nn) hl tM (by simp [bF]) 0 (by omega)
  have h:CO 16 [.sl (aW aR) 12 true,.agg (bC tM),.sl (iL xs) xs.length nn] (.ret (.own (List.take (e.length*5) (aw e)) e.length 5)):=pK [] 4 1 (.n 11 .nil) (.c c0 (.c NT .nil))
  rw [xo] at h
  exact ⟨e,h1,h2,by have:bL 2=13:=rfl;omega,h⟩
 ·obtain ⟨e,k2,hk2,h1,h2,h3,c0⟩:=Av (nn:=nn) hl tD (by simp [bF]) 0 (by omega)
  have h:CO 16 [.sl (aW aR) 12 true,.agg (bC tD),.sl (iL xs) xs.length nn] (.ret (.own (List.take (e.length*5) (aw e)) e.length 5)):=pK [] 4 3 (.n 14 .nil) (.c c0 (.c Q3 (.c NT .nil)))
  rw [xo] at h
  exact ⟨e,h1,h2,by have:bL 2=13:=rfl;omega,h⟩
 ·obtain ⟨e,k2,hk2,h1,h2,h3,c0⟩:=Av (nn:=nn) hl tP (by simp [bF]) 0 (by omega)
  have h:CO 16 [.sl (aW aR) 12 true,.agg (bC tP),.sl (iL xs) xs.length nn] (.ret (.own (List.take (e.length*5) (aw e)) e.length 5)):=pK [] 4 7 (.n 17 .nil) (.c c0 (.c J2 (.c Q3 (.c NT .nil))))
  rw [xo] at h
  exact ⟨e,h1,h2,by have:bL 2=13:=rfl;omega,h⟩
 ·obtain ⟨e,k2,hk2,h1,h2,h3,c0⟩:=Av (nn:=nn) hl tT (by simp [bF]) 0 (by omega)
  have h:CO 16 [.sl (aW aR) 12 true,.agg (bC tT),.sl (iL xs) xs.length nn] (.ret (.own (List.take (e.length*5) (aw e)) e.length 5)):=pK [] 4 0 (.n 8 .nil) (.c c0 .nil)
  rw [xo] at h
  exact ⟨e,h1,h2,by have:bL 2=13:=rfl;omega,h⟩
 ·obtain ⟨e,k2,hk2,h1,h2,h3,c0⟩:=N_ xs nn 0 hl (by omega)
  have h:CO 16 [.sl (aW aR) 12 true,.agg (bC ⟨false,1, -1⟩),.sl (iL xs) xs.length nn] (.ret (.own (List.take (e.length*5) (aw e)) e.length 5)):=pK [] 4 15 (.n 17 .nil) (.c c0 (.c J2 (.c Q3 (.c NT .nil))))
  rw [xo] at h
  exact ⟨e,h1,h2,by have:bL 2=13:=rfl;omega,h⟩
theorem mX {x:Nd} {r:List Nd} {d:Nat} (hw:az x=0) (h:bB x.op≤d):fB (x::r) d=fB r (d - bB x.op+1):=by
 simp only [fB]
 rw [if_pos hw,if_neg (by omega)]
theorem nS {l:List Sg} {x:Nd} {r:List Nd} {k:Nat} {st ws:List Nat} {ts own:List Ty} {t:Ty} (ha:ws.length=bB x.op) (ho:bK ts ws=own) (ht:dG l x own=(t,0)):dT l (x::r) k (st++ws) ts=dT l r (k+1) (st++ [k]) (ts++ [t]):=by
 have h1:(st++ws).length - bB x.op=st.length:=by rw [List.length_append];omega
 simp only [dT,h1,List.drop_left,List.take_left]
 rw [ho,ht]
 simp
theorem lm (ts ua rest:List Ty) (ta:Ty):(ts++(ua++ [ta])++rest).getD (ts.length+ua.length) zT=ta:=by
 rw [List.append_assoc,List.append_assoc,List.getD_eq_getElem?_getD,List.getElem?_append_right (by omega),List.getElem?_append_right (by omega)]
 simp
inductive I_ (ps:List (List Nat)):Nat→Nat→Prop where
 |z {i:Nat}:ps[i]? =some []→I_ ps i i
 |s {i c b:Nat} {r:List Nat}:ps[i]? =some (c::r)→c<i→I_ ps c b→I_ ps i b
structure Pf (l:List Sg) (e:List Nd) (u:List Ty) (ws:List Nat) (ps:Nat→List (List Nat)):Prop where
 len:u.length=e.length
 al:∀ k,(ps k).length=e.length
 emp:ws= []→e= []
 arg:∀ r k st,jf (e++r) k st=ps k++jf r (k+e.length) (st++ws.map (k+·))
 beg:∀ k pre post,pre.length=k→∀ i,i<e.length→∃ b,b≤i∧I_ (pre++(ps k++post)) (k+i) (k+b)∧Tm l ((e.drop b).take (i+1 - b)) (u.getD i zT)
 top:∀ w ws',ws=w::ws'→w<e.length∧∀ k pre post,pre.length=k→I_ (pre++(ps k++post)) (k+w) k
theorem Pf.nil (l:List Sg):Pf l [] [] [] (fun _=> []) where
 len:=rfl
 al _:=rfl
 emp _:=rfl
 arg r k st:=by simp
 beg k pre post hk i hi:=absurd hi (Nat.not_lt_zero _)
 top w ws' h:=by cases h
theorem D5 {α:Type} {a b:List α} {i:Nat} {z:α} (h:i<a.length):(a++b).getD i z=a.getD i z:=by
 rw [List.getD_eq_getElem?_getD,List.getElem?_append_left h,← List.getD_eq_getElem?_getD]
theorem Pf.app {l:List Sg} {e a:List Nd} {u ua:List Ty} {ws wa:List Nat} {ps aa:Nat→List (List Nat)} (h:Pf l e u ws ps) (g:Pf l a ua wa aa):Pf l (e++a) (u++ua) (ws++wa.map (e.length+·)) (fun k=>ps k++aa (k+e.length)) where
 len:=by rw [List.length_append,List.length_append,h.len,g.len]
 al k:=by rw [List.length_append,List.length_append,h.al,g.al]
 emp q:=by
  rw [List.append_eq_nil_iff,List.map_eq_nil_iff] at q
  rw [h.emp q.1,g.emp q.2];rfl
 arg r k st:=by
  rw [List.append_assoc,h.arg,g.arg,List.length_append,List.map_append,List.map_map,List.append_assoc,List.append_assoc,Nat.add_assoc]
  congr 4
  have:wa.map (k+e.length+·)=wa.map ((k+·) ∘ (e.length+·)):=List.map_congr_left fun x _=>Nat.add_assoc ..
  rw [this]
 beg k pre post hk i hi:=by
  rcases Nat.lt_or_ge i e.length with hl|hl
  ·obtain ⟨b,hb,h1,h2⟩:=h.beg k pre (aa (k+e.length)++post) hk i hl
   refine ⟨b,hb,by rw [List.append_assoc];exact h1, ?_⟩
   rw [List.drop_append_of_le_length (by omega),List.take_append_of_le_length (by rw [List.length_drop];omega),D5 (by rw [h.len];exact hl)]
   exact h2
  ·rw [List.length_append] at hi
   obtain ⟨b,hb,h1,h2⟩:=g.beg (k+e.length) (pre++ps k) post (by rw [List.length_append,hk,h.al]) (i - e.length) (by omega)
   refine ⟨e.length+b,by omega, ?_, ?_⟩
   ·rw [List.append_assoc,show k+e.length+(i - e.length)=k+i by omega,Nat.add_assoc] at h1
    rw [List.append_assoc];exact h1
   ·rw [List.drop_append,List.drop_of_length_le (by omega),List.nil_append,Nat.add_sub_cancel_left,show i+1 - (e.length+b)=i - e.length+1 - b by omega,List.getD_eq_getElem?_getD,List.getElem?_append_right (by rw [h.len];exact hl),h.len,← List.getD_eq_getElem?_getD]
    exact h2
 top w ws' q:=by
  cases ws with
  |cons w0 w1=>
   obtain ⟨h1,h2⟩:=h.top w0 w1 rfl
   rw [List.cons_append,List.cons.injEq] at q
   rw [← q.1]
   refine ⟨by rw [List.length_append];omega,fun k pre post hk=> ?_⟩
   rw [List.append_assoc]
   exact h2 k pre _ hk
  | nil=>
   have he:=h.emp rfl
   subst he
   have ha:ps 0= []:=List.length_eq_zero_iff.1 (h.al 0)
   cases wa with
   |nil=>cases q
   |cons w0 w1=>
    obtain ⟨h1,h2⟩:=g.top w0 w1 rfl
    simp only [List.nil_append,List.map_cons,List.length_nil,Nat.zero_add,List.cons.injEq] at q
    rw [← q.1]
    refine ⟨by simpa using h1,fun k pre post hk=> ?_⟩
    have ha:ps k= []:=List.length_eq_zero_iff.1 (h.al k)
    rw [ha]
    exact h2 k pre post hk
theorem Pf.node {l:List Sg} {e:List Nd} {u:List Ty} {ws:List Nat} {ps:Nat→List (List Nat)} {x:Nd} {t:Ty} (h:Pf l e u ws ps) (ha:ws.length=bB x.op) (ht:Tm l (e++ [x]) t):Pf l (e++ [x]) (u++ [t]) [u.length] (fun k=>ps k++ [ws.map (k+·)]):=by
 have key:∀ k pre post,pre.length=k→I_ (pre++(ps k++ [ws.map (k+·)]++post)) (k+e.length) k:=by
  intro k pre post hk
  have hg:(pre++(ps k++ [ws.map (k+·)]++post))[k+e.length]? =some (ws.map (k+·)):=by
   rw [List.getElem?_append_right (by omega),List.append_assoc,List.getElem?_append_right (by rw [h.al];omega),h.al,hk,Nat.add_sub_cancel_left,Nat.sub_self];rfl
  cases ws with
  |nil=>
   have he:=h.emp rfl
   subst he
   exact .z hg
  |cons w ws'=>
   obtain ⟨h1,h2⟩:=h.top w ws' rfl
   refine .s hg (by show k+w<_;omega) ?_
   rw [List.append_assoc]
   exact h2 k pre _ hk
 refine ⟨by simp [h.len],fun k=>by simp [h.al],(fun q=>by cases q),fun r k st=> ?_,fun k pre post hk i hi=> ?_,fun w ws' q=> ?_⟩
 ·have h1:(st++ws.map (k+·)).length - bB x.op=st.length:=by rw [List.length_append,List.length_map];omega
  rw [List.append_assoc,h.arg,List.singleton_append,jf,h1,List.drop_left,List.take_left,h.len]
  simp [Nat.add_assoc]
 ·rw [List.length_append,List.length_singleton] at hi
  rcases Nat.lt_or_ge i e.length with hl|hl
  ·obtain ⟨b,hb,h1,h2⟩:=h.beg k pre ([ws.map (k+·)]++post) hk i hl
   refine ⟨b,hb,by rw [List.append_assoc];exact h1, ?_⟩
   rw [List.drop_append_of_le_length (by omega),List.take_append_of_le_length (by rw [List.length_drop];omega),D5 (by rw [h.len];exact hl)]
   exact h2
  ·obtain rfl:i=e.length:=by omega
   refine ⟨0,Nat.zero_le _,key k pre post hk, ?_⟩
   rw [List.drop_zero,List.take_of_length_le (by simp),List.getD_eq_getElem?_getD,List.getElem?_append_right (by rw [h.len];exact Nat.le_refl _),h.len,Nat.sub_self]
   exact ht
 ·simp only [List.cons.injEq] at q
  rw [← q.1,h.len]
  exact ⟨by simp,key⟩
structure Rd (l:List Sg) (e:List Nd) (t:Ty) (u:List Ty):Prop where
 len:e.length=u.length+1
 chk:∀ r d,fB (e++r) d=fB r (d+1)
 typ:∀ r k st ts,ts.length=k→dT l (e++r) k st ts=dT l r (k+e.length) (st++ [k+u.length]) (ts++(u++ [t]))
theorem Tm.runs {l:List Sg} {e:List Nd} {t:Ty} (h:Tm l e t):∃ u,Rd l e t u∧∃ ps,Pf l e (u++ [t]) [u.length] ps:=by
 induction h with
 | @n0 x t hw ha ht=>
  refine ⟨[],⟨rfl,fun r d=> ?_,fun r k st ts hk=> ?_⟩,_,(Pf.nil l).node (by rw [ha];rfl) (.n0 hw ha ht)⟩
  ·rw [List.singleton_append,mX hw (by omega),ha];rfl
  ·have:=nS (l:=l) (x:=x) (r:=r) (k:=k) (st:=st) (ws:= []) (ts:=ts) (own:= []) (t:=t) (by rw [ha];rfl) rfl ht
   rw [List.append_nil] at this
   simpa using this
 | @n1 x t ta a ma hw ha ht iha=>
  obtain ⟨ua,⟨h1,h2,h3⟩,_,pa⟩:=iha
  refine ⟨ua++ [ta],⟨by simp [h1],fun r d=> ?_,fun r k st ts hk=> ?_⟩,_,pa.node (by rw [ha];rfl) (.n1 ma hw ha ht)⟩
  ·rw [List.append_assoc,h2,List.singleton_append,mX hw (by omega),ha];rfl
  ·have:=nS (l:=l) (x:=x) (r:=r) (k:=k+a.length) (st:=st) (ws:= [k+ua.length]) (ts:=ts++(ua++ [ta])) (own:= [ta]) (t:=t) (by rw [ha];rfl) (by
    have:=lm ts ua [] ta
    rw [List.append_nil,hk] at this
    simp only [bK,List.map_cons,List.map_nil]
    rw [this]) ht
   rw [List.append_assoc,h3 _ k st ts hk,List.singleton_append,this]
   simp [h1,Nat.add_assoc]
 | @n2 x t ta tb a b ma mb hw ha ht iha ihb=>
  obtain ⟨ua,⟨h1,h2,h3⟩,_,pa⟩:=iha
  obtain ⟨ub,⟨g1,g2,g3⟩,_,pb⟩:=ihb
  refine ⟨ua++ [ta]++(ub++ [tb]),⟨by simp [h1,g1];omega,fun r d=> ?_,fun r k st ts hk=> ?_⟩,_,(pa.app pb).node (by rw [ha];rfl) (.n2 ma mb hw ha ht)⟩
  ·rw [List.append_assoc,List.append_assoc,h2,g2,List.singleton_append,mX hw (by omega),ha];rfl
  ·have hk2:(ts++(ua++ [ta])).length=k+a.length:=by simp [hk,h1]
   have:=nS (l:=l) (x:=x) (r:=r) (k:=k+a.length+b.length) (st:=st) (ws:= [k+ua.length,k+a.length+ub.length]) (ts:=ts++(ua++ [ta])++(ub++ [tb])) (own:= [ta,tb]) (t:=t) (by rw [ha];rfl) (by
    have p1:=lm ts ua (ub++ [tb]) ta
    have p2:=lm (ts++(ua++ [ta])) ub [] tb
    rw [hk] at p1
    rw [List.append_nil,hk2] at p2
    simp only [bK,List.map_cons,List.map_nil]
    rw [p1,p2]) ht
   rw [List.append_assoc,List.append_assoc,h3 _ k st ts hk,g3 _ _ _ _ hk2,List.singleton_append,List.append_assoc,List.singleton_append,this]
   refine congr (congr (congrArg (dT l r) ?_) ?_) ?_
   ·simp;omega
   ·congr 2;simp;omega
   ·simp
 | @n3 x t ta tb tc a b c ma mb mc hw ha ht iha ihb ihc=>
  obtain ⟨ua,⟨h1,h2,h3⟩,_,pa⟩:=iha
  obtain ⟨ub,⟨g1,g2,g3⟩,_,pb⟩:=ihb
  obtain ⟨uc,⟨f1,f2,f3⟩,_,pc⟩:=ihc
  refine ⟨ua++ [ta]++(ub++ [tb])++(uc++ [tc]),⟨by simp [h1,g1,f1];omega,fun r d=> ?_,fun r k st ts hk=> ?_⟩,_,((pa.app pb).app pc).node (by rw [ha];rfl) (.n3 ma mb mc hw ha ht)⟩
  ·rw [List.append_assoc,List.append_assoc,List.append_assoc,h2,g2,f2,List.singleton_append,mX hw (by omega),ha];rfl
  ·have hk2:(ts++(ua++ [ta])).length=k+a.length:=by simp [hk,h1]
   have hk3:(ts++(ua++ [ta])++(ub++ [tb])).length=k+a.length+b.length:=by simp [hk,h1,g1];omega
   have:=nS (l:=l) (x:=x) (r:=r) (k:=k+a.length+b.length+c.length) (st:=st) (ws:= [k+ua.length,k+a.length+ub.length,k+a.length+b.length+uc.length]) (ts:=ts++(ua++ [ta])++(ub++ [tb])++(uc++ [tc])) (own:= [ta,tb,tc]) (t:=t) (by rw [ha];rfl) (by
    have p1:=lm ts ua ((ub++ [tb])++(uc++ [tc])) ta
    have p2:=lm (ts++(ua++ [ta])) ub (uc++ [tc]) tb
    have p3:=lm (ts++(ua++ [ta])++(ub++ [tb])) uc [] tc
    rw [hk,← List.append_assoc] at p1
    rw [hk2] at p2
    rw [List.append_nil,hk3] at p3
    simp only [bK,List.map_cons,List.map_nil]
    rw [p1,p2,p3]) ht
   rw [List.append_assoc,List.append_assoc,List.append_assoc,h3 _ k st ts hk,g3 _ _ _ _ hk2,f3 _ _ _ _ hk3,List.singleton_append,List.append_assoc,List.append_assoc,List.singleton_append,List.singleton_append,this]
   refine congr (congr (congrArg (dT l r) ?_) ?_) ?_
   ·simp;omega
   ·congr 2;simp;omega
   ·simp
theorem Tm.check {l:List Sg} {e:List Nd} {t:Ty} (h:Tm l e t) (he:e.length≤60):dX e=0:=by
 obtain ⟨u,⟨h1,h2,h3⟩,_⟩:=h.runs
 have:=h2 [] 0
 rw [List.append_nil] at this
 unfold dX
 rw [if_neg (by omega),this]
 simp [fB]
theorem Tm.types {l:List Sg} {e:List Nd} {t:Ty} (h:Tm l e t) (he:e.length≤60):∃ u,u.length+1=e.length∧eL l e= .inl (u++ [t]):=by
 obtain ⟨u,⟨h1,h2,h3⟩,_⟩:=h.runs
 have:=h3 [] 0 [] [] rfl
 rw [List.append_nil] at this
 refine ⟨u,h1.symm, ?_⟩
 unfold eL
 rw [if_pos (h.check he),this]
 simp [dT]
theorem Tm.type {l:List Sg} {e:List Nd} {t:Ty} (h:Tm l e t) (he:e.length≤60):lV l e=(t,0):=by
 obtain ⟨u,h1,h2⟩:=h.types he
 unfold lV
 rw [h2]
 simp
theorem Tm.parts {l:List Sg} {e:List Nd} {t:Ty} (h:Tm l e t) (he:e.length≤60):∃ us,us.length=e.length∧eL l e= .inl us∧∀ i,i<e.length→∃ b,b≤i∧I_ (bE e) i b∧Tm l ((e.drop b).take (i+1 - b)) (us.getD i zT):=by
 obtain ⟨u,⟨h1,h2,h3⟩,ps,hp⟩:=h.runs
 have:=h3 [] 0 [] [] rfl
 rw [List.append_nil] at this
 refine ⟨u++ [t],hp.len, ?_,fun i hi=> ?_⟩
 ·unfold eL
  rw [if_pos (h.check he),this]
  simp [dT]
 ·have ha:=hp.arg [] 0 []
  rw [List.append_nil,jf,List.append_nil] at ha
  obtain ⟨b,hb,q1,q2⟩:=hp.beg 0 [] [] rfl i hi
  rw [Nat.zero_add,Nat.zero_add,List.append_nil,List.nil_append,← ha] at q1
  exact ⟨b,hb,q1,q2⟩
theorem R0 (k n:Nat):AV.int .i64 (if (k:Int)<(n:Int) then (k:Int) else (n:Int))= .int .i64 ((min k n:Nat):Int):=by
 congr 1
 split<;>omega
theorem Q_ (k:Nat) (x:List Int) (nn:Bool):AV.sl (List.take ((Int.toNat ((min k x.length:Nat):Int))*1) (iL x)) ((Int.toNat ((min k x.length:Nat):Int)) - 0) nn= .sl (iL (x.take k)) (x.take k).length nn:=by
 rw [aD,Nat.mul_one,Nat.sub_zero,List.length_take]
 congr 1
 unfold iL
 rw [← List.map_take]
 congr 1
 rcases Nat.le_total k x.length with h|h
 ·rw [Nat.min_eq_left h]
 ·rw [Nat.min_eq_right h,List.take_of_length_le (Nat.le_refl _),List.take_of_length_le h]
theorem Tk (k n:Nat):decide (((0:Nat):Int)≤((min k n:Nat):Int))=true:=decide_eq_true (by omega)
theorem Tl (k n:Nat):decide (((min k n:Nat):Int)≤(n:Int))=true:=decide_eq_true (by omega)
theorem DY (t:Ty):((t.tr==t.tr) && ((t.m==t.m) && ((t.d==t.d) && true)))=true:=by simp
theorem Q0 (l:List Sg) (ns:List Nd) (nl nn:Bool) (t:Ty) (hlg:l.length<2^40) (hsm:∀ x ∈ ns,x.sm) (h:lV l ns=(t,0)):CO 17 [.sl (aW l) l.length nl,.sl (aw ns) ns.length nn,.agg (bC t)] (.ret (.bool true)):=by
 have c0:=gY l ns nl nn hlg hsm
 rw [h] at c0
 have h:=(pK [] 1 1 (.n 8 .nil) (.c c0 .nil):CO 17 [.sl (aW l) l.length nl,.sl (aw ns) ns.length nn,.agg (bC t)] (.ret (.bool ((t.tr==t.tr) && ((t.m==t.m) && ((t.d==t.d) && true))))))
 rwa [DY] at h
theorem RL (q:Int):∃ t,IX t∧CO 15 [.int .i64 q] (.ret (.agg (bC t))):=by
 obtain ⟨k,hk,h⟩:=G0 q
 rcases (show k=0∨k=1∨k=2∨k=3∨k=4 by omega) with rfl|rfl|rfl|rfl|rfl
 ·exact ⟨tM,.inl (by simp [bF]),h⟩
 ·exact ⟨tD,.inl (by simp [bF]),h⟩
 ·exact ⟨tP,.inl (by simp [bF]),h⟩
 ·exact ⟨tT,.inl (by simp [bF]),h⟩
 ·exact ⟨⟨false,1, -1⟩,.inr rfl,h⟩
theorem SZ {x:List Value} (h:cU [.int .i64] x):∃ a:Int,x.map jI= [AV.int .i64 a]:=by
 rcases h with _|@⟨_,a,_,_,h⟩|_|_
 cases h
 exact ⟨a,rfl⟩
theorem QZ (l:List Int):(l.flatMap fun a=> [AV.int .i64 a])=iL l:=by
 induction l with
 |nil=>rfl
 |cons a r ih=>rw [List.flatMap_cons,ih];rfl
end Go.Proofs.Tryz
set_option maxRecDepth 100000
open Go AM Go.ChangeShapes Go.WideShapes Go.ChangeAt Go.RowKit
namespace Go.Proofs.Tryz
noncomputable def rM (t:TypeId) (d:DataW Unit):List Lit:=((gk prog 6 t d 0).getD []).map (·.2)
open Go.Proofs.YtpjkeigmiooooaaGreatDoor
def Ed:List (String × DataW Unit):= [("unicode/utf8.acceptRanges",Rows.laid_unicode_utf8_acceptRanges),("tithing/expr.table",Rows.laid_tithing_expr_table),("tithing/check.truth",Rows.laid_tithing_check_truth),("tithing/check.cash",Rows.laid_tithing_check_cash),("tithing/check.days",Rows.laid_tithing_check_days),("tithing/check.plain",Rows.laid_tithing_check_plain),("unicode/utf8.first",Rows.laid_unicode_utf8_first)]
theorem Cm:Ed.filter (fun x=>x.2.handleName?.isSome)= []:=by kernel_rfl
theorem NP {W:World} (h:laidMetH prog Ed W):Dh ap W:=by
 have c (i:Nat) (n:String) (d:DataW Unit) (hm:Ed[i]? =some (n,d)) (g:Nat) (t:TypeId) (hg:prog.globalNamed n=some g) (ht:(prog.globals[g]?).map (·.type)=some t)
   (hl:gk prog 6 t d 0=some ((rM t d).zipIdx.map fun (l,i)=>(i,l))):=yZ h Cm (List.mem_of_getElem? hm) hg ht hl
 have c0:=c 1 _ _ rfl 0 105 (by kernel_rfl) (by kernel_rfl) (by kernel_rfl)
 have c1:=c 2 _ _ rfl 1 28 (by kernel_rfl) (by kernel_rfl) (by kernel_rfl)
 have c2:=c 3 _ _ rfl 2 28 (by kernel_rfl) (by kernel_rfl) (by kernel_rfl)
 have c3:=c 4 _ _ rfl 3 28 (by kernel_rfl) (by kernel_rfl) (by kernel_rfl)
 have c4:=c 5 _ _ rfl 4 28 (by kernel_rfl) (by kernel_rfl) (by kernel_rfl)
 have c6:=c 0 _ _ rfl 6 184 (by kernel_rfl) (by kernel_rfl) (by kernel_rfl)
 have key (k:Nat) (t:TypeId) (d:DataW Unit) (hx:(ap.gl[k]?).join=some ((rM t d).map xe)) (ho:(rM t d).all rL=true) (hc:∀ (j:Nat) (l:Lit),(rM t d)[j]? =some l→W.cell? ⟨k,j,none⟩=some (iV l)):
   ∀ xs,(ap.gl[k]?).join=some xs→∃ ls:List Lit,xs=ls.map xe∧ls.all rL=true∧∀ (j:Nat) (l:Lit),ls[j]? =some l→W.cell? ⟨k,j,none⟩=some (iV l):=by
  intro xs hxs
  rw [hx] at hxs
  cases hxs
  exact ⟨_,rfl,ho,hc⟩
 intro k
 match k with
 |0=>exact key 0 _ _ (by kernel_rfl) (by kernel_rfl) c0
 |1=>exact key 1 _ _ (by kernel_rfl) (by kernel_rfl) c1
 |2=>exact key 2 _ _ (by kernel_rfl) (by kernel_rfl) c2
 |3=>exact key 3 _ _ (by kernel_rfl) (by kernel_rfl) c3
 |4=>exact key 4 _ _ (by kernel_rfl) (by kernel_rfl) c4
 |5=>intro xs hxs;exact absurd (show (none:Option (List AV))=some xs from hxs) (by simp)
 |6=>exact key 6 _ _ (by kernel_rfl) (by kernel_rfl) c6
 |7=>intro xs hxs;exact absurd (show (none:Option (List AV))=some xs from hxs) (by simp)
 |k+8=>
  intro xs hxs
  have:ap.gl.length=8:=by kernel_rfl
  rw [List.getElem?_eq_none (by omega)] at hxs
  cases hxs
theorem own:ownKnob prog.godebug=none:=by kernel_rfl
theorem Q4:laidOutB prog=true:=by kernel_rfl
noncomputable def zC (t:TypeId) (d:DataW Unit):Obj→Obj
 | .cells _ t' fr=> .cells ((rM t d).map iV).toArray t' fr
 |o=>o
noncomputable def LM (os:Os):World:=
 let w:=World.holding prog os ⟨#[],#[],[]⟩
 {w with heap:=((((((w.heap.modify 0 (zC 105 Rows.laid_tithing_expr_table)).modify 1 (zC 28 Rows.laid_tithing_check_truth)).modify 2 (zC 28 Rows.laid_tithing_check_cash)).modify 3 (zC 28 Rows.laid_tithing_check_days)).modify 4 (zC 28 Rows.laid_tithing_check_plain)).modify 5 (zC 181 Rows.laid_unicode_utf8_first)).modify 6 (zC 184 Rows.laid_unicode_utf8_acceptRanges)}
end Go.Proofs.Tryz
