/- Contracts of functions; joined by a program of mine. -/
import Derived.Test.YtcpedihclbogjaaGreatDoorAp
import Derived.Test.YtcpedihclbogjaaGreatDoorChecked
import Derived.Eval
import Derived.Test.YtcpedihclbogjaaGreatDoorM5
set_option linter.unusedSimpArgs false
set_option linter.unusedVariables false
open Go AM
open List renaming range->Xqm,headD->η,drop->ε,take->τ,reverse_cons->Xzr,reverse_nil->Xvb,nil_append->Xqb,singleton_append->Xju,dropWhile_cons->Xx5,take_append_of_le_length->Xx7,take_of_length_le->Xqa,getD_eq_getElem?_getD->μ,getElem?_append_right->Xj5,eq_nil_of_length_eq_zero->Xq2,eq_nil_or_concat->Xzb,concat_eq_append->Xzz,length->θ,getD->Xje,foldl_cons->Xjx,length_cons->ο,ext_getElem?->Xwl,getElem?_set->Xwm,getElem?_eq_none->Xq8,length_set->Xxl,drop_eq_getElem_cons->Xxk,length_drop->Xx3,getElem?_eq_getElem->ν,map_take->Xw1,map_drop->Xjy,set_eq_take_append_cons_drop->Xjf,getElem?_map->Xqx,range_succ->Xw2,map_append->Xq5,replicate_succ'->Xz5,flatten_append->Xz8,getElem?_append_left->Xxe,length_append->ξ,length_reverse->Xzs,dropWhile_sublist->Xwe,take_length->Xxc,map_congr_left->Xjt,map->Xz0,map_map->Xzd,all->Xz9,range_succ_eq_map->Xw4,map_cons->Xqf,mem_cons_self->Xjm,mem_cons_of_mem->Xx1,replicate->ζ,cons_append->Xqu,length_take->Xq7,length_nil->Ξ,append_assoc->Xqe,length_replicate->Xq9,append_nil->Xqd,headD_cons->Xjz,headD_nil->Xva,take_succ_cons->Xx6,drop_zero->Xx8,drop_succ_cons->Xwz,take_add_one->Xw5,replicate_succ->Xxa,set_append_right->Xkp,length_tail->Yqt,length_singleton->Δ,tail_cons->Xwt,tail_nil->Xka,length_map->Xqp,dropWhile->Yxj,map_nil->Xjc
open IntKind renaming wrap->γ,bits->Φ
open AV renaming toInt->Γ,int->Xxx
open Int renaming toNat->δ,tdiv->Xxb,tmod->Xxp,tdiv_eq_ediv_of_nonneg->Xwp,tmod_eq_emod_of_nonneg->Xvs,fdiv->Xq1,fdiv_eq_ediv_of_nonneg->Xvt,natCast_nonneg->Xvv,natCast_ediv->Yqs,natCast_mul->Xkm
open Nat renaming mul_one->Xqi,le_refl->κ,sub_self->Xz7,sub_zero->Xzc,ble->Xqr,pow_succ->Xxh,mul_comm->Xqj,mul_assoc->Xqv,add_mul->Xxy,zero_mul->Xzp,zero_add->Ψ,mul_le_mul_right->Xqz,pow_add->Xxs,add_comm->Xja,add_mul_div_right->Xwi,two_pow_pos->Xqw,div_lt_iff_lt_mul->Xq0,pow_le_pow_right->Θ,mod_eq_of_lt->χ,div_eq_of_lt->Xjr,add_mul_mod_self_right->Xvr,shiftLeft_add_eq_or_of_lt->Xvc,shiftLeft_eq->Yqr,or_comm->Xk6,pow_mul->Xjs,lt_of_le_of_lt->φ,ble_eq_true_of_le->Xqc,lt_of_lt_of_le->υ,le_total->Yx3,mod_one->Yjj,mod_lt->Xq4,one_mul->Xwj,div_div_eq_div_mul->Xwf,zero_le->Xqo,beq->Xqk,beq_refl->Xz1,div_add_mod->Xxm,min_eq_left->Xjp,mul_add->Xxq,mul_zero->Xjv,pow_zero->Xkn,div_one->Xvl,succ_eq_add_one->Xk8,add_zero->Xq3,mul_le_mul_left->Xxj,le_trans->Xqs,mul_mod_mul_left->Xvh,mul_lt_mul_of_pos_left->Xzx,add_mul_mod_self_left->Xws,add_mul_div_left->Xvi,div_le_self->Xxo,log2->Yjv,log2_eq_iff->Yq4,add_assoc->Xzm,div_pos->Xvm,eq_zero_or_pos->Xqh,le_div_iff_mul_le->Xwk,add_sub_cancel->Xvw,lt_or_ge->Xjg,mul_pos->Xjh,lt_of_mul_lt_mul_right->Xvu,lt_trans->Xzf,le_of_lt->Xko,mul_div_mul_left->Xkz,gcd->Xxu,gcd_comm->Xkq,gcd_zero_left->Xw6,gcd_le_left->Xvn,gcd_pos_of_pos_right->Xzi,ble_eq->Xjk,strongRecOn->Xks,not_lt->Yqi
open BitVec renaming toNat->Xxd,ofInt->Xqg,ofInt_natCast->Xky,toNat_ofNat->Yqa,toNat_or->Yq3
open UInt8 renaming toNat->Xxr,ofNat->Xql
open Bool renaming false_and->Xx4,false_eq_true->Xqy,not_eq_true'->Xqt,eq_iff_iff->Xzv,and_eq_true->π,eq_false_iff->Xw7
open Function renaming comp->Xv8
open Decidable renaming em->Xjb
namespace Go.Proofs.Tryz
abbrev ψ (n:Nat) (f:Func):=ag prog ap [] n (af 0 (am f))
noncomputable def Vb (i:Nat):Bool:=match ap.ty.get i with|some _=>true|_=>false
theorem Yj:(Xqm ap.nty).map ap.ty.get=(Xqm ap.nty).map λi=>match Vb i with|true=>Pw prog i|false=>none:=by kernel_rfl
noncomputable def Yh (i:Nat):Bool:=match ap.fn.get i with|some _=>true|_=>false
theorem Yi:(Xqm ap.nfn).map (λi=>(ap.fn.get i).map AF.fn)=(Xqm ap.nfn).map λi=>match Yh i with|true=>prog.funcs[i]? |false=>none:=by kernel_rfl
theorem P3:(Xqm ap.nfn).all (λi=>yj (ap.fn.get i))=true:=by kernel_rfl
theorem acw:dP prog ap:=P6 Yj
theorem acG:Aj prog ap:=QT Yi P3
theorem mixed:prog.follows .mixedOrders=true:=Tryz.checked.mixed
end Go.Proofs.Tryz
namespace Go.Proofs.Tryz
open Go AM
theorem th:vp prog ap:=⟨acw,mixed,acG⟩
abbrev CO (f:Nat) (args:List AV) (out:gy):Prop:=az prog ap f args [] out []
theorem cK {ans:List (gy × List aM)} {ps:List Prop} {f:Nat} {args:List AV} {h a:List aM} {out:gy} (hp:PS prog ap ps ans [] [])
  (he:lF ap (si prog ap 3000 4) 3000 .dead f args h ⟨true,[],[],[],ans,[]⟩= .ok (out,a,.dead) ⟨true,[],[],ps,[],[]⟩:=by kernel_rfl):az prog ap f args h out a:=ck th hp he
theorem pK (c:List Nat) (n k:Nat) {ans:List (gy × List aM)} {a:sD} {hs:List qK} {bs:List Bool} {ps:List Prop} {f:Nat} {args:List AV} {h b:List aM} {out:gy} (d:jt bs) (hp:PS prog ap ps ans a hs)
  (he:HK prog ap (si prog ap 3000 4) 3000 c f args h a ⟨false,sI n k,[],[],ans,hs⟩= .ok (out,b,.dead) ⟨false,[],bs,ps,[],[]⟩:=by kernel_rfl):az prog ap f args h out b:=pk th c n k d hp he
theorem pJ (f:Nat) (c:List Nat) (n k:Nat) {nt nt0:Nat} {ans:List (gy × List aM)} {b:sD} {hs:List qK} {bs:List Bool} {ps:List Prop} {a:Code} {s s':St} {h0:List aM} {e:a_} (d:jt bs) (hp:PS prog ap ps ans b hs) (g:nt0<=nt)
  (he:GY prog ap h0 f nt0 c a s b (sI n k) ans hs s'.env= .ok ((e,s'),[]) ⟨false,[],bs,ps,[],[]⟩:=by kernel_rfl):ag prog ap h0 nt a s e s':=pj th f c n k d hp g he
theorem pN (f:Nat) (c:List Nat) (n k:Nat) {nt nt0:Nat} {ans:List (gy × List aM)} {b:sD} {hs:List qK} {bs:List Bool} {ps:List Prop} {a:Code} {s s':St} {h0:List aM} {e:a_} (d:jt bs) (hp:PS prog ap ps ans b hs) (g:nt0<=nt)
  (he:GX prog ap h0 f nt0 c a s b (sI n k) ans hs s'.env= .ok ((e,s'),[]) ⟨false,[],bs,ps,[],[]⟩:=by kernel_rfl):ag prog ap h0 nt a s e s':=pn th f c n k d hp g he
abbrev iw (a:AV):St:=⟨[(0,a)],[],.dead,[]⟩
abbrev iQ (a:AV) (b c d:Nat) (e:List AV):St:=⟨[(0,a),(3,.ref 0 0 0 b),(4,ω (c:Int)),(5,ω (d:Int))],[(0,⟨e,0,false,0,5,true⟩)],.dead,[]⟩
abbrev oN (a:List UInt8) (b:AV):St:=⟨[(0,.str a),(1,b)],[],.dead,[]⟩
abbrev qT (a:AV):St:=⟨[(4,a)],[],.dead,[]⟩
abbrev tW:St:=⟨[],[],.dead,[]⟩
abbrev vh (a b:AV) (c d:Int) (e:Nat) (f:List AV):St:=⟨[(0,a),(1,b),(6,ω c),(7,ω d),(5,.ref 0 0 0 e)],[(0,⟨f,0,false,0,1,true⟩)],.dead,[]⟩
abbrev zQ (a:Nat) (b:List AV):St:=⟨[(5,.ref 0 0 0 a)],[(0,⟨b,0,false,0,1,true⟩)],.dead,[]⟩
abbrev AA (a:AV) (b:Nat) (c d e f:List AV):St:=⟨[(0,a),(4,.ptr 0 0 0),(5,.ptr 1 0 0),(10,ω (b:Int))],[(0,⟨[.nilS,.nilS,.nilS],0,false,0,0,true⟩),(1,⟨c,0,false,0,0,false⟩),(2,⟨d,0,false,0,14,true⟩),(3,⟨[.ref 4 0 0 11,.ref 5 0 0 11],0,false,0,1,false⟩),(4,⟨e,0,false,0,6,true⟩),(5,⟨f,0,false,0,6,true⟩)],.dead,[]⟩
abbrev Dk (a b:AV) (c:Int):St:=⟨[(0,a),(1,b),(5,ω c)],[],.dead,[]⟩
abbrev Dl (a b c d:AV) (e f:List AV):St:=⟨[(2,a),(3,b),(6,c),(7,d)],[(0,⟨e,0,false,0,0,true⟩),(1,⟨f,0,false,0,0,true⟩)],.dead,[]⟩
abbrev tT (a:AV) (b:Nat) (c d:Int):St:=⟨[(10,a),(11,ω (b:Int)),(12,ω c),(3,ω d)],[],.dead,[]⟩
abbrev tU (a b c:List AV):St:=⟨[(4,.ptr 0 0 0),(7,.bool true),(8,.ptr 1 0 0),(9,.ptr 2 0 0)],[(0,⟨a,0,false,0,0,true⟩),(1,⟨b,0,false,0,0,true⟩),(2,⟨c,0,false,0,0,true⟩)],.dead,[]⟩
abbrev tV (a:AV) (b:Nat) (c d:Int) (e:List AV):St:=⟨[(0,a),(3,.ref 0 0 0 b),(12,ω c),(13,ω d)],[(0,⟨e,0,false,0,1,true⟩)],.dead,[]⟩
abbrev vZ (a b c:Nat) (d:AV) (e:Nat) (f:Int) (g h:List AV):St:=⟨[(4,.ref 0 0 0 a),(8,ω (b:Int)),(9,.ref 1 0 0 c),(10,d),(11,ω (e:Int)),(12,ω f)],[(0,⟨g,0,false,0,1,true⟩),(1,⟨h,0,false,0,1,true⟩)],.dead,[]⟩
abbrev v_ (a:Int):St:=⟨[(2,ω a)],[],.dead,[]⟩
abbrev wg (a:AV):St:=⟨[(3,a)],[],.dead,[]⟩
abbrev wh (a b c:List AV):St:=⟨[(0,.dead),(1,.dead),(2,.dead),(4,.ptr 0 0 0),(6,.dead),(7,.bool true),(8,.ptr 1 0 0),(9,.ptr 2 0 0),(10,.dead),(11,.dead),(12,ω 0),(13,.dead),(15,.dead),(16,.dead),(18,.dead),(30,.dead),(41,.dead),(67,.dead),(97,.dead),(108,.dead)],[(0,⟨a,0,false,0,0,true⟩),(1,⟨b,0,false,0,0,true⟩),(2,⟨c,0,false,0,0,true⟩)],.dead,[]⟩
abbrev wi (a:Nat) (b:List AV):St:=⟨[(3,.ref 0 0 0 a)],[(0,⟨b,0,false,0,1,true⟩)],.dead,[]⟩
abbrev wj (a:AV) (b:Nat) (c:Int) (d:List AV):St:=⟨[(0,a),(3,.ref 0 0 0 b),(4,ω c)],[(0,⟨d,0,false,0,1,true⟩)],.dead,[]⟩
abbrev wk (a:List UInt8) (b:Int):St:=⟨[(0,.str a),(3,ω b)],[],.dead,[]⟩
abbrev BI (a:AV) (b:Nat) (c d e:List AV):St:=⟨[(0,a),(4,.ptr 0 0 0),(5,.ptr 1 0 0),(10,ω (b:Int))],[(0,⟨[.nilS,.nilS,.nilS],0,false,0,0,true⟩),(1,⟨c,0,false,0,0,false⟩),(2,⟨d,0,false,0,14,true⟩),(3,⟨[.ref 4 0 0 11],0,false,0,1,false⟩),(4,⟨e,0,false,0,6,true⟩)],.dead,[]⟩
abbrev BJ (a b:AV) (c d:Bool) (e f g:List AV):St:=⟨[(0,a),(1,b),(3,.ptr 0 0 0),(4,.ptr 1 0 0),(5,.ptr 2 0 0),(6,.bool c),(7,ω 0),(8,.dead),(9,.dead),(10,.dead),(11,.dead),(12,.dead),(13,.dead),(15,.dead),(16,.dead),(25,.bool d),(36,.dead),(40,.dead),(111,.dead),(120,.dead),(171,.dead)],[(0,⟨e,0,false,0,0,true⟩),(1,⟨[.nilS,.nilS,.nilS],0,false,0,0,true⟩),(2,⟨f,0,false,0,0,false⟩),(3,⟨g,0,false,0,1,true⟩)],.dead,[]⟩
abbrev BK (a:AV) (b c:Nat) (d:AV) (e:Nat) (f:Int) (g:List AV):St:=⟨[(0,a),(1,ω (b:Int)),(5,.ref 0 0 0 c),(11,d),(12,ω (e:Int)),(13,ω f)],[(0,⟨g,0,false,0,1,true⟩)],.dead,[]⟩
abbrev E_ (a:AV) (b:Nat) (c:Int) (d e:Nat) (f g:List AV):St:=⟨[(15,a),(16,ω (b:Int)),(17,ω c),(4,.ref 0 0 0 d),(5,.ref 1 0 0 e)],[(0,⟨f,0,false,0,1,true⟩),(1,⟨g,0,false,0,1,true⟩)],.dead,[]⟩
abbrev Fa (a b:Nat) (c:List AV):St:=⟨[(3,.ref 0 0 0 a),(4,ω (b:Int))],[(0,⟨c,0,false,0,5,true⟩)],.dead,[]⟩
abbrev Fb (a:Bool):St:=⟨[(6,.bool a)],[],.dead,[]⟩
abbrev Fc (a b:AV) (c:Nat) (d:AV) (e:Int) (f:List AV):St:=⟨[(0,a),(1,b),(6,.ref 0 0 0 c),(7,d),(8,ω e)],[(0,⟨f,0,false,0,1,true⟩)],.dead,[]⟩
abbrev Fe (a:AV) (b c:List AV):St:=⟨[(6,a)],[(0,⟨b,0,false,0,0,true⟩),(1,⟨c,0,false,0,0,true⟩)],.dead,[]⟩
abbrev Ff (a b:AV) (c:Nat) (d:AV) (e:List AV):St:=⟨[(0,a),(1,b),(5,.ref 0 0 0 c),(6,d)],[(0,⟨e,0,false,0,1,true⟩)],.dead,[]⟩
abbrev Fg (a b:AV) (c d:Nat):St:=⟨[(0,a),(1,b),(6,ω (c:Int)),(7,ω (d:Int)),(5,.nilS)],[],.dead,[]⟩
abbrev IY (a:Nat) (b:List AV):St:=⟨[(8,.ref 0 0 0 a)],[(0,⟨b,0,false,0,4,true⟩)],.dead,[]⟩
abbrev IZ (a b c:AV) (d:Bool) (e:AV) (f:Nat):St:=⟨[(0,a),(1,b),(2,c),(6,.bool false),(7,.dead),(8,.dead),(9,.dead),(14,.bool d),(15,e),(16,ω (f:Int)),(17,ω 0),(18,.dead),(30,.dead)],[],.dead,[]⟩
abbrev I0 (a:AV) (b:Int) (c:Nat) (d:AV) (e f:Nat) (g h:List AV):St:=⟨[(1,a),(2,ω b),(3,.ptr 0 0 0),(6,.ptr 1 0 0),(7,.ref 2 0 0 c),(13,d),(14,ω (e:Int)),(15,ω (f:Int))],[(0,⟨g,0,false,0,0,true⟩),(1,⟨[.nilS,.nilS],0,false,0,0,true⟩),(2,⟨h,0,false,0,6,true⟩)],.dead,[]⟩
abbrev I1 (a b:AV) (c:Nat) (d:Int) (e:Nat) (f g:Int) (h:AV) (i:Nat) (j k l:List AV):St:=⟨[(0,a),(1,b),(2,.ptr 0 0 0),(4,.nilS),(5,ω 0),(6,.ref 1 0 0 c),(7,ω d),(8,.ref 2 0 0 e),(9,.dead),(10,.dead),(11,.dead),(12,.dead),(20,ω f),(21,ω g),(22,.bool false),(37,h),(38,ω (i:Int)),(39,ω 0),(40,.dead),(56,.dead),(68,.dead),(72,.dead),(84,.dead)],[(0,⟨j,0,false,0,0,true⟩),(1,⟨k,0,false,0,2,true⟩),(2,⟨l,0,false,0,3,true⟩)],.dead,[]⟩
abbrev I2 (a:AV) (b:List AV):St:=⟨[(0,a),(4,.ptr 0 0 0),(5,.ptr 1 0 0)],[(0,⟨[.nilS,.nilS,.nilS],0,false,0,0,true⟩),(1,⟨[.nilS,.ref 2 0 0 1,.nilS],0,false,0,0,false⟩),(2,⟨[.ref 3 0 0 11],0,false,0,1,false⟩),(3,⟨b,0,false,0,6,true⟩)],.dead,[]⟩
abbrev I3 (a:AV) (b:List AV):St:=⟨[(0,a),(1,.dead),(3,.dead),(4,.ptr 0 0 0),(5,.ptr 1 0 0),(6,.dead),(7,.dead),(8,.dead),(9,.dead),(10,ω 0),(11,.dead),(12,.dead),(13,.dead),(15,.dead),(16,.dead),(25,.dead),(36,.dead),(40,.dead),(111,.dead),(120,.dead),(171,.dead)],[(0,⟨[.nilS,.nilS,.nilS],0,false,0,0,true⟩),(1,⟨[.nilS,.ref 2 0 0 1,.nilS],0,false,0,0,false⟩),(2,⟨[.ref 3 0 0 11],0,false,0,1,false⟩),(3,⟨b,0,false,0,6,true⟩)],.dead,[]⟩
abbrev I4 (a:AV) (b c:List AV):St:=⟨[(0,a),(4,.ptr 0 0 0),(5,.ptr 1 0 0)],[(0,⟨[.nilS,.nilS,.nilS],0,false,0,0,true⟩),(1,⟨[.nilS,.ref 2 0 0 2,.nilS],0,false,0,0,false⟩),(2,⟨[.ref 3 0 0 11,.ref 4 0 0 11],0,false,0,1,false⟩),(3,⟨b,0,false,0,6,true⟩),(4,⟨c,0,false,0,6,true⟩)],.dead,[]⟩
abbrev I5 (a:AV) (b c:List AV):St:=⟨[(0,a),(1,.dead),(3,.dead),(4,.ptr 0 0 0),(5,.ptr 1 0 0),(6,.dead),(7,.dead),(8,.dead),(9,.dead),(10,ω 0),(11,.dead),(12,.dead),(13,.dead),(15,.dead),(16,.dead),(25,.dead),(36,.dead),(40,.dead),(111,.dead),(120,.dead),(171,.dead)],[(0,⟨[.nilS,.nilS,.nilS],0,false,0,0,true⟩),(1,⟨[.nilS,.ref 2 0 0 2,.nilS],0,false,0,0,false⟩),(2,⟨[.ref 3 0 0 11,.ref 4 0 0 11],0,false,0,1,false⟩),(3,⟨b,0,false,0,6,true⟩),(4,⟨c,0,false,0,6,true⟩)],.dead,[]⟩
abbrev I6 (a b:Nat) (c:AV) (d:Nat) (e:Int) (f:List AV):St:=⟨[(5,.ref 0 0 0 a),(1,ω (b:Int)),(13,c),(14,ω (d:Int)),(15,ω e)],[(0,⟨f,0,false,0,1,true⟩)],.dead,[]⟩
abbrev I7 (a b c d e:AV) (f:Nat) (g:Int) (h:List AV):St:=⟨[(0,a),(1,b),(2,c),(7,d),(8,e),(14,ω (f:Int)),(15,ω g)],[(0,⟨h,0,false,0,1,true⟩)],.dead,[]⟩
abbrev I8 (a b c:AV) (d:Nat) (e:Int) (f:List AV):St:=⟨[(0,a),(1,b),(4,c),(8,ω (d:Int)),(9,ω e)],[(0,⟨f,0,false,0,1,true⟩)],.dead,[]⟩
abbrev I9 (a:AV) (b c:Nat) (d e f:AV) (g h:Nat) (i:AV) (j k:Nat) (l:List AV):St:=⟨[(1,a),(5,.ref 0 0 0 b),(6,ω (c:Int)),(7,d),(8,e),(18,f),(19,ω (g:Int)),(20,ω (h:Int)),(25,i),(26,ω (j:Int)),(27,ω (k:Int))],[(0,⟨l,0,false,0,1,true⟩)],.dead,[]⟩
abbrev I_ (a:AV) (b:Nat) (c:AV) (d e:Nat) (f:List AV):St:=⟨[(1,a),(5,.ref 0 0 0 b),(18,c),(19,ω (d:Int)),(20,ω (e:Int))],[(0,⟨f,0,false,0,1,true⟩)],.dead,[]⟩
abbrev Ja (a:AV) (b:Int):St:=⟨[(0,a),(3,.nilS),(4,ω b)],[],.dead,[]⟩
abbrev Jb (a:List UInt8) (b c:Int):St:=⟨[(0,.str a),(4,ω b),(5,ω c)],[],.dead,[]⟩
abbrev Pa (a:AV) (b c d:Nat) (e:List AV):St:=⟨[(15,a),(16,ω (b:Int)),(17,ω (c:Int)),(4,.ref 0 0 0 d),(5,.nilS)],[(0,⟨e,0,false,0,1,true⟩)],.dead,[]⟩
abbrev Pb (a:Nat) (b:List AV):St:=⟨[(3,.ref 0 0 0 a)],[(0,⟨b,0,false,0,5,true⟩)],.dead,[]⟩
abbrev Pc (a:Nat) (b:AV) (c d:Nat) (e f g:List AV):St:=⟨[(1,.ptr 0 0 0),(3,.mr 1 0),(4,.ref 2 0 0 a),(35,b),(36,ω (c:Int)),(37,ω (d:Int))],[(0,⟨e,0,false,0,0,true⟩),(1,⟨f,0,false,0,4611686018427387904,true⟩),(2,⟨g,0,false,0,1,true⟩)],.dead,[]⟩
abbrev Pf (a:AV) (b:Nat) (c:AV) (d:Nat) (e:Int) (f g:List AV):St:=⟨[(2,.ptr 0 0 0),(4,.nilS),(5,ω 0),(6,a),(8,.ref 1 0 0 b),(37,c),(38,ω (d:Int)),(39,ω e)],[(0,⟨f,0,false,0,0,true⟩),(1,⟨g,0,false,0,3,true⟩)],.dead,[]⟩
abbrev Pg (a:Nat) (b c:List AV):St:=⟨[(2,.ptr 0 0 0),(8,.ref 1 0 0 a)],[(0,⟨b,0,false,0,0,true⟩),(1,⟨c,0,false,0,3,true⟩)],.dead,[]⟩
abbrev Ph (a:AV) (b:Bool) (c:AV) (d:Nat):St:=⟨[(0,a),(2,ω 0),(3,ω 0),(5,.dead),(6,.dead),(9,.bool b),(10,c),(11,ω (d:Int)),(12,ω 0),(13,.dead),(19,.dead),(29,.dead),(34,.dead)],[],.dead,[]⟩
abbrev Pi (a:AV) (b c:Nat) (d e:AV) (f g:Nat) (h:List AV):St:=⟨[(1,a),(5,.ref 0 0 0 b),(6,ω (c:Int)),(8,d),(18,e),(19,ω (f:Int)),(20,ω (g:Int))],[(0,⟨h,0,false,0,1,true⟩)],.dead,[]⟩
abbrev Pj (a:List UInt8) (b:Nat) (c d:Int):St:=⟨[(0,.str a),(3,.nilS),(4,ω (b:Int)),(5,ω c),(6,ω d)],[],.dead,[]⟩
abbrev Pk (a:List UInt8) (b c:Nat) (d e:Int) (f:List AV):St:=⟨[(0,.str a),(3,.ref 0 0 0 b),(4,ω (c:Int)),(5,ω d),(6,ω e)],[(0,⟨f,0,false,0,1,true⟩)],.dead,[]⟩
abbrev Pm (a:List UInt8) (b:AV) (c:Int) (d e f:AV):St:=⟨[(0,.str a),(2,b),(3,.nilS),(4,ω c),(5,d),(6,e),(12,f),(20,.dead)],[],.dead,[]⟩
abbrev Uj (a:AV) (b:Nat) (c:Int) (d e:Nat) (f g h:List AV):St:=⟨[(15,a),(16,ω (b:Int)),(17,ω c),(4,.ref 0 0 0 d),(5,.ref 1 0 0 e)],[(0,⟨f,0,false,0,1,true⟩),(1,⟨g,0,false,0,1,true⟩),(2,⟨h,0,false,0,0,true⟩)],.dead,[]⟩
abbrev Uk (a:AV) (b:Nat) (c:Bool) (d:AV) (e:Nat) (f:List AV):St:=⟨[(0,a),(2,.nilS),(3,.bool false),(4,.ref 0 0 0 b),(5,.nilS),(6,.dead),(7,.dead),(8,.dead),(11,.bool c),(15,d),(16,ω (e:Int)),(17,ω 0),(18,.dead)],[(0,⟨f,0,false,0,1,true⟩)],.dead,[]⟩
abbrev Ul (a:AV):St:=⟨[(0,a),(2,.nilS),(3,.nilS),(4,ω 0),(5,ω 0),(6,.dead),(7,.dead),(8,.dead),(9,.dead),(11,.dead),(19,.dead),(40,.dead),(61,.dead),(75,.dead),(99,.dead),(105,.dead),(111,.dead),(119,.dead),(137,.dead),(144,.dead)],[],.dead,[]⟩
abbrev Um (a b:AV) (c d e:Nat) (f:AV) (g:Nat) (h:Int) (i j:Bool) (k l:List AV):St:=⟨[(0,a),(1,b),(4,.ref 0 0 0 c),(5,.nilS),(6,.dead),(7,.dead),(8,ω (d:Int)),(9,.ref 1 0 0 e),(10,f),(11,ω (g:Int)),(12,ω h),(13,.dead),(14,.bool i),(20,.bool j),(61,.dead),(106,.dead)],[(0,⟨k,0,false,0,1,true⟩),(1,⟨l,0,false,0,1,true⟩)],.dead,[]⟩
abbrev Un (a b c d:Nat) (e f:List AV):St:=⟨[(4,.ref 0 0 0 a),(8,ω (b:Int)),(9,.ref 1 0 0 c),(11,ω (d:Int))],[(0,⟨e,0,false,0,1,true⟩),(1,⟨f,0,false,0,1,true⟩)],.dead,[]⟩
abbrev Uo (a:Nat) (b c d:List AV):St:=⟨[(1,.ptr 0 0 0),(3,.mr 1 0),(4,.ref 2 0 0 a)],[(0,⟨b,0,false,0,0,true⟩),(1,⟨c,0,false,0,4611686018427387904,true⟩),(2,⟨d,0,false,0,1,true⟩)],.dead,[]⟩
abbrev Uq (a:AV) (b:Bool) (c:AV) (d:Nat) (e:List AV):St:=⟨[(0,a),(1,.ptr 0 0 0),(2,ω 0),(3,.mr 1 0),(4,.nilS),(5,.dead),(6,.dead),(7,.dead),(9,.dead),(10,.dead),(32,.bool b),(35,c),(36,ω (d:Int)),(37,ω 0),(38,.dead),(89,.dead),(100,.dead),(101,.dead),(102,.dead),(103,.dead),(111,.dead),(116,.dead),(124,.dead)],[(0,⟨e,0,false,0,0,true⟩),(1,⟨[.agg [],.agg []],0,false,0,4611686018427387904,true⟩)],.dead,[]⟩
abbrev Ur (a:Nat) (b:AV) (c:Nat) (d e f:List AV):St:=⟨[(0,.dead),(1,.ptr 0 0 0),(2,.dead),(3,.mr 1 0),(4,.ref 2 0 0 a),(5,.dead),(6,.dead),(7,.dead),(9,.dead),(10,.dead),(32,.dead),(35,.dead),(36,.dead),(37,.dead),(38,.dead),(89,.dead),(100,b),(101,ω (c:Int)),(102,ω 0),(103,.dead),(111,.dead),(116,.dead),(124,.dead)],[(0,⟨d,0,false,0,0,true⟩),(1,⟨e,0,false,0,4611686018427387904,true⟩),(2,⟨f,0,false,0,1,true⟩)],.dead,[]⟩
abbrev Us (a b:AV) (c:Bool):St:=⟨[(0,a),(1,b),(4,.bool false),(5,ω 0),(6,.dead),(11,.bool c),(15,.dead),(28,.dead)],[],.dead,[]⟩
abbrev Ut (a b:AV) (c:Bool) (d:AV) (e:Nat) (f:List AV):St:=⟨[(0,a),(1,b),(2,.ptr 0 0 0),(4,.bool false),(5,.dead),(6,.dead),(7,.dead),(13,.bool c),(15,d),(16,ω (e:Int)),(17,ω 0),(18,.dead),(42,.dead)],[(0,⟨f,0,false,0,0,true⟩)],.dead,[]⟩
abbrev Uu (a:Int) (b:Nat) (c d:List AV):St:=⟨[(2,ω a),(3,.ptr 0 0 0),(6,.ptr 1 0 0),(7,.ref 2 0 0 b)],[(0,⟨c,0,false,0,0,true⟩),(1,⟨[.nilS,.nilS],0,false,0,0,true⟩),(2,⟨d,0,false,0,6,true⟩)],.dead,[]⟩
abbrev Uv (a b:Nat) (c:AV) (d:Nat) (e f g:List AV):St:=⟨[(2,.ptr 0 0 0),(4,.nilS),(5,ω 0),(6,.ref 1 0 0 a),(8,.ref 2 0 0 b),(37,c),(38,ω (d:Int)),(39,ω 0)],[(0,⟨e,0,false,0,0,true⟩),(1,⟨f,0,false,0,2,true⟩),(2,⟨g,0,false,0,3,true⟩)],.dead,[]⟩
abbrev Uw (a:AV) (b:Nat) (c:AV) (d:Nat) (e f:List AV):St:=⟨[(2,.ptr 0 0 0),(4,.nilS),(5,ω 0),(6,a),(8,.ref 2 0 0 b),(37,c),(38,ω (d:Int)),(39,ω 0)],[(0,⟨e,0,false,0,0,true⟩),(2,⟨f,0,false,0,3,true⟩)],.dead,[]⟩
abbrev Ux (a:AV) (b:Nat) (c:List AV):St:=⟨[(0,a),(4,.ptr 0 0 0),(5,.ptr 1 0 0),(10,ω (b:Int))],[(0,⟨[.nilS,.nilS,.nilS],0,false,0,0,true⟩),(1,⟨[.nilS,.ref 2 0 0 1,.nilS],0,false,0,0,false⟩),(2,⟨[.ref 3 0 0 11],0,false,0,1,false⟩),(3,⟨c,0,false,0,6,true⟩)],.dead,[]⟩
abbrev Uy (a:AV) (b:Nat) (c d:List AV):St:=⟨[(0,a),(4,.ptr 0 0 0),(5,.ptr 1 0 0),(10,ω (b:Int))],[(0,⟨[.nilS,.nilS,.nilS],0,false,0,0,true⟩),(1,⟨[.nilS,.ref 2 0 0 2,.nilS],0,false,0,0,false⟩),(2,⟨[.ref 3 0 0 11,.ref 4 0 0 11],0,false,0,1,false⟩),(3,⟨c,0,false,0,6,true⟩),(4,⟨d,0,false,0,6,true⟩)],.dead,[]⟩
abbrev Uz (a b:AV) (c d:Bool) (e f g:List AV):St:=⟨[(0,a),(1,b),(3,.ptr 0 0 0),(4,.ptr 1 0 0),(5,.ptr 2 0 0),(6,.bool c),(7,ω 0),(8,.dead),(9,.dead),(10,.dead),(11,.dead),(12,.dead),(13,.dead),(15,.dead),(16,.dead),(25,.bool d),(36,.dead),(40,.dead),(111,.dead),(120,.dead),(171,.dead)],[(0,⟨e,0,false,0,0,true⟩),(1,⟨[.nilS,.nilS,.nilS],0,false,0,0,true⟩),(2,⟨f,0,false,0,0,false⟩),(3,⟨g,0,false,0,1,false⟩)],.dead,[]⟩
abbrev UA (a b:Nat) (c d:List AV):St:=⟨[(0,.ptr 0 0 0),(1,ω (a:Int)),(5,ω (b:Int))],[(0,⟨c,0,false,0,0,false⟩),(1,⟨d,0,false,0,1,true⟩)],.dead,[]⟩
abbrev UB (a:AV) (b c d:List AV):St:=⟨[(0,a)],[(0,⟨[.ptr 2 0 0],0,false,0,0,false⟩),(1,⟨b,0,false,0,0,true⟩),(2,⟨c,0,false,0,0,false⟩),(3,⟨d,0,false,0,1,true⟩)],.dead,[]⟩
abbrev UC (a b:AV) (c d:Nat) (e:List AV):St:=⟨[(0,a),(2,b),(3,.ref 0 0 0 c),(4,.dead),(12,ω (d:Int)),(13,ω 0),(14,.dead)],[(0,⟨e,0,false,0,1,true⟩)],.dead,[]⟩
abbrev UD (a b:AV) (c:Int) (d:Bool):St:=⟨[(0,a),(1,b),(4,ω 0),(5,ω c),(10,.bool d),(15,.dead),(20,.dead),(23,.dead),(33,.dead)],[],.dead,[]⟩
abbrev UE (a b:AV) (c:Nat) (d:Bool) (e:Nat) (f:List AV):St:=⟨[(0,a),(1,b),(4,.nilS),(5,.ref 0 0 0 c),(6,.int .u64 0),(7,.dead),(8,.dead),(13,.bool d),(21,ω (e:Int)),(22,ω 0),(23,.dead),(35,.dead)],[(0,⟨f,0,false,0,1,true⟩)],.dead,[]⟩
abbrev UF (a b:AV):St:=⟨[(0,a),(1,b),(4,.nilS),(5,.nilS),(6,ω 0),(7,ω 0),(8,.dead),(12,.dead),(24,.dead),(32,.dead)],[],.dead,[]⟩
abbrev UG (a:List UInt8) (b:Bool):St:=⟨[(0,.str a),(2,ω 0),(3,.bool false),(4,ω 0),(5,ω 0),(20,.bool b),(24,.dead)],[],.dead,[]⟩
abbrev UH (a:List AV):St:=⟨[(0,.ptr 0 0 0),(2,.bool true),(3,.dead),(4,.dead),(5,.dead),(6,.dead),(7,.dead),(8,.dead),(9,.dead),(10,.dead),(11,.dead),(12,.dead),(13,.dead),(14,.dead),(15,.dead),(41,.bool false),(47,.bool true),(65,.dead),(70,.dead),(100,.dead),(102,.dead),(117,.dead),(122,.dead),(128,.dead),(133,.dead),(139,.dead),(145,.dead),(158,.dead),(166,.dead),(170,.dead),(175,.dead),(184,.dead),(188,.dead),(192,.dead)],[(0,⟨a,0,false,0,0,false⟩),(1,⟨[ω 5,.bool false,.str [],.str [],.str [120],ω 6,.bool false,.str [],.str [],.str [117]],0,false,0,5,true⟩)],.dead,[]⟩
abbrev LB (n b:Nat) (f:Func):St->a_->St->Prop:=gk prog ap [] n (.block b (.loop (af b (am f))))
end Go.Proofs.Tryz
set_option maxRecDepth 100000
open Go AM
namespace Go.Proofs.Tryz
theorem Fs {nt:Nat} (f:21<=nt) (a:List AV) (n:Nat) (b:Bool) (h0:(decide ((0:Int)<=(γ .i64 ((n:Int) - (1:Int)))))=true) (c:(decide ((γ .i64 ((n:Int) - (1:Int)))<=(n:Int)))=true) (d:lit true ((Γ (η (ε ((δ (γ .i64 ((n:Int) - (1:Int))))*1) a) .dead))==(0:Int))=true) (g:(chk (.int .u32) (η (ε ((δ (γ .i64 ((n:Int) - (1:Int))))*1) a) .dead))=true) (e:(decide ((γ .i64 ((n:Int) - (1:Int)))<(n:Int)))=true) (h5:lit true (decide ((0:Int)<(n:Int)))=true):ψ nt f186 (iw (.sl a n b)) (.normal) (iw (.sl (τ ((δ (γ .i64 ((n:Int) - (1:Int))))*1) a) ((δ (γ .i64 ((n:Int) - (1:Int)))) - 0) b)):=pJ 186 [] 2 3 (.k 1 h0 (.c c (.c d (.c g (.c h0 (.c e (.c h5 .nil))))))) (.nil) f
theorem Ft {nt:Nat} (f:21<=nt) (a:List AV) (n:Nat) (b:Bool) (h0:lit false ((Γ (η (ε ((δ (γ .i64 ((n:Int) - (1:Int))))*1) a) .dead))==(0:Int))=true) (c:(chk (.int .u32) (η (ε ((δ (γ .i64 ((n:Int) - (1:Int))))*1) a) .dead))=true) (d:(decide ((0:Int)<=(γ .i64 ((n:Int) - (1:Int)))))=true) (g:(decide ((γ .i64 ((n:Int) - (1:Int)))<(n:Int)))=true) (e:lit true (decide ((0:Int)<(n:Int)))=true):ψ nt f186 (iw (.sl a n b)) (.exit 0) (iw (.sl a n b)):=pJ 186 [] 2 1 (.c h0 (.c c (.c d (.c g (.c e .nil))))) (.nil) f
theorem Fu {nt:Nat} (c:21<=nt) (a:List AV) (n:Nat) (b:Bool) (h0:lit false (decide ((0:Int)<(n:Int)))=true):ψ nt f186 (iw (.sl a n b)) (.exit 0) (iw (.sl a n b)):=pJ 186 [] 2 0 (.k 1 h0 .nil) (.nil) c
theorem dO {x:Int} (h: -2^63<=x) (a:x<2^63):γ .i64 x=x:=by
 show (if (true && decide (x % 2^64≥2^63))=true then x % 2^64 - 2^64 else x % 2^64)=x;rw [Bool.true_and];by_cases hx:x % 2^64≥2^63
 .rw [if_pos (by simpa using hx)];omega
 .rw [if_neg (by simpa using hx)];omega
abbrev ci (n:Int):AV:= ω n
def ak (l:List Nat):List AV:=l.map λ(d:Nat)=>Xxx .u32 (d:Int)
theorem aq (l:List Nat):(ak l).length=l.length:=by simp [ak]
theorem wn (l r:List Nat):ak (l++r)=ak l++ak r:=by simp [ak]
def cM (l:List Nat):List Nat:=(l.reverse.dropWhile (· ==0)).reverse
theorem kZ (l:List Nat) (d:Nat):cM (l++ [d])=if d=0 then cM l else l++ [d]:=by
 unfold cM;rw [List.reverse_append];simp only [Xzr,Xvb,Xqb,Xju,Xx5];by_cases h:d=0
 .subst h;simp
 .simp [h]
theorem K2 (l:List Nat) (d:Nat):τ (l.length*1) (ak (l++ [d]))=ak l:=by
 rw [wn,Xqi,Xx7 (by rw [aq];exact κ _),Xqa (by rw [aq];exact κ _)]
theorem uy (l:List Nat) (d:Nat):η (ε (l.length*1) (ak (l++ [d]))) .dead= .int .u32 (d:Int):=by
 rw [kL,wn,Xqi,μ,Xj5 (by rw [aq];exact κ _),aq,Xz7];rfl
def PB (nn:Bool) (l:List Nat):St:=(iw (.sl (ak l) l.length nn))
theorem K9 {nt:Nat} (i:21<=nt) (g:Bool):∀ (k:Nat) (l:List Nat),l.length=k->k<2^40->aB prog ap [] nt (af 0 (am f186)) (λ_=> .exit 0) (PB g) (PB g) l (cM l):=by
 intro k
 induction k with
 |zero=>
  intro l f _;have:l= []:=Xq2 f;subst this;exact .done (Fu i (ak []) 0 g (by rfl))
 | succ k ih=>
  intro l f o;rcases Xzb l with rfl|⟨a,d,rfl⟩
  .simp at f
  .rw [Xzz] at f ⊢;have e:a.length=k:=by simpa using f
   have b:(a++ [d]).length=k+1:=by simp [e]
   have h:γ .i64 ((((a++ [d]).length:Nat):Int) - 1)=(k:Int):=by
    rw [b,dO (by omega) (by omega)];omega
   have c:(δ (γ .i64 ((((a++ [d]).length:Nat):Int) - 1)))=a.length:=by rw [h];omega
   have h0:decide ((0:Int)<=γ .i64 ((((a++ [d]).length:Nat):Int) - 1))=true:=by rw [h];simp
   have n:decide (γ .i64 ((((a++ [d]).length:Nat):Int) - 1)<=(((a++ [d]).length:Nat):Int))=true:=by rw [h,b];simp;omega
   have j:decide (γ .i64 ((((a++ [d]).length:Nat):Int) - 1)<(((a++ [d]).length:Nat):Int))=true:=by rw [h,b];simp;omega
   have h5:lit true (decide ((0:Int)<(((a++ [d]).length:Nat):Int)))=true:=by rw [b];simp [lit]
   have m:chk (.int .u32) (η (ε (δ (γ .i64 ((((a++ [d]).length:Nat):Int) - 1))*1) (ak (a++ [d]))) .dead)=true:=by rw [c,uy];rfl
   rw [kZ];by_cases hd:d=0
   .rw [if_pos hd];refine .next ?_ (ih a e (by omega))
    have:=Fs i (ak (a++ [d])) (a++ [d]).length g h0 n (by rw [c,uy];subst hd;rfl) m j h5;rw [c,K2,Xzc] at this;exact this
   .rw [if_neg hd];refine .done (Ft i (ak (a++ [d])) (a++ [d]).length g (by rw [c,uy];simp [lit,Γ,hd]) m h0 j h5)
theorem Hw (l:List Nat) (a:Bool) (b:l.length<2^40):CO 186 [.sl (ak l) l.length a] (.ret (.sl (ak (cM l)) (cM l).length a)):=pK [0] 0 0 .nil (.l (aB.blk (λnt c=>K9 c a _ l rfl b) (by simp) rfl (aD.of ⟨rfl,trivial⟩) (aD.of ⟨rfl,trivial⟩):LB 21 0 f186 ⟨[(0,.sl (ak l) l.length a),(2,.nilS),(14,.dead)],[],.dead,[]⟩ (.normal) (iw (.sl (ak (cM l)) (cM l).length a))) .nil)
theorem Ks {nt:Nat} (d:38<=nt) (s:List UInt8) (cs:List AV) (L:Nat) (n k:Int) (h0:(Xqr (((0+(δ (γ .i64 (Xxb k (4:Int)))))*1)+1) (θ cs))=true) (a:(decide ((0:Int)<=(γ .i64 (Xxb k (4:Int)))))=true) (b:(decide ((γ .i64 (Xxb k (4:Int)))<(L:Int)))=true) (f:(decide ((0:Int)<=(γ .i64 ((8:Int)*(Xxp k (4:Int))))))=true) (c:(decide ((0:Int)<=(γ .i64 ((γ .i64 ((((θ s):Nat):Int) - (1:Int))) - k))))=true) (h5:(decide ((γ .i64 ((γ .i64 ((((θ s):Nat):Int) - (1:Int))) - k))<(((θ s):Nat):Int)))=true) (e:(chk (.int .u32) (η (ε ((0+(δ (γ .i64 (Xxb k (4:Int)))))*1) cs) .dead))=true) (h7:lit true (decide (k<n))=true):ψ nt f164 (tV (.str s) L n k cs) (.normal) (tV (.str s) L n (γ .i64 (k+(1:Int))) (τ ((0+(δ (γ .i64 (Xxb k (4:Int)))))*1) cs++ [.int .u32 (γ .u32 (Xxd (Xqg (Φ .u32) (Γ (η (ε ((0+(δ (γ .i64 (Xxb k (4:Int)))))*1) cs) .dead))|||Xqg (Φ .u32) (γ .u32 ((γ .u32 ((Xxr (Xje s (δ (γ .i64 ((γ .i64 ((((θ s):Nat):Int) - (1:Int))) - k))) 0):Nat):Int))*2^(min (δ (γ .i64 ((8:Int)*(Xxp k (4:Int))))) (Φ .u32)))))))]++ε (((0+(δ (γ .i64 (Xxb k (4:Int)))))*1)+1) cs)):=pJ 164 [] 1 1 (.c h0 (.c a (.c b (.c f (.k 1 c (.c h5 (.c e (.c a (.c b (.k 1 h7 .nil)))))))))) (.nil) d
theorem Kt {nt:Nat} (a:38<=nt) (s:List UInt8) (cs:List AV) (L:Nat) (n k:Int) (h0:lit false (decide (k<n))=true):ψ nt f164 (tV (.str s) L n k cs) (.exit 0) (tV (.str s) L n k cs):=pJ 164 [] 1 0 (.c h0 .nil) (.nil) a
def aj (s:List UInt8):Nat:=s.foldl (λa b=>a*256+b.toNat) 0
theorem A5 (s:List UInt8):∀ a,s.foldl (λa b=>a*256+b.toNat) a=a*256^s.length+aj s:=by
 induction s with
 |nil=>intro a;simp [aj]
 | cons b r ih=>
  intro a;simp only [Xjx,aj,ο,Xxh];rw [ih,ih (0*256+b.toNat)];have:a*(256^r.length*256)=a*256*256^r.length:=by
   rw [Xqj (256^r.length) 256,Xqv]
  rw [this];simp only [Xxy,Xzp,Ψ];omega
theorem ga (b:UInt8) (r:List UInt8):aj (b::r)=b.toNat*256^r.length+aj r:=by
 show (b::r).foldl _ 0=_;rw [Xjx,A5];simp
theorem qJ (s:List UInt8):aj s<256^s.length:=by
 induction s with
 |nil=>simp [aj]
 |cons b r ih=>
  rw [ga,ο,Xxh];have:=b.toNat_lt;have h:b.toNat*256^r.length<=255*256^r.length:=Xqz _ (by omega);omega
def bH (m n:Nat):List Nat:=(Xqm m).map λi=>n / 2^(32*i) % 2^32
theorem aL (m n:Nat):(bH m n).length=m:=by simp [bH]
theorem m_ {m n i:Nat} (h:i<m):(bH m n)[i]? =some (n / 2^(32*i) % 2^32):=by simp [bH,h]
theorem N9 {m j n b:Nat} (g:n<2^(8*j)) (o:b<256):
  bH m (b*2^(8*j)+n)=(bH m n).set (j / 4) (n / 2^(32*(j / 4)) % 2^32+b*2^(8*(j % 4))):=by
 apply Xwl;intro i;by_cases hi:i<m
 .rw [m_ hi,Xwm];have l:j=4*(j / 4)+j % 4:=by omega
  generalize d:j / 4=q at*
  generalize k:j % 4=r at*
  have p:r<4:=by omega
  by_cases h1:q=i
  .subst h1;rw [if_pos rfl,if_pos (by rw [aL];exact hi)];congr 1;have e:8*j=8*r+32*q:=by omega
   rw [e,Xxs,<- Xqv,Xja,Xwi _ _ (Xqw _)];have a:n / 2^(32*q)<2^(8*r):=by
    rw [Xq0 (Xqw _),<- Xxs,<- e];exact g
   have c:2^(8*r)<=2^24:=Θ (by omega) (by omega);have f:b*2^(8*r)<=255*2^(8*r):=Xqz _ (by omega);rw [χ (by omega),χ (by omega)]
  .rw [if_neg h1,m_ hi];congr 1;rcases Nat.lt_or_gt_of_ne h1 with h|h
   ·
    have e:8*j+8<=32*i:=by omega
    have a:b*2^(8*j)+n<2^(32*i):=by
     have c:2^(8*j+8)<=2^(32*i):=Θ (by omega) e;have f:b*2^(8*j)<=255*2^(8*j):=Xqz _ (by omega);rw [Xxs] at c;omega
    rw [Xjr a,Xjr (by omega)]
   ·
    have e:8*j=(8*j - 32*i - 32)+32+32*i:=by omega
    rw [e,Xxs,Xxs,<- Xqv,<- Xqv,Xja,Xwi _ _ (Xqw _),Xvr]
 .rw [Xq8 (by rw [aL];omega),Xq8 (by rw [Xxl,aL];omega)]
theorem Ac {x:Int} (h:0<=x) (a:x<2^32):γ .u32 x=x:=by
 show (if (false && decide (x % 2^32≥2^31))=true then x % 2^32 - 2^32 else x % 2^32)=x;simp only [Xx4,Xqy,if_false];omega
theorem WQ {a b r:Nat} (c:a<2^(8*r)) (h:b<256) (j:r<4):
  γ .u32 (Xxd (Xqg (Φ .u32) (a:Int)|||Xqg (Φ .u32) (γ .u32 ((b:Int)*2^(8*r)))))=((a+b*2^(8*r):Nat):Int):=by
 have k:2^(8*r)<=2^24:=Θ (by omega) (by omega);have i:b*2^(8*r)<=255*2^(8*r):=Xqz _ (by omega);have e:((b:Int)*2^(8*r))=((b*2^(8*r):Nat):Int):=by simp
 have f:γ .u32 ((b*2^(8*r):Nat):Int)=((b*2^(8*r):Nat):Int):=Ac (by omega) (by omega);rw [e,f];have h5:∀ x:Nat,x<2^32->(Xqg (Φ .u32) (x:Int)).toNat=x:=by
  intro x g;show (Xqg 32 (x:Int)).toNat=x;rw [Xky,Yqa,χ g]
 rw [Yq3,h5 a (by omega),h5 _ (by omega)];have d:a|||b*2^(8*r)=a+b*2^(8*r):=by
  have:=Xvc c b;rw [Yqr] at this;rw [Xk6,<- this,Xja]
 rw [d,Ac (by omega) (by omega)]
theorem Qc {s:List UInt8} {j:Nat} (d:j<s.length):aj (s.drop (s.length - (j+1)))=(s.getD (s.length - 1 - j) 0).toNat*2^(8*j)+aj (s.drop (s.length - j)):=by
 have a:s.length - (j+1)<s.length:=by omega
 rw [Xxk a,ga];have b:s.length - (j+1)+1=s.length - j:=by omega
 rw [b,Xx3];have c:s.length - (s.length - j)=j:=by omega
 rw [c,μ,show s.length - 1 - j=s.length - (j+1) by omega,ν a];have:(256:Nat)^j=2^(8*j):=by rw [Xjs]
 rw [this];rfl
def ZW (s:List UInt8) (L:Nat) (j:Nat):St:=(tV (.str s) L (s.length:Int) (j:Int) (ak (bH L (aj (s.drop (s.length - j))))))
theorem IR (l:List Nat) (i:Nat) (x:Nat) (a:i<l.length):τ i (ak l)++ [Xxx .u32 (x:Int)]++ε (i+1) (ak l)=ak (l.set i x):=by
 unfold ak;rw [<- Xw1,<- Xjy,Xjf,if_pos a];simp
theorem RT {nt:Nat} (h:38<=nt) (s:List UInt8) (hs:s.length<2^40):∀ (d j:Nat),j+d=s.length->aB prog ap [] nt (af 0 (am f164)) (λ_=> .exit 0) (ZW s ((s.length+3) / 4)) (ZW s ((s.length+3) / 4)) j s.length:=by
 intro d
 induction d with
 |zero=>
  intro j l;have:j=s.length:=by omega
  subst this;exact .done (Kt h s _ _ (s.length:Int) (s.length:Int) (by simp [lit]))
 | succ d ih=>
  intro j l;refine .next ?_ (ih (j+1) (by omega))
  have b:j<s.length:=by omega
  have f:j / 4<(s.length+3) / 4:=by omega
  have p:γ .i64 (Xxb (j:Int) 4)=((j / 4:Nat):Int):=by
   rw [Xwp (by omega),dO (by omega) (by omega)];omega
  have u:Xxp (j:Int) 4=((j % 4:Nat):Int):=by
   rw [Xvs (by omega)];omega
  have i:γ .i64 ((8:Int)*((j % 4:Nat):Int))=((8*(j % 4):Nat):Int):=by
   rw [dO (by omega) (by omega)];omega
  have m:γ .i64 (γ .i64 ((s.length:Int) - 1) - (j:Int))=((s.length - 1 - j:Nat):Int):=by
   have r:γ .i64 ((s.length:Int) - 1)=((s.length - 1:Nat):Int):=by
    rw [dO (by omega) (by omega)];omega
   rw [r,dO (by omega) (by omega)];omega
  have k:(0+δ ((j / 4:Nat):Int))*1=j / 4:=by omega
  have t:γ .i64 ((j:Int)+1)=((j+1:Nat):Int):=by
   rw [dO (by omega) (by omega)];omega
  have e:aj (s.drop (s.length - j))<2^(8*j):=by
   have:=qJ (s.drop (s.length - j));rw [Xx3,show s.length - (s.length - j)=j by omega] at this;rw [Xjs];exact this
  have g:(s.getD (s.length - 1 - j) 0).toNat<256:=(s.getD (s.length - 1 - j) 0).toNat_lt;have hcell:η (ε (j / 4) (ak (bH ((s.length+3) / 4) (aj (s.drop (s.length - j)))))) .dead= .int .u32 ((aj (s.drop (s.length - j)) / 2^(32*(j / 4)) % 2^32:Nat):Int):=by
   rw [kL,μ];unfold ak;rw [Xqx,m_ f];rfl
  have a:aj (s.drop (s.length - j)) / 2^(32*(j / 4)) % 2^32<2^(8*(j % 4)):=by
   have q:aj (s.drop (s.length - j)) / 2^(32*(j / 4))<2^(8*(j % 4)):=by
    rw [Xq0 (Xqw _),<- Xxs,show 8*(j % 4)+32*(j / 4)=8*j by omega];exact e
   exact φ (Nat.mod_le _ _) q
  have hbody:=Ks h s (ak (bH ((s.length+3) / 4) (aj (s.drop (s.length - j))))) ((s.length+3) / 4) (s.length:Int) (j:Int);rw [p,u,i,m,k,t] at hbody;rw [hcell] at hbody;have n:min (δ ((8*(j % 4):Nat):Int)) (Φ .u32)=8*(j % 4):=by
   show min (δ ((8*(j % 4):Nat):Int)) 32=_;omega
  have o:δ ((s.length - 1 - j:Nat):Int)=s.length - 1 - j:=by omega
  have c:γ .u32 (((s.getD (s.length - 1 - j) 0).toNat:Nat):Int)=(((s.getD (s.length - 1 - j) 0).toNat:Nat):Int):=Ac (by omega) (by omega);rw [n,o,c] at hbody;simp only [Γ] at hbody;rw [WQ a g (by omega)] at hbody;rw [IR _ _ _ (by rw [aL];exact f),<- N9 e g,<- Qc b] at hbody;exact hbody (by rw [aq,aL];exact Xqc (by omega)) (Yq0 (by omega)) (Yq0 (by omega)) (Yq0 (by omega)) (Yq0 (by omega)) (Yq0 (by omega)) rfl (Yq0 (by omega))
def digs (n:Nat):List Nat:=cM (bH n n)
theorem Pr (m n:Nat):τ (m*1) (ak (bH m n))=ak (bH m n):=by
 rw [Xqi,Xqa (by rw [aq,aL];exact κ _)]
theorem qa {n:Nat}:∀ (d m:Nat),n<2^(32*m)->cM (bH (m+d) n)=cM (bH m n)
 |0,m,_=>rfl
 | d+1,m,h=>by
  have a:n / 2^(32*(m+d)) % 2^32=0:=by
   have:n<2^(32*(m+d)):=υ h (Θ (by omega) (by omega));rw [Xjr this]
  have e:bH (m+(d+1)) n=bH (m+d) n++ [n / 2^(32*(m+d)) % 2^32]:=by
   unfold bH;rw [show m+(d+1)=(m+d)+1 by omega,Xw2,Xq5];rfl
  rw [e,kZ,if_pos a];exact qa d m h
theorem jl (n:Nat):n<2^(32*n):=by
 have a:n<2^n:=Nat.lt_two_pow_self;exact υ a (Θ (by omega) (by omega))
theorem wR {m n:Nat} (h:n<2^(32*m)):cM (bH m n)=digs n:=by
 unfold digs;rcases Yx3 m n with hm|hm
 .have:=qa (n - m) m h;rw [show m+(n - m)=n by omega] at this;exact this.symm
 .have:=qa (m - n) n (jl n);rw [show n+(m - n)=m by omega] at this;exact this
theorem vn (s:List UInt8):aj s<2^(32*((s.length+3) / 4)):=by
 have h:=qJ s;have e:(256:Nat)^s.length=2^(8*s.length):=by rw [Xjs]
 rw [e] at h;exact υ h (Θ (by omega) (by omega))
theorem PE (s:List UInt8) (hs:s.length<2^40):CO 186 [.sl (ak (bH ((s.length+3) / 4) (aj s))) ((s.length+3) / 4) true] (.ret (.sl (ak (digs (aj s))) (digs (aj s)).length true)):=by
 have h:=Hw (bH ((s.length+3) / 4) (aj s)) true (by rw [aL];omega);rw [aL,wR (vn s)] at h;exact h
theorem CX (s:List UInt8) (hs:s.length<2^40):γ .i64 (Xxb (γ .i64 ((γ .i64 ((s.length:Int)+(4:Int))) - (1:Int))) (4:Int))=(((s.length+3) / 4:Nat):Int):=by
 rw [dO (x:=(s.length:Int)+4) (by omega) (by omega),dO (x:=(s.length:Int)+4 - 1) (by omega) (by omega),Xwp (by omega),dO (by omega) (by omega)];omega
theorem IB (m:Nat):dA m [Xxx .u32 0]=ak (bH m 0):=by
 unfold dA ak bH
 induction m with
 |zero=>rfl
 |succ m ih=>
  rw [Xz5,Xz8,ih,Xw2,Xq5,Xq5];simp
theorem sw (n:Nat):δ (n:Int)=n:=by omega
theorem L_ (s:List UInt8):aj (s.drop (s.length - 0))=0:=by simp [aj]
theorem NW (s:List UInt8) (hs:s.length<2^40):dA (δ (γ .i64 (Xxb (γ .i64 ((γ .i64 ((s.length:Int)+(4:Int))) - (1:Int))) (4:Int)))) [Xxx .u32 0]=ak (bH ((s.length+3) / 4) (aj (s.drop (s.length - 0)))):=by
 rw [CX s hs,sw,IB,L_]
theorem JQ (s:List UInt8):aj (s.drop (s.length - s.length))=aj s:=by simp
theorem acR (s:List UInt8) (hs:s.length<2^40) (h0:(decide ((0:Int)<=(γ .i64 (Xxb (γ .i64 ((γ .i64 ((((θ s):Nat):Int)+(4:Int))) - (1:Int))) (4:Int)))))=true) (a:(decide ((γ .i64 (Xxb (γ .i64 ((γ .i64 ((((θ s):Nat):Int)+(4:Int))) - (1:Int))) (4:Int)))=(γ .i64 (Xxb (γ .i64 ((γ .i64 ((((θ s):Nat):Int)+(4:Int))) - (1:Int))) (4:Int)))))=true) (b:(decide ((γ .i64 (Xxb (γ .i64 ((γ .i64 ((((θ s):Nat):Int)+(4:Int))) - (1:Int))) (4:Int)))<=(1099511627776:Int)))=true):CO 164 [.str s] (.ret (.sl (ak (digs (aj s))) (digs (aj s)).length true)):=pK [0] 0 0 (.c h0 (.c a (.c b (.n 1 .nil)))) (.c (by rw [Pr];exact PE s hs:CO 186 [.sl (τ (((s.length+3) / 4)*1) (ak (bH ((s.length+3) / 4) (aj s)))) ((s.length+3) / 4) true] (.ret (.sl (ak (digs (aj s))) (digs (aj s)).length true))) (.l (by rw [NW s hs,CX s hs,sw,<- JQ s];exact aB.blk (λnt c=>RT c s hs s.length 0 (by omega)) (by simp) rfl (aD.of ⟨rfl,rfl,rfl,rfl,trivial⟩) (aD.of ⟨rfl,trivial⟩):LB 38 0 f164 (UC (.str s) (.nilS) (δ (γ .i64 (Xxb (γ .i64 ((γ .i64 ((((θ s):Nat):Int)+(4:Int))) - (1:Int))) (4:Int)))) (θ s) (dA (δ (γ .i64 (Xxb (γ .i64 ((γ .i64 ((((θ s):Nat):Int)+(4:Int))) - (1:Int))) (4:Int)))) [.int .u32 0])) (.normal) (wi ((s.length+3) / 4) (ak (bH ((s.length+3) / 4) (aj s))))) .nil))
theorem pL (s:List UInt8) (hs:s.length<2^40):CO 164 [.str s] (.ret (.sl (ak (digs (aj s))) (digs (aj s)).length true)):=
 acR s hs (by rw [CX s hs];exact Yq0 (by omega)) (Yq0 rfl) (by rw [CX s hs];exact Yq0 (by omega))
theorem F4 {nt:Nat} (i:43<=nt) (b a:List AV) (n d:Nat) (e g:Bool) (k:Int) (h0:lit true (decide ((Γ (η (ε ((δ k)*1) b) .dead))<(Γ (η (ε ((δ k)*1) a) .dead))))=true) (f:(chk (.int .u32) (η (ε ((δ k)*1) a) .dead))=true) (c:(decide ((0:Int)<=k))=true) (l:(decide (k<(d:Int)))=true) (h:(chk (.int .u32) (η (ε ((δ k)*1) b) .dead))=true) (h5:(decide (k<(n:Int)))=true) (j:lit true (decide ((0:Int)<=k))=true):ψ nt f213 (Dk (.sl b n e) (.sl a d g) k) (.ret) (qT (ω (-1))):=pJ 213 [] 2 3 (.c h0 (.c f (.c c (.c l (.c h (.c c (.c h5 (.c j .nil)))))))) (.nil) i
theorem F5 {nt:Nat} (j:43<=nt) (b a:List AV) (n f:Nat) (h i:Bool) (k:Int) (h0:lit true (decide ((Γ (η (ε ((δ k)*1) a) .dead))<(Γ (η (ε ((δ k)*1) b) .dead))))=true) (d:(chk (.int .u32) (η (ε ((δ k)*1) a) .dead))=true) (c:(decide ((0:Int)<=k))=true) (g:(decide (k<(f:Int)))=true) (e:(chk (.int .u32) (η (ε ((δ k)*1) b) .dead))=true) (h5:(decide (k<(n:Int)))=true) (l:lit false (decide ((Γ (η (ε ((δ k)*1) b) .dead))<(Γ (η (ε ((δ k)*1) a) .dead))))=true) (h7:lit true (decide ((0:Int)<=k))=true):ψ nt f213 (Dk (.sl b n h) (.sl a f i) k) (.ret) (qT (ω 1)):=pJ 213 [] 3 5 (.c h0 (.c d (.c c (.c g (.c e (.c c (.c h5 (.c l (.c d (.c c (.c g (.c e (.c c (.c h5 (.c h7 .nil))))))))))))))) (.nil) j
theorem F6 {nt:Nat} (j:43<=nt) (b a:List AV) (n d:Nat) (e g:Bool) (k:Int) (h0:lit false (decide ((Γ (η (ε ((δ k)*1) a) .dead))<(Γ (η (ε ((δ k)*1) b) .dead))))=true) (f:(chk (.int .u32) (η (ε ((δ k)*1) a) .dead))=true) (c:(decide ((0:Int)<=k))=true) (i:(decide (k<(d:Int)))=true) (h:(chk (.int .u32) (η (ε ((δ k)*1) b) .dead))=true) (h5:(decide (k<(n:Int)))=true) (l:lit false (decide ((Γ (η (ε ((δ k)*1) b) .dead))<(Γ (η (ε ((δ k)*1) a) .dead))))=true) (h7:lit true (decide ((0:Int)<=k))=true):ψ nt f213 (Dk (.sl b n e) (.sl a d g) k) (.normal) (Dk (.sl b n e) (.sl a d g) (γ .i64 (k - (1:Int)))):=pJ 213 [] 3 1 (.c h0 (.c f (.c c (.c i (.c h (.c c (.c h5 (.c l (.c f (.c c (.c i (.c h (.c c (.c h5 (.c h7 .nil))))))))))))))) (.nil) j
theorem F7 {nt:Nat} (e:43<=nt) (c b:List AV) (n f:Nat) (a d:Bool) (k:Int) (h0:lit false (decide ((0:Int)<=k))=true):ψ nt f213 (Dk (.sl c n a) (.sl b f d) k) (.exit 0) tW:=pJ 213 [] 1 0 (.c h0 .nil) (.nil) e
def oz (a b:List Nat):Nat->Int
 |0=>0
 |k+1=>if a.getD k 0<b.getD k 0 then -1 else if b.getD k 0<a.getD k 0 then 1 else oz a b k
def YI (a b:List Nat) (na nb:Bool) (k:Nat):St:=(Dk (.sl (ak a) a.length na) (.sl (ak b) b.length nb) ((k:Int) - 1))
def Vp (r:Int):St:=⟨if r=0 then [] else [(4,ω r)],[],.dead,[]⟩
def LZ (r:Int):a_:=if r=0 then .exit 0 else .ret
theorem Dq {l:List Nat} {k:Nat} (h:k<l.length):η (ε (k*1) (ak l)) .dead= .int .u32 ((l.getD k 0:Nat):Int):=by
 rw [kL,Xqi,μ];unfold ak;rw [Xqx,μ,ν h];rfl
theorem xR {nt:Nat} (f:43<=nt) (a b:List Nat) (c e:Bool) (m:a.length=b.length) (s:a.length<2^40):∀ (k:Nat),k<=a.length->aB prog ap [] nt (af 0 (am f213)) LZ (YI a b c e) Vp k (oz a b k)
 |0,_=>by
  refine .done ?_;exact F7 f (ak a) (ak b) a.length b.length c e (((0:Nat):Int) - 1) (by decide)
 | k +1,hk=>by
  have j:(((k+1:Nat):Int) - 1)=(k:Int):=by omega
  have t:δ (k:Int)=k:=by omega
  have q:=Dq (l:=a) (k:=k) (by omega);have u:=Dq (l:=b) (k:=k) (by omega);have d:decide ((0:Int)<=(k:Int))=true:=Yq0 (by omega);have i:decide ((k:Int)<(a.length:Int))=true:=Yq0 (by omega);have o:decide ((k:Int)<(b.length:Int))=true:=Yq0 (by omega);have g:=F4 f (ak a) (ak b) a.length b.length c e (k:Int);have h:=F5 f (ak a) (ak b) a.length b.length c e (k:Int);have n:=F6 f (ak a) (ak b) a.length b.length c e (k:Int);rw [t,q,u] at g h n;simp only [Γ] at g h n;simp only [oz];by_cases h1:a.getD k 0<b.getD k 0
  .rw [if_pos h1];refine .done ?_;have:=g (by simp only [lit];exact Yq0 (by omega)) rfl d o rfl i (by simp only [lit];exact d);show ag _ _ _ _ _ ⟨[_,_,(5,ω (((k+1:Nat):Int) - 1))],[],.dead,[]⟩ _ _;rw [j];exact this
  .rw [if_neg h1];have p:lit false (decide (((a.getD k 0:Nat):Int)<((b.getD k 0:Nat):Int)))=true:=by
    simp only [lit,Xqt];exact Yq1 (by omega)
   by_cases h2:b.getD k 0<a.getD k 0
   .rw [if_pos h2];refine .done ?_;have:=h (by simp only [lit];exact Yq0 (by omega)) rfl d o rfl i p (by simp only [lit];exact d);show ag _ _ _ _ _ ⟨[_,_,(5,ω (((k+1:Nat):Int) - 1))],[],.dead,[]⟩ _ _;rw [j];exact this
   .rw [if_neg h2];refine .next ?_ (xR f a b c e m s k (by omega))
    have r:lit false (decide (((b.getD k 0:Nat):Int)<((a.getD k 0:Nat):Int)))=true:=by
     simp only [lit,Xqt];exact Yq1 (by omega)
    have:=n r rfl d o rfl i p (by simp only [lit];exact d);rw [dO (by omega) (by omega)] at this;show ag _ _ _ _ _ ⟨[_,_,(5,ω (((k+1:Nat):Int) - 1))],[],.dead,[]⟩ _ _;rw [j];exact this
theorem Ei {n:Nat} (h:n<2^40):γ .i64 ((n:Int) - (1:Int))=(n:Int) - 1:=dO (by omega) (by omega)
abbrev VaQ (a:List Nat) (b:Bool) (c:List Nat) (d:Bool):List AV:=[.sl (ak a) a.length b,.sl (ak c) c.length d]
theorem Vm (a b:List Nat) (c e:Bool) (h0:lit true (decide ((a.length:Int)<(b.length:Int)))=true) (d:lit true (!((a.length:Int)==(b.length:Int)))=true):CO 213 (VaQ a c b e) (.ret (ω (-1))):=pK [0] 2 3 (.c h0 (.c d .nil)) (.nil)
theorem Vn (a b:List Nat) (c e:Bool) (h0:lit false (decide ((a.length:Int)<(b.length:Int)))=true) (d:lit true (!((a.length:Int)==(b.length:Int)))=true):CO 213 (VaQ a c b e) (.ret (ω 1)):=pK [0] 2 1 (.c h0 (.c d .nil)) (.nil)
theorem Vo (a b:List Nat) (c e:Bool) (f:a.length<2^40) (d:a.length=b.length) (g:oz a b a.length=0) (h0:lit false (!((a.length:Int)==(b.length:Int)))=true):CO 213 (VaQ a c b e) (.ret (ω 0)):=pK [0] 1 0 (.c h0 .nil) (.l (by exact aB.blk (λnt h=>xR h a b c e d f _ (κ _)) (by simp [LZ,g]) (by simp [LZ,g,nJ]) (aD.of ⟨rfl,rfl,congrArg _ (Ei f),trivial⟩) (aD.of trivial):LB 43 0 f213 (UD (.sl (ak a) a.length c) (.sl (ak b) b.length e) (γ .i64 ((a.length:Int) - (1:Int))) (!((a.length:Int)==(b.length:Int)))) (.normal) tW) .nil)
theorem Vq (a b:List Nat) (c f:Bool) (g:a.length<2^40) (e:a.length=b.length) (d:¬ oz a b a.length=0) (h0:lit false (!((a.length:Int)==(b.length:Int)))=true):CO 213 (VaQ a c b f) (.ret (ω (oz a b a.length))):=pK [0] 1 0 (.c h0 .nil) (.l (by exact aB.blk (λnt h=>xR h a b c f e g _ (κ _)) (by simp [LZ,d]) (by simp [LZ,d,nJ]) (aD.of ⟨rfl,rfl,congrArg _ (Ei g),trivial⟩) (aD.of ⟨by rw [if_neg d];rfl,trivial⟩):LB 43 0 f213 (UD (.sl (ak a) a.length c) (.sl (ak b) b.length f) (γ .i64 ((a.length:Int) - (1:Int))) (!((a.length:Int)==(b.length:Int)))) (.ret) (qT (ω (oz a b a.length)))) .nil)
def Qh (a b:List Nat):Int:=if a.length<b.length then -1 else if b.length<a.length then 1 else oz a b a.length
theorem rM (a b:List Nat) (d e:Bool) (f:a.length<2^40):CO 213 [.sl (ak a) a.length d,.sl (ak b) b.length e] (.ret (ω (Qh a b))):=by
 unfold Qh;by_cases h1:a.length<b.length
 .rw [if_pos h1];exact Vm a b d e (by simp only [lit];exact Yq0 (by omega)) (by simp [lit];omega)
 .rw [if_neg h1];by_cases h2:b.length<a.length
  .rw [if_pos h2];exact Vn a b d e (by simp only [lit,Xqt];exact Yq1 (by omega)) (by simp [lit];omega)
  .rw [if_neg h2];have c:a.length=b.length:=by omega
   have g:lit false (!((a.length:Int)==(b.length:Int)))=true:=by simp [lit,c]
   by_cases hz:oz a b a.length=0
   .rw [hz];exact Vo a b d e f c hz g
   .exact Vq a b d e f c hz g
theorem pO (m n:Nat):bH (m+1) n=bH m n++ [n / 2^(32*m) % 2^32]:=by
 unfold bH;rw [Xw2,Xq5];rfl
theorem oZ (n:Nat):∀ (k:Nat),(digs n).getD k 0=n / 2^(32*k) % 2^32:=by
 have key:∀ (m k:Nat),(cM (bH m n)).getD k 0=if k<m then n / 2^(32*k) % 2^32 else 0:=by
  intro m
  induction m with
  |zero=>intro k;simp [bH,cM]
  | succ m ih=>
   intro k;rw [pO,kZ];by_cases hd:n / 2^(32*m) % 2^32=0
   .rw [if_pos hd,ih];by_cases hk:k<m
    .rw [if_pos hk,if_pos (by omega)]
    .rw [if_neg hk];by_cases hkm:k=m
     .subst hkm;rw [if_pos (by omega),hd]
     .rw [if_neg (by omega)]
   .rw [if_neg hd,μ];by_cases hk:k<m
    .rw [Xxe (by rw [aL];exact hk),m_ hk,if_pos (by omega)];rfl
    .by_cases hkm:k=m
     .subst hkm;rw [Xj5 (by rw [aL];exact κ _),aL,Xz7,if_pos (by omega)];rfl
     .rw [Xq8 (by rw [ξ,aL];simp;omega),if_neg (by omega)];rfl
 intro k;unfold digs;rw [key];by_cases hk:k<n
 .rw [if_pos hk]
 .rw [if_neg hk];have:n<2^(32*k):=υ (jl n) (Θ (by omega) (by omega));rw [Xjr this]
theorem PA (l:List Nat):(cM l).length<=l.length:=by
 unfold cM;rw [Xzs];have:=(Xwe (· ==0) (l:=l.reverse)).length_le;simpa using this
theorem gD {n m:Nat} (h:n<2^(32*m)):(digs n).length<=m:=by
 rw [<- wR h];have:=PA (bH m n);rwa [aL] at this
theorem gU {n m:Nat} (h:(digs n).length<=m):n<2^(32*m):=by
 have key:∀ d,n<2^(32*(m+d))->n<2^(32*m):=by
  intro d
  induction d with
  |zero=>exact λh=>h
  | succ d ih=>
   intro b;refine ih ?_;have c:=oZ n (m+d);rw [μ,Xq8 (by omega)] at c;have e:n / 2^(32*(m+d))<2^32:=by
    rw [Xq0 (Xqw _),<- Xxs,show 32+32*(m+d)=32*(m+(d+1)) by omega];exact b
   have a:n / 2^(32*(m+d)) % 2^32=0:=c.symm;rw [χ e] at a;rcases Nat.div_eq_zero_iff.1 a with h2|h2
   .have:=Xqw (32*(m+d));omega
   .exact h2
 refine key n ?_;exact υ (jl n) (Θ (by omega) (by omega))
def jr (x y:Nat):Int:=if x<y then -1 else if y<x then 1 else 0
theorem uO (x k:Nat):x % 2^(32*(k+1))=x / 2^(32*k) % 2^32*2^(32*k)+x % 2^(32*k):=by
 rw [show 32*(k+1)=32*k+32 by omega,Xxs,Nat.mod_mul];rw [Xja,Xqj (2^(32*k))]
theorem xP (x y:Nat):∀ k,oz (digs x) (digs y) k=jr (x % 2^(32*k)) (y % 2^(32*k))
 |0=>by simp [oz,jr,Yjj]
 | k +1=>by
  simp only [oz,oZ];rw [xP x y k,uO x k,uO y k];have f:=Xq4 x (Xqw (32*k));have g:=Xq4 y (Xqw (32*k));generalize x / 2^(32*k) % 2^32=a;generalize y / 2^(32*k) % 2^32=b;generalize x % 2^(32*k)=c at f ⊢;generalize y % 2^(32*k)=d at g ⊢;generalize 2^(32*k)=M at f g ⊢;unfold jr;by_cases h1:a<b
  .rw [if_pos h1];have e:a*M+M<=b*M:=by
    have:=Xqz M (show a+1<=b from h1);rw [Xxy,Xwj] at this;exact this
   rw [if_pos (by omega)]
  .rw [if_neg h1];by_cases e:b<a
   .rw [if_pos e];have h:b*M+M<=a*M:=by
     have:=Xqz M (show b+1<=a from e);rw [Xxy,Xwj] at this;exact this
    rw [if_neg (by omega),if_pos (by omega)]
   .rw [if_neg e];have:a=b:=by omega
    subst this;simp only [Nat.add_lt_add_iff_left]
theorem ut (x y:Nat):Qh (digs x) (digs y)=jr x y:=by
 have c:=gU (n:=x) (κ _);have b:=gU (n:=y) (κ _);unfold Qh;by_cases h1:(digs x).length<(digs y).length
 .rw [if_pos h1];have a:¬ y<2^(32*(digs x).length):=λh=>by have:=gD h;omega
  unfold jr;rw [if_pos (by omega)]
 .rw [if_neg h1];by_cases a:(digs y).length<(digs x).length
  .rw [if_pos a];have e:¬ x<2^(32*(digs y).length):=λh=>by have:=gD h;omega
   unfold jr;rw [if_neg (by omega),if_pos (by omega)]
  .rw [if_neg a,xP];have d:(digs x).length=(digs y).length:=by omega
   rw [χ c,χ (by rw [d];exact b)]
theorem xV {s:List UInt8} (hs:s.length<2^40):(digs (aj s)).length<2^40:=by
 have:=gD (vn s);omega
theorem Ya (s t:List UInt8) (hs:s.length<2^40) (a:t.length<2^40):CO 185 [.str s,.str t] (.ret (ω (jr (aj s) (aj t)))):=pK [] 0 0 .nil (.c (by rw [<- ut];exact rM _ _ _ _ (xV hs):CO 213 [.sl (ak (digs (aj s))) (digs (aj s)).length true,.sl (ak (digs (aj t))) (digs (aj t)).length true] (.ret (ω (jr (aj s) (aj t))))) (.c (pL t a) (.c (pL s hs) .nil)))
theorem NG (s:List UInt8) (h0:lit true (s== [])=true):CO 162 [.str s] (.ret (.bool true)):=pK [] 1 1 (.c h0 .nil) (.nil)
abbrev VaK (a:List UInt8):Bool:=decide ((0:Int)<(((θ a):Nat):Int))
theorem NH (s:List UInt8) (h0:(VaK s)=true) (a:lit false (s== [])=true):CO 162 [.str s] (.ret (.bool (!(((Xxr (Xje s 0 0):Nat):Int)==(0:Int))))):=pK [] 1 0 (.k 1 h0 (.c a .nil)) (.nil)
theorem GQ {nt:Nat} (f:37<=nt) (a cs:List AV) (L M:Nat) (b:Bool) (n k:Int) (h0:(Xqr (((0+(δ (γ .i64 ((γ .i64 ((M:Int) - (1:Int))) - k))))*1)+1) (θ cs))=true) (c:(decide ((0:Int)<=(γ .i64 ((γ .i64 ((M:Int) - (1:Int))) - k))))=true) (d:(decide ((γ .i64 ((γ .i64 ((M:Int) - (1:Int))) - k))<(M:Int)))=true) (h:(decide ((0:Int)<=(γ .i64 ((8:Int)*(Xxp k (4:Int))))))=true) (e:(chk (.int .u32) (η (ε ((δ (γ .i64 (Xxb k (4:Int))))*1) a) .dead))=true) (h5:(decide ((0:Int)<=(γ .i64 (Xxb k (4:Int)))))=true) (g:(decide ((γ .i64 (Xxb k (4:Int)))<(L:Int)))=true) (h7:lit true (decide (k<n))=true):ψ nt f163 (tV (.sl a L b) M n k cs) (.normal) (tV (.sl a L b) M n (γ .i64 (k+(1:Int))) (τ ((0+(δ (γ .i64 ((γ .i64 ((M:Int) - (1:Int))) - k))))*1) cs++ [.int .u8 (γ .u8 (Xq1 (Γ (η (ε ((δ (γ .i64 (Xxb k (4:Int))))*1) a) .dead)) (2^(min (δ (γ .i64 ((8:Int)*(Xxp k (4:Int))))) (Φ .u32)))))]++ε (((0+(δ (γ .i64 ((γ .i64 ((M:Int) - (1:Int))) - k))))*1)+1) cs)):=pJ 163 [] 1 1 (.c h0 (.c c (.c d (.c h (.k 1 e (.c h5 (.c g (.k 1 h7 .nil)))))))) (.nil) f
theorem GR {nt:Nat} (c:37<=nt) (a cs:List AV) (L M:Nat) (b:Bool) (n k:Int) (h0:lit false (decide (k<n))=true):ψ nt f163 (tV (.sl a L b) M n k cs) (.exit 0) (wi M cs):=pJ 163 [] 1 0 (.c h0 .nil) (.nil) c
theorem Hs {nt:Nat} (e:17<=nt) (s:List UInt8) (c:Int) (h0:(decide ((1:Int)<=(((θ s):Nat):Int)))=true) (a:(decide ((((θ s):Nat):Int)<=(((θ s):Nat):Int)))=true) (b:lit true (((Xxr (Xje s 0 0):Nat):Int)==c)=true) (f:(VaK s)=true) (d:lit true (VaK s)=true):ψ nt f205 (oN s (.int .u8 c)) (.normal) (oN (ε 1 (τ (δ (((θ s):Nat):Int)) s)) (.int .u8 c)):=pJ 205 [] 2 3 (.k 1 h0 (.c a (.c b (.k 1 f (.c d .nil))))) (.nil) e
theorem Ht {nt:Nat} (d:17<=nt) (s:List UInt8) (c:Int) (h0:lit false (((Xxr (Xje s 0 0):Nat):Int)==c)=true) (a:(VaK s)=true) (b:lit true (VaK s)=true):ψ nt f205 (oN s (.int .u8 c)) (.exit 0) (iw (.str s)):=pJ 205 [] 2 1 (.c h0 (.k 1 a (.c b .nil))) (.nil) d
theorem Hu {nt:Nat} (a:17<=nt) (s:List UInt8) (c:Int) (h0:lit false (VaK s)=true):ψ nt f205 (oN s (.int .u8 c)) (.exit 0) (iw (.str s)):=pJ 205 [] 2 0 (.k 1 h0 .nil) (.nil) a
def adp (c:UInt8) (s:List UInt8):St:=(oN s (.int .u8 (c.toNat:Int)))
def ab7 (s:List UInt8):St:=(iw (.str s))
theorem Fq {nt:Nat} (d:17<=nt) (c:UInt8):∀ (s:List UInt8),aB prog ap [] nt (af 0 (am f205)) (λ_=> .exit 0) (adp c) ab7 s (s.dropWhile (· ==c))
 | []=> .done (Hu d [] (c.toNat:Int) (by simp [lit]))
 | b::r=>by
  have a:decide ((0:Int)<(((b::r).length:Nat):Int))=true:=Yq0 (by simp only [ο];omega);have e:decide ((1:Int)<=(((b::r).length:Nat):Int))=true:=Yq0 (by simp only [ο];omega);have g:decide ((((b::r).length:Nat):Int)<=(((b::r).length:Nat):Int))=true:=Yq0 (Int.le_refl _);rw [Xx5];by_cases hb:b=c
  .subst hb;rw [if_pos (by simp)];refine .next ?_ (Fq d b r)
   have:=Hs d (b::r) (b.toNat:Int) e g (by simp [lit]) a (by simp only [lit];exact a);rw [show δ (((b::r).length:Nat):Int)=(b::r).length by omega,Xxc] at this;exact this
  .rw [if_neg (by simpa using hb)];refine .done ?_;have f:¬ (b.toNat:Int)=(c.toNat:Int):=λh=>hb (UInt8.toNat_inj.1 (by omega))
   exact Ht d (b::r) (c.toNat:Int) (by simp [lit];omega) a (by simp only [lit];exact a)
def lg (l:List Nat):List AV:=l.map λ(d:Nat)=>Xxx .u8 (d:Int)
def lr (m k x:Nat):List Nat:=(Xqm m).map λi=>if m - k<=i then x / 2^(8*(m - 1 - i)) % 256 else 0
theorem fL (m k x:Nat):(lr m k x).length=m:=by simp [lr]
theorem EE {m k x i:Nat} (h:i<m):(lr m k x)[i]? =some (if m - k<=i then x / 2^(8*(m - 1 - i)) % 256 else 0):=by simp [lr,h]
theorem NP {m k x:Nat} (a:k<m):lr m (k+1) x=(lr m k x).set (m - 1 - k) (x / 2^(8*k) % 256):=by
 apply Xwl;intro i;by_cases hi:i<m
 .rw [EE hi,Xwm];by_cases h:m - 1 - k=i
  .rw [if_pos (show m - (k+1)<=i by omega),if_pos h,if_pos (by rw [fL];omega),show m - 1 - i=k by omega]
  .rw [if_neg h,EE hi];by_cases h2:m - k<=i
   .rw [if_pos h2,if_pos (by omega)]
   .rw [if_neg h2,if_neg (by omega)]
 .rw [Xq8 (by rw [fL];omega),Xq8 (by rw [Xxl,fL];omega)]
theorem ay (l:List Nat):(lg l).length=l.length:=by simp [lg]
theorem XC (l:List Nat) (i:Nat) (x:Nat) (a:i<l.length):τ i (lg l)++ [Xxx .u8 (x:Int)]++ε (i+1) (lg l)=lg (l.set i x):=by
 unfold lg;rw [<- Xw1,<- Xjy,Xjf,if_pos a];simp
theorem Tl (x:Nat):γ .u8 (x:Int)=((x % 256:Nat):Int):=by
 show (if (false && decide ((x:Int) % 2^8≥2^7))=true then (x:Int) % 2^8 - 2^8 else (x:Int) % 2^8)=_;simp only [Xx4,Xqy,if_false];omega
theorem Qd (x k:Nat):x / 2^(32*(k / 4)) % 2^32 / 2^(8*(k % 4)) % 256=x / 2^(8*k) % 256:=by
 have b:8*k=32*(k / 4)+8*(k % 4):=by omega
 rw [b,Xxs,<- Xwf];generalize x / 2^(32*(k / 4))=y;have a:k % 4<4:=by omega
 generalize k % 4=r at a
 match r,a with
 |0,_=>omega
 |1,_=>omega
 |2,_=>omega
 |3,_=>omega
def ZN (xs:List AV) (L:Nat) (nn:Bool) (x M k:Nat):St:=(tV (.sl xs L nn) M (M:Int) (k:Int) (lg (lr M k x)))
def WK (x M k:Nat):St:=(wi M (lg (lr M k x)))
theorem NN {nt:Nat} (e:37<=nt) (x:Nat) (c:Bool) (s:(digs x).length<2^40):∀ (d k:Nat),k+d=4*(digs x).length->aB prog ap [] nt (af 0 (am f163)) (λ_=> .exit 0) (ZN (ak (digs x)) (digs x).length c x (4*(digs x).length)) (WK x (4*(digs x).length)) k (4*(digs x).length):=by
 intro d
 induction d with
 |zero=>
  intro k p;have:k=4*(digs x).length:=by omega
  subst this;exact .done (GR e _ _ _ _ c _ _ (by simp [lit]))
 | succ d ih=>
  intro k p;refine .next ?_ (ih (k+1) (by omega))
  generalize t:4*(digs x).length=M at*
  have a:k<M:=by omega
  have n:k / 4<(digs x).length:=by omega
  have m:γ .i64 (Xxb (k:Int) 4)=((k / 4:Nat):Int):=by
   rw [Xwp (by omega),dO (by omega) (by omega)];omega
  have r:Xxp (k:Int) 4=((k % 4:Nat):Int):=by
   rw [Xvs (by omega)];omega
  have f:γ .i64 ((8:Int)*((k % 4:Nat):Int))=((8*(k % 4):Nat):Int):=by
   rw [dO (by omega) (by omega)];omega
  have h:γ .i64 (γ .i64 ((M:Int) - 1) - (k:Int))=((M - 1 - k:Nat):Int):=by
   have o:γ .i64 ((M:Int) - 1)=((M - 1:Nat):Int):=by
    rw [dO (by omega) (by omega)];omega
   rw [o,dO (by omega) (by omega)];omega
  have g:(0+δ ((M - 1 - k:Nat):Int))*1=M - 1 - k:=by omega
  have q:γ .i64 ((k:Int)+1)=((k+1:Nat):Int):=by
   rw [dO (by omega) (by omega)];omega
  have i:min (δ ((8*(k % 4):Nat):Int)) (Φ .u32)=8*(k % 4):=by
   show min (δ ((8*(k % 4):Nat):Int)) 32=_;omega
  have j:δ ((k / 4:Nat):Int)=k / 4:=by omega
  have hcell:=Dq (l:=digs x) n;rw [oZ] at hcell;have hbody:=GQ e (ak (digs x)) (lg (lr M k x)) (digs x).length M c (M:Int) (k:Int);rw [m,r,f,h,g,q,i,j,hcell] at hbody;simp only [Γ] at hbody;have b:Xq1 ((x / 2^(32*(k / 4)) % 2^32:Nat):Int) (2^(8*(k % 4)))=((x / 2^(32*(k / 4)) % 2^32 / 2^(8*(k % 4)):Nat):Int):=by
   have:((2:Int)^(8*(k % 4)))=((2^(8*(k % 4)):Nat):Int):=by simp
   rw [this,Xvt _ (Xvv _)];exact (Yqs _ _).symm
  rw [b,Tl,Qd,XC _ _ _ (by rw [fL];omega),<- NP a] at hbody;exact hbody (by rw [ay,fL];exact Xqc (by omega)) (Yq0 (by omega)) (Yq0 (by omega)) (Yq0 (by omega)) rfl (Yq0 (by omega)) (Yq0 (by omega)) (Yq0 (by omega))
theorem ab8 (s:List UInt8) (c:UInt8):CO 205 [.str s,.int .u8 (c.toNat:Int)] (.ret (.str (s.dropWhile (· ==c)))):=pK [0] 0 0 .nil (.l (aB.blk (λnt a=>Fq a c s) (by simp) rfl (aD.of ⟨rfl,rfl,trivial⟩) (aD.of ⟨rfl,trivial⟩):LB 17 0 f205 ⟨[(0,.str s),(1,.int .u8 (c.toNat:Int)),(4,.str []),(13,.dead)],[],.dead,[]⟩ (.normal) (iw (.str (s.dropWhile (· ==c))))) .nil)
theorem FF (s:List UInt8) (h0:lit true (s== [])=true):CO 187 [.str s,.str [0]] (.ret (.str s)):=pK [] 2 3 (.k 1 h0 .nil) (.nil)
theorem FG (s:List UInt8) (h0:lit false (s== [])=true):CO 187 [.str s,.str [0]] (.ret (.str (s.dropWhile (· ==0)))):=pK [] 4 12 (.k 7 h0 .nil) (.c (ab8 s 0) .nil)
theorem DH (s:List UInt8):CO 187 [.str s,.str [0]] (.ret (.str (s.dropWhile (· ==0)))):=by
 by_cases h:s= []
 .subst h;exact FF [] rfl
 .exact FG s (by simp [lit,h])
def h_ (m x:Nat):List UInt8:=(Xqm m).map λi=>Xql (x / 2^(8*(m - 1 - i)) % 256)
def ae (x:Nat):List UInt8:=(h_ (4*(digs x).length) x).dropWhile (· ==0)
theorem CU (x:Nat) (h:(digs x).length<2^40):γ .i64 ((4:Int)*(((digs x).length:Nat):Int))=((4*(digs x).length:Nat):Int):=by
 rw [dO (by omega) (by omega)];omega
theorem WU (m x:Nat):dA m [Xxx .u8 0]=lg (lr m 0 x):=by
 have e:lr m 0 x=(Xqm m).map λ_=>0:=by
  unfold lr;apply Xjt;intro i a;rw [if_neg (by have:=List.mem_range.1 a;omega)]
 rw [e];unfold dA lg
 induction m with
 |zero=>rfl
 | succ m ih=>
  rw [Xz5,Xz8,Xw2,Xq5,Xq5];have b:lr m 0 x=(Xqm m).map λ_=>0:=by
   unfold lr;apply Xjt;intro i a;rw [if_neg (by have:=List.mem_range.1 a;omega)]
  rw [ih b];simp
theorem Kr (m x:Nat):Xz0 (λc=>Xql (δ (Γ c))) (lg (lr m m x))=h_ m x:=by
 unfold lg lr h_;rw [Xzd,Xzd];apply Xjt;intro i _;simp only [Xv8,Xz7,Xqo,if_true,Γ];congr 1
theorem Va (l:List Nat):Xz9 (lg l) (chk (.int .u8))=true:=by
 unfold lg;rw [List.all_map];exact List.all_eq_true.2 λx _=>rfl
theorem zU (m k x:Nat):τ (m*1) (lg (lr m k x))=lg (lr m k x):=by
 rw [Xqi,Xqa (by rw [ay,fL];exact κ _)]
abbrev Vaj (a:Nat):gy:= .ret (.str (ae a))
theorem NR (l:List Nat) (x:Nat) (a:Bool) (g:cM l=digs x) (f:l.length<2^40) (hd:(digs x).length<2^40) (h0:(Xqk (θ (τ ((4*(digs x).length)*1) (lg (lr (4*(digs x).length) (4*(digs x).length) x)))) (4*(digs x).length))=true) (b:(Xz9 (τ ((4*(digs x).length)*1) (lg (lr (4*(digs x).length) (4*(digs x).length) x))) (chk (.int .u8)))=true) (d:(decide ((0:Int)<=(γ .i64 ((4:Int)*(((digs x).length:Nat):Int)))))=true) (i:(decide ((γ .i64 ((4:Int)*(((digs x).length:Nat):Int)))=(γ .i64 ((4:Int)*(((digs x).length:Nat):Int)))))=true) (e:(decide ((γ .i64 ((4:Int)*(((digs x).length:Nat):Int)))<=(1099511627776:Int)))=true):CO 163 [.sl (ak l) l.length a] (Vaj x):=pK [0] 0 0 (.c h0 (.c b (.c d (.c i (.c e .nil))))) (.c (by rw [zU,Kr];exact DH _:CO 187 [.str (Xz0 (λc=>Xql (δ (Γ c))) (τ ((4*(digs x).length)*1) (lg (lr (4*(digs x).length) (4*(digs x).length) x)))),.str [0]] (.ret (.str (ae x)))) (.l (by rw [CU x hd,sw,WU _ x];exact aB.blk (λnt h=>NN h x a hd (4*(digs x).length) 0 (by omega)) (by simp) rfl (aD.of ⟨rfl,rfl,rfl,rfl,trivial⟩) (aD.of ⟨rfl,trivial⟩):LB 37 0 f163 (UC (.sl (ak (digs x)) (digs x).length a) (.str []) (δ (γ .i64 ((4:Int)*(((digs x).length:Nat):Int)))) (δ (γ .i64 ((4:Int)*(((digs x).length:Nat):Int)))) (dA (δ (γ .i64 ((4:Int)*(((digs x).length:Nat):Int)))) [.int .u8 0])) (.normal) (wi (4*(digs x).length) (lg (lr (4*(digs x).length) (4*(digs x).length) x)))) (.c (by rw [<- g];exact Hw l a f:CO 186 [.sl (ak l) l.length a] (.ret (.sl (ak (digs x)) (digs x).length a))) .nil)))
theorem mZ (l:List Nat) (x:Nat) (a:Bool) (c:cM l=digs x) (b:l.length<2^40) (hd:(digs x).length<2^36):CO 163 [.sl (ak l) l.length a] (.ret (.str (ae x))):=
 NR l x a c b (by omega)
  (by rw [zU,ay,fL];exact Xz1 _) (by rw [zU];exact Va _)
  (by rw [CU x (by omega)];exact Yq0 (by omega)) (Yq0 rfl) (by rw [CU x (by omega)];exact Yq0 (by omega))
theorem nK (m x:Nat):h_ (m+1) x=Xql (x / 2^(8*m) % 256)::h_ m x:=by
 unfold h_;rw [Xw4,Xqf,Xzd];congr 1;apply Xjt;intro i a;simp only [Xv8];have:=List.mem_range.1 a;rw [show m+1 - 1 - (i+1)=m - 1 - i by omega]
theorem AO:∀ (m:Nat) (b x:Nat),h_ m (b*2^(8*m)+x)=h_ m x:=by
 intro m b x;unfold h_;apply Xjt;intro i a;have a:=List.mem_range.1 a;have e:8*m=(8*m - 8*(m - 1 - i) - 8)+8+8*(m - 1 - i):=by omega
 congr 1
 conv=>lhs;rw [e]
 rw [Xxs,Xxs,<- Xqv,<- Xqv,Xja,Xwi _ _ (Xqw _)];exact Xvr _ _ 256
theorem AQ:∀ (s:List UInt8),h_ s.length (aj s)=s
 | []=>rfl
 |b::r=>by
  rw [ο,nK,ga,show (256:Nat)^r.length=2^(8*r.length) by rw [Xjs],AO,AQ r];have h:=qJ r;rw [show (256:Nat)^r.length=2^(8*r.length) by rw [Xjs]] at h;have a:=b.toNat_lt;rw [Xja,Xwi _ _ (Xqw _),Xjr h,Ψ,χ (by omega)];congr 1;exact UInt8.ofNat_toNat
theorem rL (x:Nat):∀ (d m:Nat),x<2^(8*m)->(h_ (m+d) x).dropWhile (· ==0)=(h_ m x).dropWhile (· ==0)
 |0,_,_=>rfl
 |d+1,m,h=>by
  rw [show m+(d+1)=(m+d)+1 by omega,nK];have a:x<2^(8*(m+d)):=υ h (Θ (by omega) (by omega));rw [Xjr a,Xx5,if_pos (by rfl)];exact rL x d m h
theorem Ii {m x:Nat} (h:x<2^(8*m)):(h_ m x).dropWhile (· ==0)=ae x:=by
 unfold ae;have a:x<2^(8*(4*(digs x).length)):=by
  have:=gU (n:=x) (κ _);rwa [show 8*(4*(digs x).length)=32*(digs x).length by omega]
 rcases Yx3 m (4*(digs x).length) with hm|hm
 .have:=rL x (4*(digs x).length - m) m h;rw [show m+(4*(digs x).length - m)=4*(digs x).length by omega] at this;exact this.symm
 .have:=rL x (m - 4*(digs x).length) (4*(digs x).length) a;rw [show 4*(digs x).length+(m - 4*(digs x).length)=m by omega] at this;exact this
theorem yX (s:List UInt8):ae (aj s)=s.dropWhile (· ==0):=by
 have h:=qJ s;rw [show (256:Nat)^s.length=2^(8*s.length) by rw [Xjs]] at h;rw [<- Ii h,AQ]
theorem Fx:∀ (s:List UInt8),aj (s.dropWhile (· ==0))=aj s
 | []=>rfl
 | b::r=>by
  rw [Xx5];by_cases hb:b=0
  .subst hb;rw [if_pos (by rfl),Fx r,ga];simp
  .rw [if_neg (by simpa using hb)]
theorem BO:∀ (m x:Nat),x<2^(8*m)->aj (h_ m x)=x
 |0,x,h=>by simp at h;subst h;rfl
 | m+1,x,h=>by
  rw [nK,ga];have c:(h_ m x).length=m:=by simp [h_]
  have a:x / 2^(8*m)<256:=by
   rw [Xq0 (Xqw _)];have e:(2:Nat)^(8*(m+1))=256*2^(8*m):=by rw [show 8*(m+1)=8+8*m by omega,Xxs]
   rw [<- e];exact h
  have b:aj (h_ m x)=x % 2^(8*m):=by
   have e:x=x / 2^(8*m)*2^(8*m)+x % 2^(8*m):=by
    have:=Xxm x (2^(8*m));rw [Xqj] at this;omega
   conv=>lhs;rw [e]
   rw [AO];exact BO m _ (Xq4 _ (Xqw _))
  rw [c,b,χ a];have d:(Xql (x / 2^(8*m))).toNat=x / 2^(8*m):=by
   rw [UInt8.toNat_ofNat'];exact χ a
  rw [d,show (256:Nat)^m=2^(8*m) by rw [Xjs]];have:=Xxm x (2^(8*m));rw [Xqj] at this;exact this
theorem aE (x:Nat):aj (ae x)=x:=by
 unfold ae;rw [Fx];refine BO _ _ ?_;have:=gU (n:=x) (κ _);rwa [show 8*(4*(digs x).length)=32*(digs x).length by omega]
end Go.Proofs.Tryz
set_option maxRecDepth 100000
open Go
namespace AM
theorem cf {x:Int} (h: -9223372036854775808<=x) (a:x<9223372036854775808):γ .i64 x=x:=by
 show (if (true && decide (x % 2^64≥2^63))=true then x % 2^64 - 2^64 else x % 2^64)=x;by_cases hx:x % 2^64≥2^63
 .rw [if_pos (by simpa using hx)];omega
 .rw [if_neg (by simpa using hx)];omega
theorem bi {a:Nat} (h:a<9223372036854775808):γ .i64 (a:Int)=(a:Int):=cf (by omega) (by omega)
theorem iM {a b:Nat} (h:b<=a) (c:a<9223372036854775808):γ .i64 ((a:Int) - (b:Int))=((a - b:Nat):Int):=by
 rw [cf (by omega) (by omega)];omega
theorem Tk {a b:Nat} (h:a*b<9223372036854775808):γ .i64 ((a:Int)*(b:Int))=((a*b:Nat):Int):=by
 rw [<- Xkm,bi h]
theorem PH (k:IntKind) (a:k.signed=false) (x:Int):γ k x=x % 2^k.bits:=by
 show (if (k.signed && _)=true then _ else _)=_;rw [a];rfl
theorem Hy {w:Nat} {k:IntKind} (b:k.signed=false) (c:k.bits=w) (a:Nat):γ k (a:Int)=((a % 2^w:Nat):Int):=by
 rw [PH k b,c];simp
theorem XT (a:Nat):γ .u8 (a:Int)=((a % 256:Nat):Int):=Hy (w:=8) rfl rfl a
theorem nC (a:Nat):γ .u32 (a:Int)=((a % 4294967296:Nat):Int):=Hy (w:=32) rfl rfl a
theorem lu (a:Nat):γ .u64 (a:Int)=((a % 18446744073709551616:Nat):Int):=Hy (w:=64) rfl rfl a
theorem iN (a b:Nat):γ .u64 ((a:Int) - (b:Int))=(((a+(18446744073709551616 - b % 18446744073709551616)) % 18446744073709551616:Nat):Int):=by
 rw [PH .u64 rfl,show Φ .u64=64 from rfl];omega
theorem cA (a b:Nat):((a:Int)+(b:Int))=((a+b:Nat):Int):=(Int.natCast_add a b).symm
theorem xN (a b:Nat):((a:Int)*(b:Int))=((a*b:Nat):Int):=(Xkm a b).symm
theorem FT (a b:Nat):Xxb (a:Int) (b:Int)=((a / b:Nat):Int):=(Int.ofNat_tdiv a b).symm
theorem FU (a b:Nat):Xxp (a:Int) (b:Int)=((a % b:Nat):Int):=(Int.ofNat_tmod a b).symm
theorem vw (a n:Nat):((a:Int)*2^n)=((2^n*a:Nat):Int):=by rw [Xqj];simp
theorem mX {a b:Nat} (h:a<=b):min a b=a:=Xjp h
theorem Ih {a:Nat} (h:a<=64):min a (Φ .u64)=a:=Xjp h
theorem Ig {a:Nat} (h:a<=32):min a (Φ .u32)=a:=Xjp h
theorem jS:(2:Nat)^32=4294967296:=by decide
theorem Z7:(2:Nat)^63=9223372036854775808:=by decide
theorem iT (a n:Nat):Xq1 (a:Int) (2^n)=((a / 2^n:Nat):Int):=by
 have:((2:Int)^n)=((2^n:Nat):Int):=by simp
 rw [this,Xvt _ (Xvv _)];exact (Yqs _ _).symm
theorem aF (a:Nat):δ (a:Int)=a:=rfl
theorem qx {w x:Nat} (h:x<2^w):(Xqg w (x:Int)).toNat=x:=by
 rw [Xky,Yqa,χ h]
theorem Cc {w a b:Nat} (c:a<2^w) (d:b<2^w):Xxd (Xqg w (a:Int)|||Xqg w (b:Int))=a|||b:=by
 rw [Yq3,qx c,qx d]
theorem DM {w a b:Nat} (c:a<2^w) (d:b<2^w):Xxd (Xqg w (a:Int) &&& Xqg w (b:Int))=a &&& b:=by
 rw [BitVec.toNat_and,qx c,qx d]
theorem N7 {a b:Nat} (c:a<18446744073709551616) (d:b<18446744073709551616):Xxd (Xqg (Φ .u64) (a:Int)|||Xqg (Φ .u64) (b:Int))=a|||b:=Cc (w:=64) c d
theorem Z5 {a b:Nat} (c:a<4294967296) (d:b<4294967296):Xxd (Xqg (Φ .u32) (a:Int)|||Xqg (Φ .u32) (b:Int))=a|||b:=Cc (w:=32) c d
theorem Yk {a b:Nat} (c:a<18446744073709551616) (d:b<18446744073709551616):Xxd (Xqg (Φ .u64) (a:Int) &&& Xqg (Φ .u64) (b:Int))=a &&& b:=DM (w:=64) c d
theorem acv {a b:Nat} (c:a<18446744073709551616) (d:b<18446744073709551616):Xxd (Xqg (Φ .i64) (a:Int) &&& Xqg (Φ .i64) (b:Int))=a &&& b:=DM (w:=64) c d
theorem uR {a b k:Nat} (h:b<2^k):a*2^k|||b=a*2^k+b:=by
 have:=Xvc h a;rw [Yqr] at this;exact this.symm
theorem LC (a k:Nat):a &&& (2^k - 1)=a % 2^k:=Nat.and_two_pow_sub_one_eq_mod a k
theorem xI (a:Nat):a &&& 4294967295=a % 4294967296:=LC a 32
theorem dg (a b:Nat):decide ((a:Int)<=(b:Int))=decide (a<=b):=by
 by_cases h:a<=b<;>simp [h]
theorem bL (a b:Nat):decide ((a:Int)<(b:Int))=decide (a<b):=by
 by_cases h:a<b<;>simp [h]
theorem d_eq (a b:Nat):decide ((a:Int)=(b:Int))=decide (a=b):=by
 by_cases h:a=b
 .simp [h]
 .rw [Yq1 h,Yq1 (by omega)]
theorem qM (a b:Nat):((a:Int)==(b:Int))=decide (a=b):=d_eq a b
theorem eV (a b:Nat):Xqr a b=decide (a<=b):=by
 by_cases h:a<=b
 .rw [Yq0 h];exact Xqc h
 .rw [Yq1 h];cases c:Xqr a b with
  |false=>rfl
  |true=>exact absurd (Nat.le_of_ble_eq_true c) h
theorem NI (a b:Nat):Xqk a b=decide (a=b):=by
 by_cases h:a=b
 .rw [Yq0 h,h];exact Xz1 _
 .rw [Yq1 h];cases c:Xqk a b with
  |false=>rfl
  |true=>exact absurd (Nat.eq_of_beq_eq_true c) h
theorem bX (b:Bool):lit true b=b:=rfl
theorem dI (b:Bool):lit false b= !b:=rfl
theorem dV (b:Bool):((!b)=true)=(b=false):=by cases b<;>simp
theorem NK (b:Bool):((!b)=false)=(b=true):=by cases b<;>simp
theorem bM (p:Prop) [Decidable p]:(decide p=true)=p:=by simp
theorem eK (p:Prop) [Decidable p]:(decide p=false)=¬ p:=by simp
end AM
set_option maxRecDepth 100000
open Go AM
namespace Go.Proofs.Tryz
def aC:List Nat->Nat
 | []=>0
 |d::r=>d+4294967296*aC r
def bG (l:List Nat):Prop:=∀ d ∈ l,d<4294967296
theorem bG.nil:bG []:=λ_ h=>(by cases h)
theorem bG.cons {d:Nat} {l:List Nat} (h:d<4294967296) (a:bG l):bG (d::l):=by
 intro x b;rcases List.mem_cons.1 b with rfl|h1
 .exact h
 .exact a x h1
theorem bG.head {d:Nat} {l:List Nat} (h:bG (d::l)):d<4294967296:=h d (Xjm ..)
theorem bG.tail {d:Nat} {l:List Nat} (h:bG (d::l)):bG l:=λx a=>h x (Xx1 _ a)
theorem bG.app {a b:List Nat} (h:bG a) (c:bG b):bG (a++b):=λx d=>(List.mem_append.1 d).elim (h x) (c x)
theorem bG.take {a:List Nat} (h:bG a) (n:Nat):bG (a.take n):=λx b=>h x (List.mem_of_mem_take b)
theorem bG.drop {a:List Nat} (h:bG a) (n:Nat):bG (a.drop n):=λx b=>h x (List.mem_of_mem_drop b)
theorem bG.getD {a:List Nat} (h:bG a) (n:Nat):a.getD n 0<4294967296:=by
 rw [μ];cases b:a[n]? with
 |none=>simp
 |some x=>simpa using h x (List.mem_of_getElem? b)
theorem bG.zeros (n:Nat):bG (ζ n 0):=λx a=>by rw [(List.mem_replicate.1 a).2];omega
theorem jH (a b:List Nat):aC (a++b)=aC a+4294967296^a.length*aC b:=by
 induction a with
 |nil=>simp [aC]
 |cons d a ih=>
  simp only [Xqu,aC,ih,ο,Xxh,Xxq,<- Xqv];rw [Xqj (4294967296^a.length) 4294967296];omega
theorem lS {l:List Nat} (h:bG l):aC l<4294967296^l.length:=by
 induction l with
 |nil=>simp [aC]
 |cons d l ih=>
  have a:=ih h.tail;have b:=h.head;simp only [aC,ο,Xxh];omega
theorem jC (k:Nat):(2:Nat)^(32*k)=4294967296^k:=by rw [Xjs]
theorem eC (k:Nat):0<4294967296^k:=Nat.pow_pos (by omega)
theorem zl {l:List Nat} (h:bG l):bH l.length (aC l)=l:=by
 unfold bH
 induction l with
 |nil=>rfl
 | cons d l ih=>
  rw [ο,Xw4,Xqf,Xzd];congr 1
  .have:=h.head;simp only [aC,Xjv,Xkn,Xvl];omega
  .refine Eq.trans ?_ (ih h.tail);apply Xjt;intro i _;simp only [Xv8];have e:(2:Nat)^(32*(i+1))=4294967296*2^(32*i):=by rw [Xxq,Xxs,Xqj]
   rw [Xk8,e,<- Xwf];have:aC (d::l) / 4294967296=aC l:=by have:=h.head;simp only [aC];omega
   rw [this]
theorem gJ {l:List Nat} (h:bG l):cM l=digs (aC l):=by
 have a:=wR (m:=l.length) (n:=aC l) (by rw [jC];exact lS h);rw [zl h] at a;exact a
theorem qI (m n:Nat):aC (bH m n)=n % 2^(32*m):=by
 induction m with
 |zero=>simp [bH,aC,Yjj]
 |succ m ih=>
  rw [pO,jH,ih,aL,uO];simp only [aC,jC,Xjv,Xq3];rw [Xqj,Xja]
theorem bG.pad (m n:Nat):bG (bH m n):=by
 intro x a;obtain ⟨i,_,rfl⟩:=List.mem_map.1 a;exact Xq4 _ (by omega)
theorem K8:∀ (l:List Nat),aC (cM l)=aC l:=by
 intro l
 induction h:l.length generalizing l with
 |zero=>rw [List.length_eq_zero_iff.1 h];rfl
 | succ n ih=>
  rcases Xzb l with rfl|⟨r,d,rfl⟩
  .rfl
  .rw [Xzz,kZ];split
   .next hd=>subst hd;rw [ih r (by simpa using h),jH];simp [aC]
   .rfl
theorem K7 {x:Nat}:∀ (l:List Nat),x ∈ cM l->x ∈ l:=by
 intro l a;unfold cM at a;have:=List.dropWhile_suffix (λx:Nat=>x==0) (l:=l.reverse)|>.subset (List.mem_reverse.1 a)
 exact List.mem_reverse.1 this
theorem cO (n:Nat):aC (digs n)=n:=by
 unfold digs;rw [K8,qI,χ (jl n)]
theorem bG.digs (n:Nat):bG (digs n):=λx a=>bG.pad n n x (K7 _ a)
theorem Le {l:List Nat} {k:Nat} (h:k<l.length):aC (l.drop k)=l.getD k 0+4294967296*aC (l.drop (k+1)):=by
 rw [Xxk h,μ,ν h];rfl
theorem z_ (l:List Nat) (k:Nat) (h:k<=l.length):aC l=aC (l.take k)+4294967296^k*aC (l.drop k):=by
 have:=jH (l.take k) (l.drop k);rwa [List.take_append_drop,Xq7,Xjp h] at this
theorem ug {l:List Nat} {k:Nat} (h:k<l.length):η (ε k (ak l)) .dead= .int .u32 ((l.getD k 0:Nat):Int):=by
 have:=Dq h;rwa [Xqi] at this
theorem gP {p s:List Nat} {x k:Nat} (h:k=p.length):η (ε k (ak (p++x::s))) .dead= .int .u32 (x:Int):=by
 subst h;rw [ug (by simp)];simp
theorem jq {p s:List Nat} {x y k:Nat} (h:k=p.length):τ k (ak (p++x::s))++ [Xxx .u32 (y:Int)]++ε (k+1) (ak (p++x::s))=ak (p++y::s):=by
 subst h;rw [IR _ _ _ (by simp)];simp
theorem gK (x:Int):chk (.int .u32) (.int .u32 x)=true:=rfl
theorem bo (k:IntKind) (x:Int):Γ (.int k x)=x:=rfl
theorem lP (m:Nat):dA m [Xxx .u32 0]=ak (ζ m 0):=by
 rw [IB];congr 1;unfold bH;apply List.ext_getElem
 .simp
 .intro i a b;simp
theorem kY (l:List Nat) (k:Nat):τ k (ak l)=ak (l.take k):=by unfold ak;rw [Xw1]
theorem Mb (l:List Nat) (k:Nat):ε k (ak l)=ak (l.drop k):=by unfold ak;rw [Xjy]
abbrev Vam (a:List Nat) (b:Bool):AV:= .sl (ak a) a.length b
theorem KU {nt:Nat} (i:44<=nt) (a:List Nat) (d:Bool) (b r M:Nat) (k:Int) (cs:List AV) (h0:(Xqr (((0+(δ k))*1)+1) (θ cs))=true) (c:(decide (((0:Nat):Int)<=k))=true) (f:(decide (k<(M:Int)))=true) (e:(!((γ .u64 (b:Int))==((0:Nat):Int)))=true) (h:(chk (.int .u32) (η (ε ((δ k)*1) (ak a)) .dead))=true) (h5:(decide (k<(a.length:Int)))=true) (g:lit true (decide (((0:Nat):Int)<=k))=true):ψ nt f221 (Fc (Vam a d) (.int .u32 (b:Int)) M (.int .u64 (r:Int)) k cs) (.normal) (Fc (Vam a d) (.int .u32 (b:Int)) M (.int .u64 (Xxp (γ .u64 (Xxd (Xqg (Φ .u64) (γ .u64 ((r:Int)*2^(min 32 64)))|||Xqg (Φ .u64) (γ .u64 (Γ (η (ε ((δ k)*1) (ak a)) .dead)))))) (γ .u64 (b:Int)))) (γ .i64 (k - ((1:Nat):Int))) (τ ((0+(δ k))*1) cs++ [.int .u32 (γ .u32 (γ .u64 (Xxb (γ .u64 (Xxd (Xqg (Φ .u64) (γ .u64 ((r:Int)*2^(min 32 64)))|||Xqg (Φ .u64) (γ .u64 (Γ (η (ε ((δ k)*1) (ak a)) .dead)))))) (γ .u64 (b:Int)))))]++ε (((0+(δ k))*1)+1) cs)):=pJ 221 [] 1 1 (.c h0 (.c c (.c f (.c e (.c e (.c h (.c c (.c h5 (.k 1 g .nil))))))))) (.nil) i
theorem KV {nt:Nat} (d:44<=nt) (a:List Nat) (c:Bool) (b r M:Nat) (k:Int) (cs:List AV) (h0:lit false (decide (((0:Nat):Int)<=k))=true):ψ nt f221 (Fc (Vam a c) (.int .u32 (b:Int)) M (.int .u64 (r:Int)) k cs) (.exit 0) (Fc (Vam a c) (.int .u32 (b:Int)) M (.int .u64 (r:Int)) k cs):=pJ 221 [] 1 0 (.c h0 .nil) (.nil) d
theorem Lb {nt:Nat} (j:41<=nt) (a:List Nat) (d:Bool) (n M k:Nat) (cs:List AV) (h0:(Xqr (((0+(δ (γ .i64 ((k:Int)+((1:Nat):Int)))))*1)+1) (θ (τ ((0+(δ (k:Int)))*1) cs++ [.int .u32 (γ .u32 (Xxd (Xqg (Φ .u32) (Γ (η (ε ((0+(δ (k:Int)))*1) cs) .dead))|||Xqg (Φ .u32) (γ .u32 (γ .u64 ((γ .u64 (Γ (η (ε ((δ (k:Int))*1) (ak a)) .dead)))*2^(min (δ (n:Int)) (Φ .u64))))))))]++ε (((0+(δ (k:Int)))*1)+1) cs)))=true) (e:(decide (((0:Nat):Int)<=(γ .i64 ((k:Int)+((1:Nat):Int)))))=true) (f:(decide ((γ .i64 ((k:Int)+((1:Nat):Int)))<(M:Int)))=true) (g:(Xqr (((0+(δ (k:Int)))*1)+1) (θ cs))=true) (b:(decide (((0:Nat):Int)<=(k:Int)))=true) (h5:(decide ((k:Int)<(M:Int)))=true) (l:(chk (.int .u32) (η (ε ((0+(δ (k:Int)))*1) cs) .dead))=true) (h7:(decide (((0:Nat):Int)<=(n:Int)))=true) (h:(chk (.int .u32) (η (ε ((δ (k:Int))*1) (ak a)) .dead))=true) (i:(decide ((k:Int)<(a.length:Int)))=true) (c:lit true (decide ((k:Int)<(a.length:Int)))=true):ψ nt f223 (I6 M n (.sl (ak a) a.length d) a.length (k:Int) cs) (.normal) (I6 M n (.sl (ak a) a.length d) a.length (γ .i64 ((k:Int)+((1:Nat):Int))) (τ ((0+(δ (γ .i64 ((k:Int)+((1:Nat):Int)))))*1) (τ ((0+(δ (k:Int)))*1) cs++ [.int .u32 (γ .u32 (Xxd (Xqg (Φ .u32) (Γ (η (ε ((0+(δ (k:Int)))*1) cs) .dead))|||Xqg (Φ .u32) (γ .u32 (γ .u64 ((γ .u64 (Γ (η (ε ((δ (k:Int))*1) (ak a)) .dead)))*2^(min (δ (n:Int)) (Φ .u64))))))))]++ε (((0+(δ (k:Int)))*1)+1) cs)++ [.int .u32 (γ .u32 (Xq1 (γ .u64 ((γ .u64 (Γ (η (ε ((δ (k:Int))*1) (ak a)) .dead)))*2^(min (δ (n:Int)) (Φ .u64)))) (2^(min 32 64))))]++ε (((0+(δ (γ .i64 ((k:Int)+((1:Nat):Int)))))*1)+1) (τ ((0+(δ (k:Int)))*1) cs++ [.int .u32 (γ .u32 (Xxd (Xqg (Φ .u32) (Γ (η (ε ((0+(δ (k:Int)))*1) cs) .dead))|||Xqg (Φ .u32) (γ .u32 (γ .u64 ((γ .u64 (Γ (η (ε ((δ (k:Int))*1) (ak a)) .dead)))*2^(min (δ (n:Int)) (Φ .u64))))))))]++ε (((0+(δ (k:Int)))*1)+1) cs))):=pJ 223 [] 1 1 (.c h0 (.c e (.c f (.k 1 g (.c b (.c h5 (.c l (.c b (.c h5 (.c h7 (.c h (.c b (.c i (.c c .nil)))))))))))))) (.nil) j
theorem Lc {nt:Nat} (c:41<=nt) (a:List Nat) (b:Bool) (n M k:Nat) (cs:List AV) (h0:lit false (decide ((k:Int)<(a.length:Int)))=true):ψ nt f223 (I6 M n (.sl (ak a) a.length b) a.length (k:Int) cs) (.exit 0) (zQ M cs):=pJ 223 [] 1 0 (.c h0 .nil) (.nil) c
theorem JK {nt:Nat} (o:48<=nt) (a:List Nat) (c:Bool) (n M k:Nat) (cs:List AV) (h0:(Xqr (((0+(δ (k:Int)))*1)+1) (θ (τ ((0+(δ (k:Int)))*1) cs++ [.int .u32 (Xq1 (Γ (η (ε ((δ (k:Int))*1) (ak a)) .dead)) (2^(min (δ (n:Int)) (Φ .u32))))]++ε (((0+(δ (k:Int)))*1)+1) cs)))=true) (b:(decide (((0:Nat):Int)<=(k:Int)))=true) (f:(decide ((k:Int)<(M:Int)))=true) (i:(decide (((0:Nat):Int)<=(γ .i64 (((32:Nat):Int) - (n:Int)))))=true) (l:(chk (.int .u32) (η (ε ((δ (γ .i64 ((k:Int)+((1:Nat):Int))))*1) (ak a)) .dead))=true) (h5:(decide (((0:Nat):Int)<=(γ .i64 ((k:Int)+((1:Nat):Int)))))=true) (p:(decide ((γ .i64 ((k:Int)+((1:Nat):Int)))<(a.length:Int)))=true) (h7:(chk (.int .u32) (η (ε ((0+(δ (k:Int)))*1) (τ ((0+(δ (k:Int)))*1) cs++ [.int .u32 (Xq1 (Γ (η (ε ((δ (k:Int))*1) (ak a)) .dead)) (2^(min (δ (n:Int)) (Φ .u32))))]++ε (((0+(δ (k:Int)))*1)+1) cs)) .dead))=true) (j:lit true (decide ((γ .i64 ((k:Int)+((1:Nat):Int)))<(a.length:Int)))=true) (m:(Xqr (((0+(δ (k:Int)))*1)+1) (θ cs))=true) (h:(decide (((0:Nat):Int)<=(n:Int)))=true) (e:(chk (.int .u32) (η (ε ((δ (k:Int))*1) (ak a)) .dead))=true) (g:(decide ((k:Int)<(a.length:Int)))=true) (d:lit true (decide ((k:Int)<(a.length:Int)))=true):ψ nt f227 (BK (.sl (ak a) a.length c) n M (.sl (ak a) a.length c) a.length (k:Int) cs) (.normal) (BK (.sl (ak a) a.length c) n M (.sl (ak a) a.length c) a.length (γ .i64 ((k:Int)+((1:Nat):Int))) (τ ((0+(δ (k:Int)))*1) (τ ((0+(δ (k:Int)))*1) cs++ [.int .u32 (Xq1 (Γ (η (ε ((δ (k:Int))*1) (ak a)) .dead)) (2^(min (δ (n:Int)) (Φ .u32))))]++ε (((0+(δ (k:Int)))*1)+1) cs)++ [.int .u32 (γ .u32 (Xxd (Xqg (Φ .u32) (Γ (η (ε ((0+(δ (k:Int)))*1) (τ ((0+(δ (k:Int)))*1) cs++ [.int .u32 (Xq1 (Γ (η (ε ((δ (k:Int))*1) (ak a)) .dead)) (2^(min (δ (n:Int)) (Φ .u32))))]++ε (((0+(δ (k:Int)))*1)+1) cs)) .dead))|||Xqg (Φ .u32) (γ .u32 (γ .u64 ((γ .u64 (Γ (η (ε ((δ (γ .i64 ((k:Int)+((1:Nat):Int))))*1) (ak a)) .dead)))*2^(min (δ (γ .i64 (((32:Nat):Int) - (n:Int)))) (Φ .u64))))))))]++ε (((0+(δ (k:Int)))*1)+1) (τ ((0+(δ (k:Int)))*1) cs++ [.int .u32 (Xq1 (Γ (η (ε ((δ (k:Int))*1) (ak a)) .dead)) (2^(min (δ (n:Int)) (Φ .u32))))]++ε (((0+(δ (k:Int)))*1)+1) cs))):=pJ 227 [] 2 3 (.c h0 (.c b (.c f (.c i (.c l (.c h5 (.c p (.c h7 (.c b (.c f (.c j (.c m (.c b (.c f (.c h (.c e (.c b (.c g (.c d .nil))))))))))))))))))) (.nil) o
theorem JL {nt:Nat} (f:48<=nt) (a:List Nat) (b:Bool) (n M k:Nat) (cs:List AV) (h0:lit false (decide ((γ .i64 ((k:Int)+((1:Nat):Int)))<(a.length:Int)))=true) (d:(Xqr (((0+(δ (k:Int)))*1)+1) (θ cs))=true) (c:(decide (((0:Nat):Int)<=(k:Int)))=true) (h:(decide ((k:Int)<(M:Int)))=true) (e:(decide (((0:Nat):Int)<=(n:Int)))=true) (h5:(chk (.int .u32) (η (ε ((δ (k:Int))*1) (ak a)) .dead))=true) (g:(decide ((k:Int)<(a.length:Int)))=true) (h7:lit true (decide ((k:Int)<(a.length:Int)))=true):ψ nt f227 (BK (.sl (ak a) a.length b) n M (.sl (ak a) a.length b) a.length (k:Int) cs) (.normal) (BK (.sl (ak a) a.length b) n M (.sl (ak a) a.length b) a.length (γ .i64 ((k:Int)+((1:Nat):Int))) (τ ((0+(δ (k:Int)))*1) cs++ [.int .u32 (Xq1 (Γ (η (ε ((δ (k:Int))*1) (ak a)) .dead)) (2^(min (δ (n:Int)) (Φ .u32))))]++ε (((0+(δ (k:Int)))*1)+1) cs)):=pJ 227 [] 2 1 (.c h0 (.c d (.c c (.c h (.c e (.c h5 (.c c (.c g (.c h7 .nil))))))))) (.nil) f
theorem JM {nt:Nat} (c:48<=nt) (a:List Nat) (b:Bool) (n M k:Nat) (cs:List AV) (h0:lit false (decide ((k:Int)<(a.length:Int)))=true):ψ nt f227 (BK (.sl (ak a) a.length b) n M (.sl (ak a) a.length b) a.length (k:Int) cs) (.exit 0) (zQ M cs):=pJ 227 [] 1 0 (.c h0 .nil) (.nil) c
def jL (b:Nat):List Nat->List Nat->Nat->List Nat × Nat
 | [],q,r=>(q,r)
 |x::l,q,r=>jL b l ((4294967296*r+x) / b::q) ((4294967296*r+x) % b)
theorem zN {b r x:Nat} (a:0<b) (c:r<b) (e:x<4294967296):(4294967296*r+x) / b<4294967296:=by
 rw [Xq0 a];have d:4294967296*(r+1)<=4294967296*b:=Xxj _ c;omega
theorem O8 {b r x v:Nat}:((4294967296*r+x) / b+4294967296*v)*b+(4294967296*r+x) % b=4294967296*(v*b+r)+x:=by
 have h7:=Xxm (4294967296*r+x) b;generalize (4294967296*r+x) / b=y at*
 generalize (4294967296*r+x) % b=z at*
 rw [Xxy,Xqv,Xqj y b];omega
theorem He {b:Nat} (d:0<b) (l:List Nat):∀ (q:List Nat) (r:Nat),r<b->bG l->bG q->
  (jL b l q r).2<b/\bG (jL b l q r).1/\(jL b l q r).1.length=q.length+l.length/\aC (jL b l q r).1*b+(jL b l q r).2=4294967296^l.length*(aC q*b+r)+aC l.reverse:=by
 induction l with
 |nil=>
  intro q r c _ a;refine ⟨c,a,rfl, ?_⟩;simp only [jL,Ξ,Xkn,Xwj,Xvb,aC,Xq3]
 |cons x l ih=>
  intro q r c e a;obtain ⟨h,g,h5,f⟩:=ih ((4294967296*r+x) / b::q) ((4294967296*r+x) % b) (Xq4 _ d) e.tail (a.cons (zN d c e.head));refine ⟨h,g, ?_, ?_⟩
  .simp only [jL];rw [h5,ο,ο];omega
  simp only [jL];rw [f,Xzr,jH,Xzs,ο,Xxh];simp only [aC,Xjv,Xq3];rw [O8,Xxq,Xqv];omega
def KT (a:List Nat) (nn:Bool) (b:Nat) (k:Nat) (q:List Nat) (r:Nat):St:=(Fc (.sl (ak a) a.length nn) (.int .u32 (b:Int)) a.length (.int .u64 (r:Int)) ((k:Int) - 1) (ak (ζ k 0++q)))
theorem Hf {nt:Nat} (n:44<=nt) (a:List Nat) (e:Bool) (b:Nat) (g:0<b) (t:b<4294967296) (w:a.length<2^40) (h:bG a):
  ∀ (l q d:List Nat) (r:Nat),r<b->l.reverse++d=a->q.length=d.length->aB prog ap [] nt (af 0 (am f221)) (λ_=> .exit 0) (λ(x:Nat × List Nat × Nat)=>KT a e b x.1 x.2.1 x.2.2) (λ(x:List Nat × Nat)=>KT a e b 0 x.1 x.2) (l.length,q,r) (jL b l q r):=by
 intro l
 induction l with
 |nil=>
  intro q d r i hd m;have hbody:=KV n a e b r a.length (-1) (ak q) rfl;exact .done (by simpa [KT,jL] using hbody)
 | cons x l ih=>
  intro q d r i hd m;have j:x<4294967296:=h x (by rw [<- hd];simp);have o:l.length+1+d.length=a.length:=by rw [<- hd];simp;omega
  refine .next ?_ (ih ((4294967296*r+x) / b::q) (x::d) ((4294967296*r+x) % b) (Xq4 _ g) (by rw [<- hd];simp) (by simp [m]))
  have hbody:=KU n a e b r a.length (l.length:Int) (ak (ζ l.length 0++0::q));have c:η (ε l.length (ak a)) .dead= .int .u32 (x:Int):=by
   rw [<- hd,Xzr,Xqe];exact gP (by simp)
  have s:(((x::l).length:Nat):Int) - 1=(l.length:Int):=by simp
  have u:ζ (x::l).length 0++q=ζ l.length 0++0::q:=by rw [ο,Xz5,Xqe];rfl
  have f:4294967296*r|||x=4294967296*r+x:=by
   have:=uR (a:=r) (b:=x) (k:=32) j;rwa [jS,Xqj] at this
  have v:=zN g i j;have p:=Xq4 (4294967296*r+x) g;simp (disch:=first|omega|(simp [aq,ay]<;>omega)) only [aF,Ψ,Xqi,aq,ξ,Xq9,ο,eV,bM,dg,bL,lu,χ,qM,dV,eK,c,gK,bX,mX,vw,jS,bo,N7,f,FU,FT,nC,jq] at hbody;rw [cf (by omega) (by omega)] at hbody;simp only [KT,s,u];exact hbody (by omega) (by omega) (by omega) (by omega) trivial (by omega) (by omega)
theorem GA {n:Nat} (h:n<2^40):γ .i64 ((n:Int) - ((1:Nat):Int))=(n:Int) - 1:=cf (by omega) (by omega)
theorem UK (q:List Nat) (a:Bool) (x:Nat) (b:cM q=digs x) (h:q.length<2^40):CO 186 [.sl (ak q) q.length a] (.ret (.sl (ak (digs x)) (digs x).length a)):=by
 have:=Hw q a h;rwa [b] at this
theorem Fo {l:List Nat} {n:Nat} (h:l.length=n):τ (n*1) (ak l)=ak l:=by
 rw [Xqi,Xqa (by rw [aq,h];exact κ _)]
theorem wm (q:List Nat) (n x:Nat) (a:q.length=n) (b:cM q=digs x) (h:n<2^40):CO 186 [.sl (τ (n*1) (ak q)) n true] (.ret (.sl (ak (digs x)) (digs x).length true)):=by
 rw [Fo a];subst a;exact UK q true x b h
theorem Aw (n:Nat):ζ n 0++([]:List Nat)=ζ n 0:=Xqd _
abbrev Vaw (a:List Nat):Prop:=(decide (((0:Nat):Int)<=(a.length:Int)))=true
abbrev VaT (a:List Nat):Prop:=(decide ((a.length:Int)<=((1099511627776:Nat):Int)))=true
theorem SS (a:List Nat) (c:Bool) (b:Nat) (q:List Nat) (r x:Nat) (e:a.length<2^40) (d:q.length=a.length) (h:cM q=digs x) (hloop:∀ nt,44<=nt->aB prog ap [] nt (af 0 (am f221)) (λ_=> .exit 0) (λ(x:Nat × List Nat × Nat)=>KT a c b x.1 x.2.1 x.2.2) (λ(x:List Nat × Nat)=>KT a c b 0 x.1 x.2) (a.length,[],0) (q,r)) (h0:Vaw a) (f:(decide ((a.length:Int)=(a.length:Int)))=true) (g:VaT a):CO 221 [.sl (ak a) a.length c,.int .u32 (b:Int)] (.ret (.tup [.sl (ak (digs x)) (digs x).length true,.int .u32 (γ .u32 (r:Int))])):=pK [0] 0 0 (.c h0 (.c f (.c g .nil))) (.c (wm q _ x d h e) (.l (by rw [aF,lP,<- Aw];exact aB.blk hloop (by simp) rfl (aD.of ⟨rfl,rfl,rfl,rfl,congrArg (Xxx .i64) (GA e),trivial⟩) (aD.of ⟨rfl,rfl,trivial⟩):LB 44 0 f221 ⟨[(0,.sl (ak a) a.length c),(1,.int .u32 (b:Int)),(4,.nilS),(5,.int .u32 0),(6,.ref 0 0 0 (δ (a.length:Int))),(7,.int .u64 0),(8,ω (γ .i64 ((a.length:Int) - ((1:Nat):Int)))),(9,.dead),(17,.dead)],[(0,⟨(dA (δ (a.length:Int)) [.int .u32 0]),0,false,0,1,true⟩)],.dead,[]⟩ (.normal) ⟨[(6,.ref 0 0 0 a.length),(7,.int .u64 (r:Int))],[(0,⟨(ak q),0,false,0,1,true⟩)],.dead,[]⟩) .nil))
theorem O9 (a:List Nat) (i:Bool) (b:Nat) (c:0<b) (j:b<4294967296) (k:a.length<2^40) (d:bG a):CO 221 [.sl (ak a) a.length i,.int .u32 (b:Int)] (.ret (.tup [.sl (ak (digs (aC a / b))) (digs (aC a / b)).length true,.int .u32 ((aC a % b:Nat):Int)])):=by
 have g:bG a.reverse:=λx o=>d x (List.mem_reverse.1 o)
 obtain ⟨h,l,f,e⟩:=He c a.reverse [] 0 c g bG.nil;rw [Xzs,Ξ,Ψ] at f;simp only [aC,Xzp,Xjv,Ψ,Xq3,List.reverse_reverse] at e;have h5:=λnt (hn:44<=nt)=>Hf hn a i b c j k d a.reverse [] [] 0 c (by simp) rfl
 rw [Xzs] at h5;generalize hp:jL b a.reverse [] 0=p at*
 obtain ⟨q,r⟩:=p;simp only at h l f e;have n:aC q=aC a / b:=by rw [<- e,Xqj,Nat.mul_add_div c,Xjr h,Xq3]
 have s:r=aC a % b:=by rw [<- e,Xqj,Nat.mul_add_mod,χ h]
 have m:=SS a i b q r (aC a / b) k f (by rw [gJ l,n]) h5 (Yq0 (by omega)) (Yq0 rfl) (Yq0 (by omega));rw [nC,χ (by omega),s] at m;exact m
def Fw (n c:Nat):List Nat->List Nat
 | []=> [c]
 |x::l=>(c+2^n*x % 4294967296)::Fw n (2^n*x / 4294967296) l
theorem ot (n:Nat) (l:List Nat):∀ c,(Fw n c l).length=l.length+1:=by
 induction l with
 |nil=>intro c;rfl
 |cons x l ih=>intro c;simp only [Fw,ο,ih]
theorem Jk (n:Nat) (l:List Nat):∀ c,aC (Fw n c l)=c+2^n*aC l:=by
 induction l with
 |nil=>intro c;simp only [Fw,aC,Xjv]
 |cons x l ih=>
  intro c;simp only [Fw,aC,ih,Xxq];have h:=Xxm (2^n*x) 4294967296;rw [<- Xqv 4294967296 (2^n),<- Xqv (2^n) 4294967296,Xqj (2^n) 4294967296];omega
theorem u_ {n x:Nat} (d:n<=31) (e:x<4294967296):2^n*x<18446744073709551616/\2^n*x / 4294967296<2^n/\2^n*x % 4294967296=2^n*(x % 2^(32 - n))/\2^n*x % 4294967296+2^n<=4294967296/\2^n<=2147483648:=by
 have hp:(2:Nat)^n*2^(32 - n)=4294967296:=by rw [<- Xxs,show n+(32 - n)=32 by omega,jS]
 have b:2^n<=2147483648:=Xqs (Θ (by omega) d) (by decide);have g:2^n*x<=2^n*4294967295:=Xxj _ (by omega);have a:2^n*x % 4294967296=2^n*(x % 2^(32 - n)):=by rw [<- hp,Xvh]
 have c:x % 2^(32 - n)+1<=2^(32 - n):=Xq4 _ (Xqw _);have h5:2^n*(x % 2^(32 - n)+1)<=2^n*2^(32 - n):=Xxj _ c;rw [hp,Xxq,Xqi,<- a] at h5;have f:2^n*x / 4294967296<2^n:=by
  rw [Xq0 (by omega)];exact Xzx e (Xqw _)
 exact ⟨by omega,f,a,h5,b⟩
theorem XE {n x c:Nat} (b:n<=31) (d:x<4294967296) (a:c<2^n):c|||2^n*x % 4294967296=c+2^n*x % 4294967296:=by
 rw [(u_ b d).2.2.1,Xk6,Xqj,uR a,Xja]
theorem Jj {n:Nat} (b:n<=31) (l:List Nat):∀ c,c<2^n->bG l->bG (Fw n c l):=by
 induction l with
 |nil=>
  intro c d _;have f:2^n<=2147483648:=Xqs (Θ (by omega) b) (by decide);exact bG.cons (by omega) bG.nil
 |cons x l ih=>
  intro c d a;obtain ⟨_,e,_,g,_⟩:=u_ b a.head;exact bG.cons (by omega) (ih _ e a.tail)
theorem O2 {p s:List Nat} {v x y k:Nat} (h:k=p.length+1):τ k (ak (p++v::x::s))++ [Xxx .u32 (y:Int)]++ε (k+1) (ak (p++v::x::s))=ak (p++v::y::s):=by
 have:=jq (p:=p++ [v]) (s:=s) (x:=x) (y:=y) (k:=k) (by simpa using h);simpa using this
def ab_ (a:List Nat) (nn:Bool) (n:Nat) (k:Nat) (o:List Nat):St:=(I6 (a.length+1) n (.sl (ak a) a.length nn) a.length (k:Int) (ak o))
def UQ (a o:List Nat):St:=(zQ (a.length+1) (ak o))
theorem Tg {nt:Nat} (p:41<=nt) (a:List Nat) (g:Bool) (n:Nat) (e:n<=31) (s:a.length<2^40) (i:bG a):
  ∀ (l d o:List Nat) (c:Nat),c<2^n->d++l=a->o.length=d.length->aB prog ap [] nt (af 0 (am f223)) (λ_=> .exit 0) (λ(x:Nat × List Nat)=>ab_ a g n x.1 x.2) (UQ a) (d.length,o++c::ζ l.length 0) (o++Fw n c l):=by
 intro l
 induction l with
 |nil=>
  intro d o c k hd m;have h:d=a:=by simpa using hd
  have hbody:=Lc p a g n (a.length+1) a.length (ak (o++ [c])) (by rw [bL];simp [lit]);rw [h];exact .done hbody
 | cons x l ih=>
  intro d o c k hd m;have q:d.length+(l.length+1)=a.length:=by rw [<- hd];simp
  have j:x<4294967296:=i x (by rw [<- hd];simp);obtain ⟨v,r,t,u,w⟩:=u_ e j;have hnext:=ih (d++ [x]) (o++ [c+2^n*x % 4294967296]) (2^n*x / 4294967296) r (by rw [<- hd];simp) (by simp [m]);rw [ξ,Xqe,Xqe] at hnext;refine .next ?_ hnext
  have f:=XE e j k;have hbody:=Lb p a g n (a.length+1) d.length (ak (o++c::0::ζ l.length 0));have b:η (ε d.length (ak a)) .dead= .int .u32 (x:Int):=by
   rw [<- hd];exact gP rfl
  simp (disch:=first|omega|(simp [aq,ay]<;>omega)) only [cA,bi,aF,Ψ,Xqi,gP,bo,b,lu,χ,Ih,vw,nC,Z5,f,jq,aq,ξ,ο,Xq9,eV,bM,dg,bL,gK,bX,mX,iT,jS,O2] at hbody;exact hbody (by omega) (by omega) (by omega) (by omega) (by omega) (by omega) trivial (by omega) trivial (by omega) (by omega)
def sR (n:Nat):List Nat->List Nat
 | []=> []
 |x::l=>(x / 2^n+2^(32 - n)*l.headD 0 % 4294967296)::sR n l
theorem Cp (n:Nat) (l:List Nat):(sR n l).length=l.length:=by
 induction l with
 |nil=>rfl
 |cons x l ih=>simp only [sR,ο,ih]
theorem Ky {n:Nat} (a:n<=31):(2:Nat)^(32 - n)*2^n=4294967296:=by rw [<- Xxs,show 32 - n+n=32 by omega,jS]
theorem Ri {n:Nat} (a:n<=31) (l:List Nat):aC l % 2^n=l.headD 0 % 2^n:=by
 cases l with
 |nil=>rfl
 |cons h l=>
  simp only [aC,Xjz];rw [<- Ky a,Xqj (2^(32 - n)),Xqv,Xws]
theorem xX {n h:Nat} (a:n<=31):2^(32 - n)*h % 4294967296=2^(32 - n)*(h % 2^n):=by
 rw [<- Ky a,Xvh]
theorem JO {n:Nat} (a:n<=31) (l:List Nat):aC (sR n l)=aC l / 2^n:=by
 induction l with
 |nil=>simp [sR,aC]
 | cons x l ih=>
  simp only [sR,aC];rw [ih,xX a,<- Ri a];have b:=Xxm (aC l) (2^n);have c:x+4294967296*aC l=x+2^n*(2^(32 - n)*aC l):=by rw [<- Xqv,Xqj (2^n),Ky a]
  rw [c,Xvi _ _ (Xqw _)];have d:2^(32 - n)*aC l=4294967296*(aC l / 2^n)+2^(32 - n)*(aC l % 2^n):=by
   rw [<- Ky a,Xqv,<- Xxq,b]
  omega
theorem TC {n x:Nat} (b:n<=31) (a:x<4294967296):x / 2^n<2^(32 - n):=by
 rw [Xq0 (Xqw _),Ky b];exact a
theorem YP {n x h:Nat} (a:n<=31) (b:x<4294967296):x / 2^n|||2^(32 - n)*h % 4294967296=x / 2^n+2^(32 - n)*h % 4294967296:=by
 rw [xX a,Xk6,Xqj (2^(32 - n)),uR (TC a b),Xja]
theorem L8 {n x h:Nat} (a:n<=31) (d:x<4294967296):x / 2^n+2^(32 - n)*h % 4294967296<4294967296:=by
 rw [xX a];have b:h % 2^n+1<=2^n:=Xq4 _ (Xqw _);have c:2^(32 - n)*(h % 2^n+1)<=2^(32 - n)*2^n:=Xxj _ b;rw [Ky a,Xxq,Xqi] at c;have:=TC a d;omega
theorem JN {n:Nat} (a:n<=31) (l:List Nat):bG l->bG (sR n l):=by
 induction l with
 |nil=>exact λh=>h
 |cons x l ih=>exact λh=>bG.cons (L8 a h.head) (ih h.tail)
def YO (a:List Nat) (nn:Bool) (n:Nat) (k:Nat) (o:List Nat):St:=(BK (.sl (ak a) a.length nn) n a.length (.sl (ak a) a.length nn) a.length (k:Int) (ak o))
def TB (a o:List Nat):St:=(zQ a.length (ak o))
theorem Qp {nt:Nat} (k:48<=nt) (a:List Nat) (g:Bool) (n:Nat) (f:n<=31) (t:a.length<2^40) (e:bG a):
  ∀ (l d o:List Nat),d++l=a->o.length=d.length->aB prog ap [] nt (af 0 (am f227)) (λ_=> .exit 0) (λ(x:Nat × List Nat)=>YO a g n x.1 x.2) (TB a) (d.length,o++ζ l.length 0) (o++sR n l):=by
 intro l
 induction l with
 |nil=>
  intro d o hd q;have j:d=a:=by simpa using hd
  have hbody:=JM k a g n a.length a.length (ak (o++ [])) (by rw [bL];simp [lit]);rw [j];exact .done hbody
 | cons x l ih=>
  intro d o hd q;have c:d.length+(l.length+1)=a.length:=by rw [<- hd];simp
  have m:x<4294967296:=e x (by rw [<- hd];simp);have hnext:=ih (d++ [x]) (o++ [x / 2^n+2^(32 - n)*l.headD 0 % 4294967296]) (by rw [<- hd];simp) (by simp [q]);rw [ξ,Xqe,Xqe] at hnext;refine .next ?_ hnext
  have b:η (ε d.length (ak a)) .dead= .int .u32 (x:Int):=by
   rw [<- hd];exact gP rfl
  have r:x / 2^n<=x:=Xxo _ _;cases l with
  |nil=>
   have hbody:=JL k a g n a.length d.length (ak (o++0::ζ 0 0));simp only [Ξ] at c;simp (disch:=first|omega|(simp [aq,ay]<;>omega)) only [cA,bi,bL,dI,dV,eK,aF,Ψ,Xqi,aq,ξ,ο,Xq9,eV,bM,dg,b,gK,bX,bo,Ig,iT,jq] at hbody;simp only [Xva,Xjv,Nat.zero_mod,Xq3];exact hbody (by omega) (by omega) (by omega) (by omega) (by omega) trivial (by omega) (by omega)
  | cons y l=>
   have u:y<4294967296:=e y (by rw [<- hd];simp);simp only [ο] at c;have hget1:η (ε (d.length+1) (ak a)) .dead= .int .u32 (y:Int):=by
    rw [<- hd,show d++x::y::l=(d++ [x])++y::l by simp];exact gP (by simp)
   have i:=YP (h:=y) f m;have p:=L8 (h:=y) f m;have v:2^(32 - n)*y<18446744073709551616:=by
    have s:2^(32 - n)<=4294967296:=Xqs (Θ (by omega) (show 32 - n<=32 by omega)) (by decide);have w:2^(32 - n)*y<=4294967296*y:=Xqz _ s;omega
   have hbody:=JK k a g n a.length d.length (ak (o++0::ζ (y::l).length 0));simp (disch:=first|omega|(simp [aq,ay]<;>omega)) only [aF,Ψ,Xqi,ο,b,bo,Ig,iT,jq,aq,ξ,Xq9,eV,bM,dg,bL,iM,cA,bi,hget1,gK,gP,bX,lu,χ,Ih,vw,nC,Z5,i] at hbody;exact hbody (by omega) (by omega) (by omega) (by omega) trivial (by omega) (by omega) trivial (by omega) (by omega) (by omega) trivial (by omega) (by omega)
theorem adx (a:List Nat) (b:Bool) (n:Nat) (q:List Nat) (e:a.length<2^40) (hloop:∀ nt,41<=nt->aB prog ap [] nt (af 0 (am f223)) (λ_=> .exit 0) (λ(x:Nat × List Nat)=>ab_ a b n x.1 x.2) (UQ a) (0,ζ (a.length+1) 0) (q)) (h0:(decide (((0:Nat):Int)<=(γ .i64 ((a.length:Int)+((1:Nat):Int)))))=true) (c:(decide ((γ .i64 ((a.length:Int)+((1:Nat):Int)))=(γ .i64 ((a.length:Int)+((1:Nat):Int)))))=true) (d:(decide ((γ .i64 ((a.length:Int)+((1:Nat):Int)))<=((1099511627776:Nat):Int)))=true):CO 223 [.sl (ak a) a.length b,ω (n:Int)] (.ret (.own (τ ((a.length+1)*1) (ak q)) (a.length+1) 1)):=pK [0] 0 0 (.c h0 (.c c (.c d .nil))) (.l (by rw [cA,bi (by omega),aF,lP];exact aB.blk hloop (by simp) rfl (aD.of ⟨rfl,rfl,rfl,rfl,rfl,trivial⟩) (aD.of ⟨rfl,trivial⟩):LB 41 0 f223 ⟨[(0,.sl (ak a) a.length b),(1,ω (n:Int)),(4,.nilS),(5,.ref 0 0 0 (δ (γ .i64 ((a.length:Int)+((1:Nat):Int))))),(6,.dead),(7,.dead),(8,.dead),(13,.sl (ak a) a.length b),(14,ω (a.length:Int)),(15,ω 0),(16,.dead)],[(0,⟨(dA (δ (γ .i64 ((a.length:Int)+((1:Nat):Int)))) [.int .u32 0]),0,false,0,1,true⟩)],.dead,[]⟩ (.normal) (zQ (a.length+1) (ak q))) .nil)
theorem US (a:List Nat) (b:Bool) (n:Nat) (e:n<=31) (f:a.length<2^39) (c:bG a):CO 223 [.sl (ak a) a.length b,ω (n:Int)] (.ret (.own (ak (Fw n 0 a)) (a.length+1) 1)):=by
 have h:=adx a b n (Fw n 0 a) (by omega) (λnt d=>Tg d a b n e (by omega) c a [] [] 0 (Xqw _) rfl rfl);rw [Fo (ot n a 0),cA,bi (by omega)] at h;exact h (Yq0 (by omega)) (Yq0 rfl) (Yq0 (by omega))
abbrev Val (a:Nat):gy:= .ret (.sl (ak (digs a)) (digs a).length true)
theorem Vv (a:List Nat) (b:Bool) (n x:Nat) (q:List Nat) (d:a.length<2^40) (c:q.length=a.length) (g:cM q=digs x) (hloop:∀ nt,48<=nt->aB prog ap [] nt (af 0 (am f227)) (λ_=> .exit 0) (λ(x:Nat × List Nat)=>YO a b n x.1 x.2) (TB a) (0,ζ a.length 0) (q)) (h0:Vaw a) (e:(decide ((a.length:Int)=(a.length:Int)))=true) (f:VaT a):CO 227 [.sl (ak a) a.length b,ω (n:Int)] (Val x):=pK [0] 0 0 (.c h0 (.c e (.c f .nil))) (.c (wm q _ x c g d) (.l (by rw [aF,lP];exact aB.blk hloop (by simp) rfl (aD.of ⟨rfl,rfl,rfl,rfl,rfl,rfl,trivial⟩) (aD.of ⟨rfl,trivial⟩):LB 48 0 f227 ⟨[(0,.sl (ak a) a.length b),(1,ω (n:Int)),(4,.nilS),(5,.ref 0 0 0 (δ (a.length:Int))),(6,.dead),(7,.dead),(11,.sl (ak a) a.length b),(12,ω (a.length:Int)),(13,ω 0),(14,.dead),(28,.dead)],[(0,⟨(dA (δ (a.length:Int)) [.int .u32 0]),0,false,0,1,true⟩)],.dead,[]⟩ (.normal) (zQ a.length (ak q))) .nil))
theorem Qq (a:List Nat) (c:Bool) (n:Nat) (d:n<=31) (f:a.length<2^40) (b:bG a):CO 227 [.sl (ak a) a.length c,ω (n:Int)] (.ret (.sl (ak (digs (aC a / 2^n))) (digs (aC a / 2^n)).length true)):=
 Vv a c n _ (sR n a) f (Cp n a) (by rw [gJ (JN d a b),JO d]) (λnt e=>Qp e a c n d f b a [] [] rfl rfl) (Yq0 (by omega)) (Yq0 rfl) (Yq0 (by omega))
def dR (x:Nat):Nat:=if x=0 then 0 else Yjv x+1
theorem Rc {x m:Nat} (h:2^m<=x) (a:x<2^(m+1)):dR x=m+1:=by
 have h0:x ≠ 0:=by have:=Xqw m;omega
 unfold dR;rw [if_neg h0,(Yq4 h0).2 ⟨h,a⟩]
theorem qu {x:Nat} (h:0<x):∃ m,dR x=m+1/\2^m<=x/\x<2^(m+1):=by
 have h0:x ≠ 0:=by omega
 have:=(Yq4 (k:=Yjv x) h0).1 rfl;exact ⟨Yjv x,by unfold dR;rw [if_neg h0],this.1,this.2⟩
theorem Gz {x y:Nat} (k:Nat) (c:0<x) (e:y<2^k):dR (2^k*x+y)=k+dR x:=by
 obtain ⟨m,a,b,d⟩:=qu c;rw [a,<- Xzm];apply Rc
 .rw [Xxs];exact Xqs (Xxj _ b) (Nat.le_add_right _ _)
 .rw [Xzm,Xxs];have:2^k*(x+1)<=2^k*2^(m+1):=Xxj _ d;rw [Xxq,Xqi] at this;omega
theorem tz {x k:Nat} (h:2^k<=x):dR x=k+dR (x / 2^k):=by
 have a:=Xxm x (2^k);have b:0<x / 2^k:=Xvm h (Xqw _);have:=Gz (x:=x / 2^k) (y:=x % 2^k) k b (Xq4 _ (Xqw _));rwa [a] at this
theorem iH {x k:Nat} (h:x<2^k):dR x<=k:=by
 rcases Xqh x with rfl|hx
 .exact Xqo _
 .obtain ⟨m,c,b,_⟩:=qu hx;have:=(Nat.pow_lt_pow_iff_right (a:=2) (by omega)).1 (φ b h);omega
def KY:List UInt8:=(Xqm 256).map λi=>Xql (dR i)
theorem Pq:∀ i:Fin 256,(KY.getD i.val 0).toNat=dR i.val:=by decide
theorem xl {i:Nat} (h:i<256):(KY.getD i 0).toNat=dR i:=Pq ⟨i,h⟩
theorem Q9 (x:Nat) (h0:(decide (((0:Nat):Int)<=(γ .u8 (Xq1 (Xq1 (x:Int) (2^(min 16 32))) (2^(min 8 32))))))=true) (a:(decide ((γ .u8 (Xq1 (Xq1 (x:Int) (2^(min 16 32))) (2^(min 8 32))))<((256:Nat):Int)))=true) (b:lit true (decide (((256:Nat):Int)<=(Xq1 (x:Int) (2^(min 16 32)))))=true) (c:lit true (decide (((65536:Nat):Int)<=(x:Int)))=true):CO 172 [.int .u32 (x:Int)] (.ret (ω (γ .i64 (((24:Nat):Int)+(γ .i64 ((Xxr (Xje KY (δ (γ .u8 (Xq1 (Xq1 (x:Int) (2^(min 16 32))) (2^(min 8 32))))) 0):Nat):Int)))))):=pK [] 2 3 (.c h0 (.c a (.k 1 b (.k 1 c .nil)))) (.nil)
theorem Q_ (x:Nat) (h0:(decide (((0:Nat):Int)<=(γ .u8 (Xq1 (x:Int) (2^(min 16 32))))))=true) (a:(decide ((γ .u8 (Xq1 (x:Int) (2^(min 16 32))))<((256:Nat):Int)))=true) (b:lit false (decide (((256:Nat):Int)<=(Xq1 (x:Int) (2^(min 16 32)))))=true) (c:lit true (decide (((65536:Nat):Int)<=(x:Int)))=true):CO 172 [.int .u32 (x:Int)] (.ret (ω (γ .i64 (((16:Nat):Int)+(γ .i64 ((Xxr (Xje KY (δ (γ .u8 (Xq1 (x:Int) (2^(min 16 32))))) 0):Nat):Int)))))):=pK [] 2 1 (.c h0 (.c a (.c b (.k 1 c .nil)))) (.nil)
theorem Ra (x:Nat) (h0:(decide (((0:Nat):Int)<=(γ .u8 (Xq1 (x:Int) (2^(min 8 32))))))=true) (a:(decide ((γ .u8 (Xq1 (x:Int) (2^(min 8 32))))<((256:Nat):Int)))=true) (b:lit true (decide (((256:Nat):Int)<=(x:Int)))=true) (c:lit false (decide (((65536:Nat):Int)<=(x:Int)))=true):CO 172 [.int .u32 (x:Int)] (.ret (ω (γ .i64 (((8:Nat):Int)+(γ .i64 ((Xxr (Xje KY (δ (γ .u8 (Xq1 (x:Int) (2^(min 8 32))))) 0):Nat):Int)))))):=pK [] 2 2 (.c h0 (.c a (.k 1 b (.c c .nil)))) (.nil)
theorem Rb (x:Nat) (h0:(decide (((0:Nat):Int)<=(γ .u8 (x:Int))))=true) (a:(decide ((γ .u8 (x:Int))<((256:Nat):Int)))=true) (b:lit false (decide (((256:Nat):Int)<=(x:Int)))=true) (c:lit false (decide (((65536:Nat):Int)<=(x:Int)))=true):CO 172 [.int .u32 (x:Int)] (.ret (ω (γ .i64 (((0:Nat):Int)+(γ .i64 ((Xxr (Xje KY (δ (γ .u8 (x:Int))) 0):Nat):Int)))))):=pK [] 2 0 (.c h0 (.c a (.c b (.c c .nil)))) (.nil)
theorem WR:(2:Nat)^16=65536:=by decide
theorem p_8:(2:Nat)^8=256:=by decide
theorem Ef (x:Nat) (d:x<4294967296):CO 172 [.int .u32 (x:Int)] (.ret (ω ((dR x:Nat):Int))):=by
 by_cases h1:65536<=x
 .have b:=tz (k:=16) h1;rw [WR] at b;by_cases h2:256<=x / 65536
  .have a:=tz (k:=8) h2;rw [p_8] at a;have h:=Q9 x;simp (disch:=first|omega|(simp [aq,ay]<;>omega)) only [mX,iT,WR,p_8,XT,χ,dg,bM,bL,bX,aF,xl] at h;have c:dR (x / 65536 / 256)<=8:=iH (by omega);rw [bi (by omega),cA,bi (by omega)] at h;rw [b,a,<- Xzm];exact h (by omega) (by omega) (by omega) (by omega)
  .have h:=Q_ x;simp (disch:=first|omega|(simp [aq,ay]<;>omega)) only [mX,iT,WR,XT,χ,dg,bM,bL,dI,dV,eK,bX,aF,xl] at h;have c:dR (x / 65536)<=8:=iH (by omega);rw [bi (by omega),cA,bi (by omega)] at h;rw [b];exact h (by omega) (by omega) (by omega) (by omega)
 .by_cases h2:256<=x
  .have a:=tz (k:=8) h2;rw [p_8] at a;have h:=Ra x;simp (disch:=first|omega|(simp [aq,ay]<;>omega)) only [mX,iT,p_8,XT,χ,dg,bM,bL,bX,dI,dV,eK,aF,xl] at h;have c:dR (x / 256)<=8:=iH (by omega);rw [bi (by omega),cA,bi (by omega)] at h;rw [a];exact h (by omega) (by omega) (by omega) (by omega)
  .have h:=Rb x;simp (disch:=first|omega|(simp [aq,ay]<;>omega)) only [XT,χ,dg,bM,bL,dI,dV,eK,aF,xl] at h;have c:dR x<=8:=iH (by omega);rw [bi (by omega),cA,bi (by omega),Ψ] at h;exact h (by omega) (by omega) (by omega) (by omega)
theorem Wv (x:Nat) (a:x<4294967296):CO 222 [.int .u32 (x:Int)] (.ret (ω (γ .i64 (((32:Nat):Int) - ((dR x:Nat):Int))))):=pK [] 0 0 .nil (.c (Ef x a) .nil)
theorem Rm (x:Nat) (a:x<4294967296):CO 222 [.int .u32 (x:Int)] (.ret (ω ((32 - dR x:Nat):Int))):=by
 have h:=Wv x a;have b:dR x<=32:=iH a;simp (disch:=first|omega|(simp [aq,ay]<;>omega)) only [iM] at h;exact h
theorem Gj {nt:Nat} (b:52<=nt) (u2 u1 u0 v1 v0 q r:Nat) (h0:lit true (decide (((4294967295:Nat):Int)<(γ .u64 ((r:Int)+(γ .u64 (v1:Int))))))=true) (a:lit true (decide (((4294967295:Nat):Int)<(q:Int)))=true):ψ nt f224 (Dl (.ptr 0 0 0) (.ptr 1 0 0) (.int .u64 (q:Int)) (.int .u64 (r:Int)) [.int .u32 (u2:Int),.int .u32 (u1:Int),.int .u32 (u0:Int)] [.int .u32 (v1:Int),.int .u32 (v0:Int),.int .u32 0]) (.exit 0) (Fe (.int .u64 (γ .u64 ((q:Int) - ((1:Nat):Int)))) [.int .u32 (u2:Int),.int .u32 (u1:Int),.int .u32 (u0:Int)] [.int .u32 (v1:Int),.int .u32 (v0:Int),.int .u32 0]):=pJ 224 [] 3 7 (.c h0 (.k 4 a .nil)) (.nil) b
theorem Gk {nt:Nat} (b:52<=nt) (u2 u1 u0 v1 v0 q r:Nat) (h0:lit false (decide (((4294967295:Nat):Int)<(γ .u64 ((r:Int)+(γ .u64 (v1:Int))))))=true) (a:lit true (decide (((4294967295:Nat):Int)<(q:Int)))=true):ψ nt f224 (Dl (.ptr 0 0 0) (.ptr 1 0 0) (.int .u64 (q:Int)) (.int .u64 (r:Int)) [.int .u32 (u2:Int),.int .u32 (u1:Int),.int .u32 (u0:Int)] [.int .u32 (v1:Int),.int .u32 (v0:Int),.int .u32 0]) (.normal) (Dl (.ptr 0 0 0) (.ptr 1 0 0) (.int .u64 (γ .u64 ((q:Int) - ((1:Nat):Int)))) (.int .u64 (γ .u64 ((r:Int)+(γ .u64 (v1:Int))))) [.int .u32 (u2:Int),.int .u32 (u1:Int),.int .u32 (u0:Int)] [.int .u32 (v1:Int),.int .u32 (v0:Int),.int .u32 0]):=pJ 224 [] 3 3 (.c h0 (.k 4 a .nil)) (.nil) b
theorem Gl {nt:Nat} (c:52<=nt) (u2 u1 u0 v1 v0 q r:Nat) (h0:lit true (decide (((4294967295:Nat):Int)<(γ .u64 ((r:Int)+(γ .u64 (v1:Int))))))=true) (a:lit true (decide ((γ .u64 (Xxd (Xqg (Φ .u64) (γ .u64 ((r:Int)*2^(min 32 64)))|||Xqg (Φ .u64) (γ .u64 (u0:Int)))))<(γ .u64 ((q:Int)*(γ .u64 (v0:Int))))))=true) (b:lit false (decide (((4294967295:Nat):Int)<(q:Int)))=true):ψ nt f224 (Dl (.ptr 0 0 0) (.ptr 1 0 0) (.int .u64 (q:Int)) (.int .u64 (r:Int)) [.int .u32 (u2:Int),.int .u32 (u1:Int),.int .u32 (u0:Int)] [.int .u32 (v1:Int),.int .u32 (v0:Int),.int .u32 0]) (.exit 0) (Fe (.int .u64 (γ .u64 ((q:Int) - ((1:Nat):Int)))) [.int .u32 (u2:Int),.int .u32 (u1:Int),.int .u32 (u0:Int)] [.int .u32 (v1:Int),.int .u32 (v0:Int),.int .u32 0]):=pJ 224 [] 3 6 (.c h0 (.k 3 a (.k 7 b .nil))) (.nil) c
theorem Gm {nt:Nat} (c:52<=nt) (u2 u1 u0 v1 v0 q r:Nat) (h0:lit false (decide (((4294967295:Nat):Int)<(γ .u64 ((r:Int)+(γ .u64 (v1:Int))))))=true) (a:lit true (decide ((γ .u64 (Xxd (Xqg (Φ .u64) (γ .u64 ((r:Int)*2^(min 32 64)))|||Xqg (Φ .u64) (γ .u64 (u0:Int)))))<(γ .u64 ((q:Int)*(γ .u64 (v0:Int))))))=true) (b:lit false (decide (((4294967295:Nat):Int)<(q:Int)))=true):ψ nt f224 (Dl (.ptr 0 0 0) (.ptr 1 0 0) (.int .u64 (q:Int)) (.int .u64 (r:Int)) [.int .u32 (u2:Int),.int .u32 (u1:Int),.int .u32 (u0:Int)] [.int .u32 (v1:Int),.int .u32 (v0:Int),.int .u32 0]) (.normal) (Dl (.ptr 0 0 0) (.ptr 1 0 0) (.int .u64 (γ .u64 ((q:Int) - ((1:Nat):Int)))) (.int .u64 (γ .u64 ((r:Int)+(γ .u64 (v1:Int))))) [.int .u32 (u2:Int),.int .u32 (u1:Int),.int .u32 (u0:Int)] [.int .u32 (v1:Int),.int .u32 (v0:Int),.int .u32 0]):=pJ 224 [] 3 2 (.c h0 (.k 3 a (.k 7 b .nil))) (.nil) c
theorem Gn {nt:Nat} (b:52<=nt) (u2 u1 u0 v1 v0 q r:Nat) (h0:lit false (decide ((γ .u64 (Xxd (Xqg (Φ .u64) (γ .u64 ((r:Int)*2^(min 32 64)))|||Xqg (Φ .u64) (γ .u64 (u0:Int)))))<(γ .u64 ((q:Int)*(γ .u64 (v0:Int))))))=true) (a:lit false (decide (((4294967295:Nat):Int)<(q:Int)))=true):ψ nt f224 (Dl (.ptr 0 0 0) (.ptr 1 0 0) (.int .u64 (q:Int)) (.int .u64 (r:Int)) [.int .u32 (u2:Int),.int .u32 (u1:Int),.int .u32 (u0:Int)] [.int .u32 (v1:Int),.int .u32 (v0:Int),.int .u32 0]) (.exit 0) (Fe (.int .u64 (q:Int)) [.int .u32 (u2:Int),.int .u32 (u1:Int),.int .u32 (u0:Int)] [.int .u32 (v1:Int),.int .u32 (v0:Int),.int .u32 0]):=pJ 224 [] 2 0 (.c h0 (.k 7 a .nil)) (.nil) b
def qO (u2 u1 u0 v1 v0:Nat):Nat:=min 4294967295 ((4294967296*(4294967296*u2+u1)+u0) / (4294967296*v1+v0))
theorem uE {u2 u1 u0 v1 v0 x:Nat} (a:0<v1):x<=qO u2 u1 u0 v1 v0↔x<=4294967295/\x*(4294967296*v1+v0)<=4294967296*(4294967296*u2+u1)+u0:=by
 unfold qO;rw [Nat.le_min,Xwk (by omega)]
theorem Cw {a u0 v1 v0 q r:Nat} (h:q*v1+r=a):q*(4294967296*v1+v0)<=4294967296*a+u0↔q*v0<=4294967296*r+u0:=by
 rw [<- h,Xxq q,Xxq 4294967296,<- Xqv q,Xqj q 4294967296,Xqv];omega
def TF (u2 u1 u0 v1 v0 q r:Nat):St:=(Dl (.ptr 0 0 0) (.ptr 1 0 0) (.int .u64 (q:Int)) (.int .u64 (r:Int)) [.int .u32 (u2:Int),.int .u32 (u1:Int),.int .u32 (u0:Int)] [.int .u32 (v1:Int),.int .u32 (v0:Int),.int .u32 0])
def MF (u2 u1 u0 v1 v0 q:Nat):St:=(Fe (.int .u64 (q:Int)) [.int .u32 (u2:Int),.int .u32 (u1:Int),.int .u32 (u0:Int)] [.int .u32 (v1:Int),.int .u32 (v0:Int),.int .u32 0])
theorem MG {nt:Nat} (i:52<=nt) (u2 u1 u0 v1 v0:Nat) (p:u2<=v1) (y:u1<4294967296) (g:u0<4294967296) (t:v1<4294967296) (u:v0<4294967296) (m:0<v1):
  ∀ (d q r:Nat),q=qO u2 u1 u0 v1 v0+d->q<8589934592->r<4294967296->q*v1+r=4294967296*u2+u1->aB prog ap [] nt (af 0 (am f224)) (λ_=> .exit 0) (λ(x:Nat × Nat)=>TF u2 u1 u0 v1 v0 x.1 x.2) (MF u2 u1 u0 v1 v0) (q,r) (qO u2 u1 u0 v1 v0):=by
 intro d
 induction d with
 | zero=>
  intro q r o l w c;obtain ⟨s,n⟩:=(uE (u2:=u2) (u1:=u1) (u0:=u0) (v0:=v0) (x:=q) m).1 (by omega);rw [Cw c] at n;have e:4294967296*r|||u0=4294967296*r+u0:=by
   have:=uR (a:=r) (b:=u0) (k:=32) g;rwa [jS,Xqj] at this
  have h5:q*v0<18446744073709551616:=φ n (by omega);have hbody:=Gn i u2 u1 u0 v1 v0 q r;simp (disch:=first|omega|(simp [aq,ay]<;>omega)) only [mX,vw,jS,lu,χ,N7,e,xN,bL,dI,dV,eK] at hbody;have:=hbody (by omega) (by omega);rw [o] at this ⊢;exact .done this
 | succ d ih=>
  intro q r o l w c;have s:¬ q<=qO u2 u1 u0 v1 v0:=by omega
  rw [uE m,Cw c] at s;have e:4294967296*r|||u0=4294967296*r+u0:=by
   have:=uR (a:=r) (b:=u0) (k:=32) g;rwa [jS,Xqj] at this
  have hinv':(q - 1)*v1+(r+v1)=4294967296*u2+u1:=by
   rw [<- c,show q=(q - 1)+1 by omega,Xxy,Xwj];simp only [Xvw];omega
  by_cases h6:4294967295<r+v1
  ·
   have h7:q - 1=qO u2 u1 u0 v1 v0:=by
    refine Nat.le_antisymm ((uE m).2 ⟨?_,(Cw hinv').2 ?_⟩) (by omega)
    .rcases Xjg (q - 1) 4294967296 with h|h
     .omega
     .have j:4294967296*v1<=(q - 1)*v1:=Xqz _ h;have v:4294967296*u2<=4294967296*v1:=Xxj _ p;omega
    .rcases Xjg (q - 1) 4294967297 with h|h
     .have j:(q - 1)*v0<=4294967296*v0:=Xqz _ (by omega);omega
     .have j:4294967297*v1<=(q - 1)*v1:=Xqz _ h;have v:4294967296*u2<=4294967296*v1:=Xxj _ p;omega
   by_cases j:4294967295<q
   .have hbody:=Gj i u2 u1 u0 v1 v0 q r;have f:γ .u64 ((q:Int) - ((1:Nat):Int))=((q - 1:Nat):Int):=by rw [iN];omega
    rw [f] at hbody;simp (disch:=first|omega|(simp [aq,ay]<;>omega)) only [lu,χ,cA,bL,bX,bM,h7] at hbody;exact .done (hbody (by omega) (by omega))
   .have h5:q*v0<18446744073709551616:=by
     have:q*v0<=4294967295*v0:=Xqz _ (by omega);omega
    have hbody:=Gl i u2 u1 u0 v1 v0 q r;have f:γ .u64 ((q:Int) - ((1:Nat):Int))=((q - 1:Nat):Int):=by rw [iN];omega
    rw [f] at hbody;simp (disch:=first|omega|(simp [aq,ay]<;>omega)) only [lu,χ,cA,bL,bX,bM,mX,vw,jS,N7,e,xN,dI,dV,eK,h7] at hbody;exact .done (hbody (by omega) (by omega) (by omega))
  .refine .next ?_ (ih (q - 1) (r+v1) (by omega) (by omega) (by omega) hinv')
   by_cases j:4294967295<q
   .have hbody:=Gk i u2 u1 u0 v1 v0 q r;have f:γ .u64 ((q:Int) - ((1:Nat):Int))=((q - 1:Nat):Int):=by rw [iN];omega
    rw [f] at hbody;simp (disch:=first|omega|(simp [aq,ay]<;>omega)) only [lu,χ,cA,bL,dI,dV,eK,bX,bM] at hbody;exact hbody (by omega) (by omega)
   .have h5:q*v0<18446744073709551616:=by
     have:q*v0<=4294967295*v0:=Xqz _ (by omega);omega
    have hbody:=Gm i u2 u1 u0 v1 v0 q r;have f:γ .u64 ((q:Int) - ((1:Nat):Int))=((q - 1:Nat):Int):=by rw [iN];omega
    rw [f] at hbody;simp (disch:=first|omega|(simp [aq,ay]<;>omega)) only [lu,χ,cA,bL,dI,dV,eK,mX,vw,jS,N7,e,xN,bX,bM] at hbody;exact hbody (by omega) (by omega) (by omega)
theorem Za (u2 u1 u0 v1 v0:Nat) (d:u2<4294967296) (e:u1<4294967296) (c:v1<4294967296) (f:0<v1) (a:4294967296*u2|||u1=4294967296*u2+u1) (b:(4294967296*u2+u1) / v1<8589934592) (hloop:∀ nt,52<=nt->aB prog ap [] nt (af 0 (am f224)) (λ_=> .exit 0) (λ(x:Nat × Nat)=>TF u2 u1 u0 v1 v0 x.1 x.2) (MF u2 u1 u0 v1 v0) ((4294967296*u2+u1) / v1,(4294967296*u2+u1) % v1) (qO u2 u1 u0 v1 v0)) (h0:(!((γ .u64 (v1:Int))==((0:Nat):Int)))=true):CO 224 [.agg [.int .u32 (u2:Int),.int .u32 (u1:Int),.int .u32 (u0:Int)],.agg [.int .u32 (v1:Int),.int .u32 (v0:Int),.int .u32 0]] (.ret (.int .u64 ((qO u2 u1 u0 v1 v0:Nat):Int))):=pK [0] 0 0 (.c h0 (.k 3 h0 (.n 10 .nil))) (.l (by simp (disch:=first|omega|(simp [aq,ay]<;>omega)) only [lu,χ,mX,vw,jS,N7,a,FT,FU];exact aB.blk hloop (by simp) rfl (aD.of ⟨rfl,rfl,rfl,rfl,trivial⟩) (aD.of ⟨rfl,trivial⟩):LB 52 0 f224 ⟨[(0,.agg [.int .u32 (u2:Int),.int .u32 (u1:Int),.int .u32 (u0:Int)]),(1,.agg [.int .u32 (v1:Int),.int .u32 (v0:Int),.int .u32 0]),(2,.ptr 0 0 0),(3,.ptr 1 0 0),(4,.int .u64 0),(5,.int .u64 (γ .u64 (Xxd (Xqg (Φ .u64) (γ .u64 ((γ .u64 (u2:Int))*2^(min 32 64)))|||Xqg (Φ .u64) (γ .u64 (u1:Int)))))),(6,.int .u64 (γ .u64 (Xxb (γ .u64 (Xxd (Xqg (Φ .u64) (γ .u64 ((γ .u64 (u2:Int))*2^(min 32 64)))|||Xqg (Φ .u64) (γ .u64 (u1:Int))))) (γ .u64 (v1:Int))))),(7,.int .u64 (Xxp (γ .u64 (Xxd (Xqg (Φ .u64) (γ .u64 ((γ .u64 (u2:Int))*2^(min 32 64)))|||Xqg (Φ .u64) (γ .u64 (u1:Int))))) (γ .u64 (v1:Int)))),(41,.dead),(50,.dead)],[(0,⟨[.int .u32 (u2:Int),.int .u32 (u1:Int),.int .u32 (u0:Int)],0,false,0,0,true⟩),(1,⟨[.int .u32 (v1:Int),.int .u32 (v0:Int),.int .u32 0],0,false,0,0,true⟩)],.dead,[]⟩ (.normal) (Fe (.int .u64 ((qO u2 u1 u0 v1 v0:Nat):Int)) [.int .u32 (u2:Int),.int .u32 (u1:Int),.int .u32 (u0:Int)] [.int .u32 (v1:Int),.int .u32 (v0:Int),.int .u32 0])) .nil)
theorem VS (u2 u1 u0 v1 v0:Nat) (l:u2<=v1) (c:u1<4294967296) (g:u0<4294967296) (d:v1<4294967296) (f:v0<4294967296) (p:2147483648<=v1):CO 224 [.agg [.int .u32 (u2:Int),.int .u32 (u1:Int),.int .u32 (u0:Int)],.agg [.int .u32 (v1:Int),.int .u32 (v0:Int),.int .u32 0]] (.ret (.int .u64 ((qO u2 u1 u0 v1 v0:Nat):Int))):=by
 have e:4294967296*u2|||u1=4294967296*u2+u1:=by
  have:=uR (a:=u2) (b:=u1) (k:=32) c;rwa [jS,Xqj] at this
 have j:qO u2 u1 u0 v1 v0<=(4294967296*u2+u1) / v1:=by
  obtain ⟨o,i⟩:=(uE (u2:=u2) (u1:=u1) (u0:=u0) (v0:=v0) (v1:=v1) (by omega)).1 (κ _);rw [Xwk (by omega)];rw [Xxq,<- Xqv,Xqj _ 4294967296,Xqv] at i;omega
 have hd:(4294967296*u2+u1) / v1<8589934592:=by
  rw [Xq0 (by omega)];omega
 have n:(4294967296*u2+u1) % v1<v1:=Xq4 _ (by omega);have h:=Za u2 u1 u0 v1 v0 (by omega) c d (by omega) e hd (λnt m=>MG m u2 u1 u0 v1 v0 l c g d f (by omega) _ _ _ (Nat.add_sub_cancel' j).symm hd (by omega) (by rw [Xqj];exact Xxm _ _));simp (disch:=first|omega|(simp [aq,ay]<;>omega)) only [lu,χ,qM,dV,eK] at h;exact h (by omega)
theorem K3 {nt:Nat} (h:66<=nt) (U0 U v:List Nat) (e:Bool) (j M q c b i:Nat) (h0:(Xqr (((j+(δ (i:Int)))*1)+1) (θ (ak U)))=true) (a:(decide (((0:Nat):Int)<=(i:Int)))=true) (d:(decide ((i:Int)<(M:Int)))=true) (f:(chk (.int .u32) (η (ε ((j+(δ (i:Int)))*1) (ak U)) .dead))=true) (g:(chk (.int .u32) (η (ε ((δ (i:Int))*1) (ak v)) .dead))=true) (h5:(decide ((i:Int)<(v.length:Int)))=true) (k:lit true (decide ((i:Int)<(v.length:Int)))=true):ag prog ap [⟨(ak U0),0,false,0,1,true⟩] nt (af 0 (am f225)) (I7 (.ref 0 0 j M) (.sl (ak v) v.length e) (.int .u64 (q:Int)) (.int .u64 (c:Int)) (.int .u64 (b:Int)) v.length (i:Int) (ak U)) (.normal) (I7 (.ref 0 0 j M) (.sl (ak v) v.length e) (.int .u64 (q:Int)) (.int .u64 (Xq1 (γ .u64 ((γ .u64 ((q:Int)*(γ .u64 (Γ (η (ε ((δ (i:Int))*1) (ak v)) .dead)))))+(c:Int))) (2^(min 32 64)))) (.int .u64 (Xq1 (γ .u64 ((γ .u64 ((γ .u64 (Γ (η (ε ((j+(δ (i:Int)))*1) (ak U)) .dead))) - (γ .u64 (Xxd (Xqg (Φ .u64) (γ .u64 ((γ .u64 ((q:Int)*(γ .u64 (Γ (η (ε ((δ (i:Int))*1) (ak v)) .dead)))))+(c:Int))) &&& Xqg (Φ .u64) ((4294967295:Nat):Int)))))) - (b:Int))) (2^(min 63 64)))) v.length (γ .i64 ((i:Int)+((1:Nat):Int))) (τ ((j+(δ (i:Int)))*1) (ak U)++ [.int .u32 (γ .u32 (γ .u64 ((γ .u64 ((γ .u64 (Γ (η (ε ((j+(δ (i:Int)))*1) (ak U)) .dead))) - (γ .u64 (Xxd (Xqg (Φ .u64) (γ .u64 ((γ .u64 ((q:Int)*(γ .u64 (Γ (η (ε ((δ (i:Int))*1) (ak v)) .dead)))))+(c:Int))) &&& Xqg (Φ .u64) ((4294967295:Nat):Int)))))) - (b:Int))))]++ε (((j+(δ (i:Int)))*1)+1) (ak U))):=pJ 225 [] 1 1 (.c h0 (.c a (.c d (.k 1 f (.c a (.c d (.k 1 g (.c a (.c h5 (.c k .nil)))))))))) (.nil) h
theorem K4 {nt:Nat} (d:66<=nt) (U0 U v:List Nat) (a:Bool) (j M q c b i:Nat) (h0:lit false (decide ((i:Int)<(v.length:Int)))=true):ag prog ap [⟨(ak U0),0,false,0,1,true⟩] nt (af 0 (am f225)) (I7 (.ref 0 0 j M) (.sl (ak v) v.length a) (.int .u64 (q:Int)) (.int .u64 (c:Int)) (.int .u64 (b:Int)) v.length (i:Int) (ak U)) (.exit 0) ⟨[(0,.ref 0 0 j M),(1,.sl (ak v) v.length a),(7,.int .u64 (c:Int)),(8,.int .u64 (b:Int))],[(0,⟨(ak U),0,false,0,1,true⟩)],.dead,[]⟩:=pJ 225 [] 1 0 (.c h0 .nil) (.nil) d
theorem J8 {nt:Nat} (g:42<=nt) (U0 U v:List Nat) (d:Bool) (j M c i:Nat) (h0:(Xqr (((j+(δ (i:Int)))*1)+1) (θ (ak U)))=true) (a:(decide (((0:Nat):Int)<=(i:Int)))=true) (b:(decide ((i:Int)<(M:Int)))=true) (h:(chk (.int .u32) (η (ε ((δ (i:Int))*1) (ak v)) .dead))=true) (f:(decide ((i:Int)<(v.length:Int)))=true) (h5:(chk (.int .u32) (η (ε ((j+(δ (i:Int)))*1) (ak U)) .dead))=true) (e:lit true (decide ((i:Int)<(v.length:Int)))=true):ag prog ap [⟨(ak U0),0,false,0,1,true⟩] nt (af 0 (am f226)) (I8 (.ref 0 0 j M) (.sl (ak v) v.length d) (.int .u64 (c:Int)) v.length (i:Int) (ak U)) (.normal) (I8 (.ref 0 0 j M) (.sl (ak v) v.length d) (.int .u64 (Xq1 (γ .u64 ((γ .u64 ((γ .u64 (Γ (η (ε ((j+(δ (i:Int)))*1) (ak U)) .dead)))+(γ .u64 (Γ (η (ε ((δ (i:Int))*1) (ak v)) .dead)))))+(c:Int))) (2^(min 32 64)))) v.length (γ .i64 ((i:Int)+((1:Nat):Int))) (τ ((j+(δ (i:Int)))*1) (ak U)++ [.int .u32 (γ .u32 (γ .u64 ((γ .u64 ((γ .u64 (Γ (η (ε ((j+(δ (i:Int)))*1) (ak U)) .dead)))+(γ .u64 (Γ (η (ε ((δ (i:Int))*1) (ak v)) .dead)))))+(c:Int))))]++ε (((j+(δ (i:Int)))*1)+1) (ak U))):=pJ 226 [] 1 1 (.c h0 (.c a (.c b (.k 1 h (.c a (.c f (.c h5 (.c a (.c b (.c e .nil)))))))))) (.nil) g
theorem J9 {nt:Nat} (b:42<=nt) (U0 U v:List Nat) (a:Bool) (j M c i:Nat) (h0:lit false (decide ((i:Int)<(v.length:Int)))=true):ag prog ap [⟨(ak U0),0,false,0,1,true⟩] nt (af 0 (am f226)) (I8 (.ref 0 0 j M) (.sl (ak v) v.length a) (.int .u64 (c:Int)) v.length (i:Int) (ak U)) (.exit 0) ⟨[(0,.ref 0 0 j M),(1,.sl (ak v) v.length a),(4,.int .u64 (c:Int))],[(0,⟨(ak U),0,false,0,1,true⟩)],.dead,[]⟩:=pJ 226 [] 1 0 (.c h0 .nil) (.nil) b
def dN (u s b:Nat):Nat:=((u+(18446744073709551616 - s)) % 18446744073709551616+(18446744073709551616 - b)) % 18446744073709551616
theorem Ck {u s b:Nat} (c:u<4294967296) (hs:s<4294967296) (a:b<=1):dN u s b % 4294967296+s+b=u+4294967296*(dN u s b / 9223372036854775808)/\dN u s b / 9223372036854775808<=1/\dN u s b<18446744073709551616:=by
 unfold dN;omega
def jO (q:Nat):List Nat->List Nat->Nat->Nat->List Nat × Nat × Nat
 | [],_,c,b=>([],c,b)
 |_::_,[],c,b=>([],c,b)
 |v::vs,u::us,c,b=>
  let r:=jO q vs us ((q*v+c) / 4294967296) (dN u ((q*v+c) % 4294967296) b / 9223372036854775808)
  (dN u ((q*v+c) % 4294967296) b % 4294967296::r.1,r.2)
theorem NF {q v c:Nat} (b:q<4294967296) (d:v<4294967296) (a:c<4294967296):q*v<18446744073709551616/\q*v+c<18446744073709551616/\(q*v+c) / 4294967296<4294967296:=by
 have h:q*v<=q*4294967295:=Xxj _ (by omega);omega
theorem KZ {q:Nat} (m:q<4294967296) (vs:List Nat):∀ (a:List Nat) (c b:Nat),c<4294967296->b<=1->bG vs->bG a->vs.length<=a.length->
  (jO q vs a c b).2.1<4294967296/\(jO q vs a c b).2.2<=1/\bG (jO q vs a c b).1/\(jO q vs a c b).1.length=vs.length/\
  aC (jO q vs a c b).1+q*aC vs+c+b=aC (a.take vs.length)+4294967296^vs.length*((jO q vs a c b).2.1+(jO q vs a c b).2.2):=by
 induction vs with
 |nil=>intro a c b f g _ _ _;exact ⟨f,g,bG.nil,rfl,by simp [jO,aC]⟩
 | cons v vs ih=>
  intro a c b f g d e h;cases a with
  |nil=>simp at h
  |cons u a=>
   obtain ⟨r,p,j⟩:=NF m d.head f;obtain ⟨x,l,y⟩:=Ck (u:=u) (s:=(q*v+c) % 4294967296) (b:=b) e.head (Xq4 _ (by omega)) g;obtain ⟨k,i,n,o,w⟩:=ih a _ _ j l d.tail e.tail (by simpa using h);simp only [jO];refine ⟨k,i,bG.cons (Xq4 _ (by omega)) n,by simp [o], ?_⟩;simp only [aC,ο,Xx6];have t:=Xxm (q*v+c) 4294967296;rw [Xxq q,Xqj q (4294967296*aC vs),Xqv,Xqj (aC vs) q,Xxh,Xqj (4294967296^vs.length),Xqv];omega
def ab5 (v:List Nat) (nv:Bool) (j M q:Nat) (i:Nat) (U:List Nat) (c b:Nat):St:=(I7 (.ref 0 0 j M) (.sl (ak v) v.length nv) (.int .u64 (q:Int)) (.int .u64 (c:Int)) (.int .u64 (b:Int)) v.length (i:Int) (ak U))
def UJ (v:List Nat) (nv:Bool) (j M:Nat) (U:List Nat) (c b:Nat):St:=⟨[(0,.ref 0 0 j M),(1,.sl (ak v) v.length nv),(7,.int .u64 (c:Int)),(8,.int .u64 (b:Int))],[(0,⟨ak U,0,false,0,1,true⟩)],.dead,[]⟩
def lC (U0:List Nat):List aM:= [⟨ak U0,0,false,0,1,true⟩]
theorem S3 {nt:Nat} (o:66<=nt) (U0 v:List Nat) (g:Bool) (j M q:Nat) (y:q<4294967296) (A:bG v) (D:v.length<M) (p:v.length<2^40):
  ∀ (vs d a pre:List Nat) (c b:Nat),d++vs=v->pre.length=j+d.length->vs.length<=a.length->c<4294967296->b<=1->bG a->
  aB prog ap (lC U0) nt (af 0 (am f225)) (λ_=> .exit 0) (λ(x:Nat × List Nat × Nat × Nat)=>ab5 v g j M q x.1 x.2.1 x.2.2.1 x.2.2.2) (λ(x:List Nat × Nat × Nat)=>UJ v g j M x.1 x.2.1 x.2.2) (d.length,pre++a,c,b) (pre++(jO q vs a c b).1++a.drop vs.length,(jO q vs a c b).2.1,(jO q vs a c b).2.2):=by
 intro vs
 induction vs with
 |nil=>
  intro d a pre c b hd hp i l n e;have k:d=v:=by simpa using hd
  have hbody:=K4 o U0 (pre++a) v g j M q c b v.length (by rw [bL];simp [lit]);refine .done ?_;simp only [jO,Xqd,Ξ,Xx8,k];exact hbody
 | cons x vs ih=>
  intro d a pre c b hd hp i l n e;cases a with
  |nil=>simp at i
  | cons u a=>
   have z:x<4294967296:=A x (by rw [<- hd];simp);have m:d.length+(vs.length+1)=v.length:=by rw [<- hd];simp
   have w:=e.head;obtain ⟨C,B,r⟩:=NF y z l;obtain ⟨E,t,F⟩:=Ck (u:=u) (s:=(q*x+c) % 4294967296) (b:=b) w (Xq4 _ (by omega)) n;have hnext:=ih (d++ [x]) a (pre++ [dN u ((q*x+c) % 4294967296) b % 4294967296]) ((q*x+c) / 4294967296) (dN u ((q*x+c) % 4294967296) b / 9223372036854775808) (by rw [<- hd];simp) (by simp;omega) (by simpa using i) r t e.tail;simp only [jO,ο,Xwz];rw [ξ] at hnext;simp only [Xqe,Xqu,Xqb,ο,Ξ] at hnext ⊢;refine .next ?_ hnext
   have f:η (ε d.length (ak v)) .dead= .int .u32 (x:Int):=by
    rw [<- hd];exact gP rfl
   have hbody:=K3 o U0 (pre++u::a) v g j M q c b d.length;have h:((u+(18446744073709551616 - (q*x+c) % 4294967296)) % 18446744073709551616+(18446744073709551616 - b)) % 18446744073709551616=dN u ((q*x+c) % 4294967296) b:=rfl;simp (disch:=first|omega|(simp [aq,ay]<;>omega)) only [aF,Xqi,aq,ξ,ο,eV,bM,dg,bL,gP,gK,f,bX,bo,lu,χ,xN,cA,mX,iT,jS,Yk,xI,iN,h,Z7,bi,nC,jq] at hbody;exact hbody (by omega) (by omega) (by omega) trivial trivial (by omega) (by omega)
def mQ:List Nat->List Nat->Nat->List Nat × Nat
 | [],_,c=>([],c)
 |_::_,[],c=>([],c)
 |v::vs,u::us,c=>
  let r:=mQ vs us ((u+v+c) / 4294967296)
  ((u+v+c) % 4294967296::r.1,r.2)
theorem J6 (vs:List Nat):∀ (a:List Nat) (c:Nat),c<=1->bG vs->bG a->vs.length<=a.length->
  (mQ vs a c).2<=1/\bG (mQ vs a c).1/\(mQ vs a c).1.length=vs.length/\
  aC (mQ vs a c).1+4294967296^vs.length*(mQ vs a c).2=aC (a.take vs.length)+aC vs+c:=by
 induction vs with
 |nil=>intro a c e _ _ _;exact ⟨e,bG.nil,rfl,by simp [mQ,aC]⟩
 | cons v vs ih=>
  intro a c e b d f;cases a with
  |nil=>simp at f
  |cons u a=>
   have k:=b.head;have l:=d.head;obtain ⟨g,h,i,j⟩:=ih a ((u+v+c) / 4294967296) (by omega) b.tail d.tail (by simpa using f);simp only [mQ];refine ⟨g,bG.cons (Xq4 _ (by omega)) h,by simp [i], ?_⟩;simp only [aC,ο,Xx6];rw [Xxh,Xqj (4294967296^vs.length),Xqv];omega
def Zq (v:List Nat) (nv:Bool) (j M:Nat) (i:Nat) (U:List Nat) (c:Nat):St:=(I8 (.ref 0 0 j M) (.sl (ak v) v.length nv) (.int .u64 (c:Int)) v.length (i:Int) (ak U))
def TK (v:List Nat) (nv:Bool) (j M:Nat) (U:List Nat) (c:Nat):St:=⟨[(0,.ref 0 0 j M),(1,.sl (ak v) v.length nv),(4,.int .u64 (c:Int))],[(0,⟨ak U,0,false,0,1,true⟩)],.dead,[]⟩
theorem Q1 {nt:Nat} (i:42<=nt) (U0 v:List Nat) (f:Bool) (j M:Nat) (n:bG v) (q:v.length<M) (l:v.length<2^40):
  ∀ (vs b a pre:List Nat) (c:Nat),b++vs=v->pre.length=j+b.length->vs.length<=a.length->c<=1->bG a->
  aB prog ap (lC U0) nt (af 0 (am f226)) (λ_=> .exit 0) (λ(x:Nat × List Nat × Nat)=>Zq v f j M x.1 x.2.1 x.2.2) (λ(x:List Nat × Nat)=>TK v f j M x.1 x.2) (b.length,pre++a,c) (pre++(mQ vs a c).1++a.drop vs.length,(mQ vs a c).2):=by
 intro vs
 induction vs with
 |nil=>
  intro b a pre c hd hp g m d;have h:b=v:=by simpa using hd
  have hbody:=J9 i U0 (pre++a) v f j M c v.length (by rw [bL];simp [lit]);refine .done ?_;simp only [mQ,Xqd,Ξ,Xx8,h];exact hbody
 | cons x vs ih=>
  intro b a pre c hd hp g m d;cases a with
  |nil=>simp at g
  | cons u a=>
   have o:x<4294967296:=n x (by rw [<- hd];simp);have k:b.length+(vs.length+1)=v.length:=by rw [<- hd];simp
   have p:=d.head;have hnext:=ih (b++ [x]) a (pre++ [(u+x+c) % 4294967296]) ((u+x+c) / 4294967296) (by rw [<- hd];simp) (by simp;omega) (by simpa using g) (by omega) d.tail;simp only [mQ,ο,Xwz];rw [ξ] at hnext;simp only [Xqe,Xqu,Xqb,ο,Ξ] at hnext ⊢;refine .next ?_ hnext
   have e:η (ε b.length (ak v)) .dead= .int .u32 (x:Int):=by
    rw [<- hd];exact gP rfl
   have hbody:=J8 i U0 (pre++u::a) v f j M c b.length;simp (disch:=first|omega|(simp [aq,ay]<;>omega)) only [aF,Xqi,aq,ξ,ο,eV,bM,dg,bL,e,gK,gP,bX,bo,lu,χ,cA,mX,iT,jS,bi,nC,jq] at hbody;exact hbody (by omega) (by omega) (by omega) trivial (by omega) trivial (by omega)
theorem XP (U W v:List Nat) (a:Bool) (j M q c b:Nat) (hloop:∀ nt,66<=nt->aB prog ap (lC U) nt (af 0 (am f225)) (λ_=> .exit 0) (λ(x:Nat × List Nat × Nat × Nat)=>ab5 v a j M q x.1 x.2.1 x.2.2.1 x.2.2.2) (λ(x:List Nat × Nat × Nat)=>UJ v a j M x.1 x.2.1 x.2.2) (0,U,0,0) (W,c,b)) (h0:(Xqr (((j+(δ (v.length:Int)))*1)+1) (θ (ak W)))=true) (d:Vaw v) (e:(decide ((v.length:Int)<(M:Int)))=true) (f:(chk (.int .u32) (η (ε ((j+(δ (v.length:Int)))*1) (ak W)) .dead))=true):az prog ap 225 [.ref 0 0 j M,.sl (ak v) v.length a,.int .u64 (q:Int)] [⟨(ak U),0,false,0,1,true⟩] (.ret (.bool (!((Xq1 (γ .u64 ((γ .u64 ((γ .u64 (Γ (η (ε ((j+(δ (v.length:Int)))*1) (ak W)) .dead))) - (c:Int))) - (b:Int))) (2^(min 63 64)))==((0:Nat):Int))))) [⟨(τ ((j+(δ (v.length:Int)))*1) (ak W)++ [.int .u32 (γ .u32 (γ .u64 ((γ .u64 ((γ .u64 (Γ (η (ε ((j+(δ (v.length:Int)))*1) (ak W)) .dead))) - (c:Int))) - (b:Int))))]++ε (((j+(δ (v.length:Int)))*1)+1) (ak W)),0,false,0,1,true⟩]:=pK [0] 0 0 (.k 1 h0 (.c d (.c e (.c f (.c d (.c e .nil)))))) (.l (by exact aB.blk hloop (by simp) rfl (aD.of ⟨rfl,rfl,rfl,rfl,rfl,rfl,rfl,trivial⟩) (aD.of ⟨rfl,rfl,rfl,rfl,trivial⟩):gk prog ap [⟨(ak U),0,false,0,1,true⟩] 66 (.block 0 (.loop (af 0 (am f225)))) ⟨[(0,.ref 0 0 j M),(1,.sl (ak v) v.length a),(2,.int .u64 (q:Int)),(6,.bool false),(7,.int .u64 0),(8,.int .u64 0),(9,.dead),(10,.dead),(11,.dead),(12,.dead),(14,ω (v.length:Int)),(15,ω 0),(16,.dead)],[(0,⟨(ak U),0,false,0,1,true⟩)],.dead,[]⟩ (.normal) ⟨[(0,.ref 0 0 j M),(1,.sl (ak v) v.length a),(7,.int .u64 (c:Int)),(8,.int .u64 (b:Int))],[(0,⟨(ak W),0,false,0,1,true⟩)],.dead,[]⟩) .nil)
theorem Wj (U W v:List Nat) (a:Bool) (j M c:Nat) (hloop:∀ nt,42<=nt->aB prog ap (lC U) nt (af 0 (am f226)) (λ_=> .exit 0) (λ(x:Nat × List Nat × Nat)=>Zq v a j M x.1 x.2.1 x.2.2) (λ(x:List Nat × Nat)=>TK v a j M x.1 x.2) (0,U,0) (W,c)) (h0:(Xqr (((j+(δ (v.length:Int)))*1)+1) (θ (ak W)))=true) (b:Vaw v) (d:(decide ((v.length:Int)<(M:Int)))=true) (e:(chk (.int .u32) (η (ε ((j+(δ (v.length:Int)))*1) (ak W)) .dead))=true):az prog ap 226 [.ref 0 0 j M,.sl (ak v) v.length a] [⟨(ak U),0,false,0,1,true⟩] (.ret (.tup [])) [⟨(τ ((j+(δ (v.length:Int)))*1) (ak W)++ [.int .u32 (γ .u32 ((Γ (η (ε ((j+(δ (v.length:Int)))*1) (ak W)) .dead))+(γ .u32 (c:Int))))]++ε (((j+(δ (v.length:Int)))*1)+1) (ak W)),0,false,0,1,true⟩]:=pK [0] 0 0 (.c h0 (.c b (.c d (.c e (.c b (.c d .nil)))))) (.l (by exact aB.blk hloop (by simp) rfl (aD.of ⟨rfl,rfl,rfl,rfl,rfl,trivial⟩) (aD.of ⟨rfl,rfl,rfl,trivial⟩):gk prog ap [⟨(ak U),0,false,0,1,true⟩] 42 (.block 0 (.loop (af 0 (am f226)))) ⟨[(0,.ref 0 0 j M),(1,.sl (ak v) v.length a),(4,.int .u64 0),(5,.dead),(6,.dead),(8,ω (v.length:Int)),(9,ω 0),(10,.dead)],[(0,⟨(ak U),0,false,0,1,true⟩)],.dead,[]⟩ (.normal) ⟨[(0,.ref 0 0 j M),(1,.sl (ak v) v.length a),(4,.int .u64 (c:Int))],[(0,⟨(ak W),0,false,0,1,true⟩)],.dead,[]⟩) .nil)
theorem wu (n W:Nat) (post:List Nat):τ n (bH (n+1) W++post)=bH n W:=by
 rw [pO,Xqe,Xx7 (by rw [aL];exact κ _),Xqa (by rw [aL];exact κ _)]
theorem wq (n W:Nat) (post:List Nat):ε n (bH (n+1) W++post)=W / 2^(32*n) % 2^32::post:=by
 rw [pO,Xqe,List.drop_append_of_le_length (by rw [aL];exact κ _),List.drop_of_length_le (by rw [aL];exact κ _)];rfl
theorem GW {l:List Nat} {m:Nat} (h:bG l) (a:l.length=m):l=bH m (aC l):=by subst a;exact (zl h).symm
theorem SW (pre post v:List Nat) (t:Bool) (n W q:Nat) (j:v.length=n) (F:bG v) (D:q<4294967296) (J:W<4294967296^(n+1)) (hpost:bG post) (Q:pre.length+n<2^40):
  az prog ap 225 [.ref 0 0 pre.length (n+1),.sl (ak v) n t,.int .u64 (q:Int)] (lC (pre++bH (n+1) W++post)) (.ret (.bool (decide (W<q*aC v)))) (lC (pre++bH (n+1) (if W<q*aC v then W+4294967296^(n+1) - q*aC v else W - q*aC v)++post)):=by
 have g:bG (bH (n+1) W++post):=bG.app (bG.pad _ _) hpost;obtain ⟨B,C,A,i,k⟩:=KZ D v (bH (n+1) W++post) 0 0 (by omega) (by omega) F g (by simp [aL];omega);have hloop:=λnt (hnt:66<=nt)=>S3 hnt (pre++bH (n+1) W++post) v t pre.length (n+1) q D F (by omega) (by omega) v [] (bH (n+1) W++post) pre 0 0 rfl rfl (by simp [aL];omega) (by omega) (by omega) g
 rw [j,wu,qI,jC] at k;rw [j,wq,jC,jS] at hloop;generalize N:jO q v (bH (n+1) W++post) 0 0=r at*
 obtain ⟨y,c,b⟩:=r;simp only [Xq3,Ξ,<- Xqe] at B C A i k hloop;have E:W / 4294967296^n<4294967296:=by
  rw [Xq0 (eC n),Xqj,<- Xxh];exact J
 rw [χ E] at hloop;have H:=Xxm W (4294967296^n);generalize G:W / 4294967296^n=x at*
 obtain ⟨L,M,R⟩:=Ck (u:=x) (s:=c) (b:=b) E B C;have htake:=XP (pre++bH (n+1) W++post) (pre++y++x::post) v t pre.length (n+1) q c b hloop;have d:pre.length+n=(pre++y).length:=by simp [i,j]
 have m:((x+(18446744073709551616 - c)) % 18446744073709551616+(18446744073709551616 - b)) % 18446744073709551616=dN x c b:=rfl;rw [j] at htake i;have w:η (ε (pre.length+n) (ak (pre++y++x::post))) .dead= .int .u32 (x:Int):=gP d;have e:∀ z:Nat,τ (pre.length+n) (ak (pre++y++x::post))++ [Xxx .u32 (z:Int)]++ε (pre.length+n+1) (ak (pre++y++x::post))=ak (pre++y++z::post):=λz=>jq d
 simp (disch:=first|omega|(simp [aq,ay]<;>omega)) only [aF,Xqi,aq,ξ,ο,eV,bM,dg,bL,w,gK,bo,lu,χ,iN,m,mX,iT,Z7,qM,nC,e] at htake;have htake:=htake (by omega) (by omega) (by omega) trivial;generalize P:dN x c b / 9223372036854775808=f at*
 generalize O:dN x c b % 4294967296=z at*
 have p:z<4294967296:=by omega
 have h:bG (y++ [z]):=bG.app A (bG.cons p bG.nil);have a:aC (y++ [z])+q*aC v=W+4294967296^(n+1)*f:=by
  rw [jH,i];simp only [aC,Xjv,Xq3];have I:4294967296^n*(z+c+b)=4294967296^n*(x+4294967296*f):=by rw [L]
  rw [Xxh,Xqv];rw [Xxq,Xxq,Xxq] at I;rw [Xxq] at k;omega
 have o:=lS h;have hlen2:(y++ [z]).length=n+1:=by simp [i]
 rw [hlen2] at o;have hlist:pre++y++z::post=pre++(y++ [z])++post:=by simp
 have l:(!decide (f=0))=decide (W<q*aC v):=by
  rcases Xqh f with h0|h0
  .rw [h0,Xjv,Xq3] at a;rw [h0,Yq0 rfl,Yq1 (by omega)];rfl
  .rw [show f=1 by omega,Xqi] at a;rw [Yq1 (by omega),Yq0 (by omega)];rfl
 have K:aC (y++ [z])=if W<q*aC v then W+4294967296^(n+1) - q*aC v else W - q*aC v:=by
  rcases Xqh f with h0|h0
  .rw [h0,Xjv,Xq3] at a;rw [if_neg (by omega)];omega
  .rw [show f=1 by omega,Xqi] at a;rw [if_pos (by omega)];omega
 rw [hlist,GW h hlen2,K,l] at htake;exact htake
theorem QY (pre post v:List Nat) (j:Bool) (n W:Nat) (i:v.length=n) (p:bG v) (A:W<4294967296^(n+1)) (hpost:bG post) (C:pre.length+n<2^40):
  az prog ap 226 [.ref 0 0 pre.length (n+1),.sl (ak v) n j] (lC (pre++bH (n+1) W++post)) (.ret (.tup [])) (lC (pre++bH (n+1) ((W+aC v) % 4294967296^(n+1))++post)):=by
 have g:bG (bH (n+1) W++post):=bG.app (bG.pad _ _) hpost;obtain ⟨s,o,d,l⟩:=J6 v (bH (n+1) W++post) 0 (by omega) p g (by simp [aL];omega);have hloop:=λnt (hnt:42<=nt)=>Q1 hnt (pre++bH (n+1) W++post) v j pre.length (n+1) p (by omega) (by omega) v [] (bH (n+1) W++post) pre 0 rfl rfl (by simp [aL];omega) (by omega) g
 rw [i,wu,qI,jC] at l;rw [i,wq,jC,jS] at hloop;generalize D:mQ v (bH (n+1) W++post) 0=r at*
 obtain ⟨y,c⟩:=r;simp only [Xq3,Ξ,<- Xqe] at s o d l hloop;have t:W / 4294967296^n<4294967296:=by
  rw [Xq0 (eC n),Xqj,<- Xxh];exact A
 rw [χ t] at hloop;have u:=Xxm W (4294967296^n);generalize q:W / 4294967296^n=x at*
 have hgive:=Wj (pre++bH (n+1) W++post) (pre++y++x::post) v j pre.length (n+1) c hloop;have a:pre.length+n=(pre++y).length:=by simp [d,i]
 rw [i] at hgive d;have k:η (ε (pre.length+n) (ak (pre++y++x::post))) .dead= .int .u32 (x:Int):=gP a;have f:∀ z:Nat,τ (pre.length+n) (ak (pre++y++x::post))++ [Xxx .u32 (z:Int)]++ε (pre.length+n+1) (ak (pre++y++x::post))=ak (pre++y++z::post):=λz=>jq a
 rw [nC,χ (show c<4294967296 by omega)] at hgive;have m:γ .u32 ((x:Int)+(c:Int))=(((x+c) % 4294967296:Nat):Int):=by rw [cA,nC]
 simp (disch:=first|omega|(simp [aq,ay]<;>omega)) only [aF,Xqi,aq,ξ,ο,eV,bM,dg,bL,k,gK,bo,cA,nC,f] at hgive;have hgive:=hgive (by omega) (by omega) (by omega) trivial;have b:bG (y++ [(x+c) % 4294967296]):=bG.app o (bG.cons (Xq4 _ (by omega)) bG.nil);have h:aC (y++ [(x+c) % 4294967296])+4294967296^(n+1)*((x+c) / 4294967296)=W+aC v:=by
  rw [jH,d];simp only [aC,Xjv,Xq3];have w:4294967296^n*(x+c)=4294967296^n*(4294967296*((x+c) / 4294967296)+(x+c) % 4294967296):=by rw [Xxm]
  rw [Xxh,Xqv];rw [Xxq,Xxq] at w;omega
 have e:=lS b;have hlen2:(y++ [(x+c) % 4294967296]).length=n+1:=by simp [d]
 rw [hlen2] at e;have hlist:pre++y++(x+c) % 4294967296::post=pre++(y++ [(x+c) % 4294967296])++post:=by simp
 have B:aC (y++ [(x+c) % 4294967296])=(W+aC v) % 4294967296^(n+1):=by
  rw [<- h,Xws,χ e]
 rw [hlist,GW b hlen2,B] at hgive;exact hgive
theorem YT {nt:Nat} (A:130<=nt) (Q U U1 U2 v:List Nat) (m p M n j q:Nat) (h0:(Xqr (((0+(δ (j:Int)))*1)+1) (θ (ak Q)))=true) (e:(decide (((0:Nat):Int)<=(j:Int)))=true) (u:(decide ((j:Int)<(m:Int)))=true) (r:(decide ((j:Int)<=(γ .i64 ((γ .i64 ((j:Int)+(n:Int)))+((1:Nat):Int)))))=true) (s:(decide ((γ .i64 ((γ .i64 ((j:Int)+(n:Int)))+((1:Nat):Int)))<=(M:Int)))=true) (h5:(chk (.int .u32) (η (ε ((δ (γ .i64 ((n:Int) - ((2:Nat):Int))))*1) (ak v)) .dead))=true) (B:(decide (((0:Nat):Int)<=(γ .i64 ((n:Int) - ((2:Nat):Int)))))=true) (h7:(decide ((γ .i64 ((n:Int) - ((2:Nat):Int)))<(v.length:Int)))=true) (x:(chk (.int .u32) (η (ε ((δ (γ .i64 ((n:Int) - ((1:Nat):Int))))*1) (ak v)) .dead))=true) (y:(decide (((0:Nat):Int)<=(γ .i64 ((n:Int) - ((1:Nat):Int)))))=true) (l:(decide ((γ .i64 ((n:Int) - ((1:Nat):Int)))<(v.length:Int)))=true) (d:(chk (.int .u32) (η (ε ((0+(δ (γ .i64 ((γ .i64 ((j:Int)+(n:Int))) - ((2:Nat):Int)))))*1) (ak U)) .dead))=true) (k:(decide (((0:Nat):Int)<=(γ .i64 ((γ .i64 ((j:Int)+(n:Int))) - ((2:Nat):Int)))))=true) (b:(decide ((γ .i64 ((γ .i64 ((j:Int)+(n:Int))) - ((2:Nat):Int)))<(M:Int)))=true) (c:(chk (.int .u32) (η (ε ((0+(δ (γ .i64 ((γ .i64 ((j:Int)+(n:Int))) - ((1:Nat):Int)))))*1) (ak U)) .dead))=true) (o:(decide (((0:Nat):Int)<=(γ .i64 ((γ .i64 ((j:Int)+(n:Int))) - ((1:Nat):Int)))))=true) (i:(decide ((γ .i64 ((γ .i64 ((j:Int)+(n:Int))) - ((1:Nat):Int)))<(M:Int)))=true) (h:(chk (.int .u32) (η (ε ((0+(δ (γ .i64 ((j:Int)+(n:Int)))))*1) (ak U)) .dead))=true) (f:(decide (((0:Nat):Int)<=(γ .i64 ((j:Int)+(n:Int)))))=true) (g:(decide ((γ .i64 ((j:Int)+(n:Int)))<(M:Int)))=true) (a:lit true (decide (((0:Nat):Int)<=(j:Int)))=true) (t:CO 224 [.agg [.int .u32 (Γ (η (ε ((0+(δ (γ .i64 ((j:Int)+(n:Int)))))*1) (ak U)) .dead)),.int .u32 (Γ (η (ε ((0+(δ (γ .i64 ((γ .i64 ((j:Int)+(n:Int))) - ((1:Nat):Int)))))*1) (ak U)) .dead)),.int .u32 (Γ (η (ε ((0+(δ (γ .i64 ((γ .i64 ((j:Int)+(n:Int))) - ((2:Nat):Int)))))*1) (ak U)) .dead))],.agg [.int .u32 (Γ (η (ε ((δ (γ .i64 ((n:Int) - ((1:Nat):Int))))*1) (ak v)) .dead)),.int .u32 (Γ (η (ε ((δ (γ .i64 ((n:Int) - ((2:Nat):Int))))*1) (ak v)) .dead)),.int .u32 0]] (.ret (.int .u64 (q:Int)))) (w:az prog ap 225 [.ref 0 0 (0+(δ (j:Int))) ((δ (γ .i64 ((γ .i64 ((j:Int)+(n:Int)))+((1:Nat):Int)))) - (δ (j:Int))),.sl (ak v) v.length true,.int .u64 (q:Int)] [⟨(ak U),0,false,0,1,true⟩] (.ret (.bool true)) [⟨(ak U1),0,false,0,1,true⟩]) (z:az prog ap 226 [.ref 0 0 (0+(δ (j:Int))) ((δ (γ .i64 ((γ .i64 ((j:Int)+(n:Int)))+((1:Nat):Int)))) - (δ (j:Int))),.sl (ak v) v.length true] [⟨(ak U1),0,false,0,1,true⟩] (.ret (.tup [])) [⟨(ak U2),0,false,0,1,true⟩]):ag prog ap [] nt (af 1 (am f194)) (vZ m p M (.sl (ak v) v.length true) n (j:Int) (ak Q) (ak U)) (.normal) (vZ m p M (.sl (ak v) v.length true) n (γ .i64 ((j:Int) - ((1:Nat):Int))) (τ ((0+(δ (j:Int)))*1) (ak Q)++ [.int .u32 (γ .u32 (γ .u64 ((q:Int) - ((1:Nat):Int))))]++ε (((0+(δ (j:Int)))*1)+1) (ak Q)) (ak U2)):=pJ 194 [] 2 3 (.c h0 (.c e (.c u (.c e (.c r (.c s (.k 1 e (.c r (.c s (.c h5 (.c B (.c h7 (.c x (.c y (.c l (.c d (.c k (.c b (.c c (.c o (.c i (.c h (.c f (.c g (.c a .nil))))))))))))))))))))))))) (.c z (.c w (.c t .nil))) A
theorem YR {nt:Nat} (z:130<=nt) (Q U U1 U2 v:List Nat) (l p M n j q:Nat) (h0:(Xqr (((0+(δ (j:Int)))*1)+1) (θ (ak Q)))=true) (o:(decide (((0:Nat):Int)<=(j:Int)))=true) (s:(decide ((j:Int)<(l:Int)))=true) (u:(decide ((j:Int)<=(γ .i64 ((γ .i64 ((j:Int)+(n:Int)))+((1:Nat):Int)))))=true) (x:(decide ((γ .i64 ((γ .i64 ((j:Int)+(n:Int)))+((1:Nat):Int)))<=(M:Int)))=true) (h5:(chk (.int .u32) (η (ε ((δ (γ .i64 ((n:Int) - ((2:Nat):Int))))*1) (ak v)) .dead))=true) (A:(decide (((0:Nat):Int)<=(γ .i64 ((n:Int) - ((2:Nat):Int)))))=true) (h7:(decide ((γ .i64 ((n:Int) - ((2:Nat):Int)))<(v.length:Int)))=true) (w:(chk (.int .u32) (η (ε ((δ (γ .i64 ((n:Int) - ((1:Nat):Int))))*1) (ak v)) .dead))=true) (y:(decide (((0:Nat):Int)<=(γ .i64 ((n:Int) - ((1:Nat):Int)))))=true) (k:(decide ((γ .i64 ((n:Int) - ((1:Nat):Int)))<(v.length:Int)))=true) (d:(chk (.int .u32) (η (ε ((0+(δ (γ .i64 ((γ .i64 ((j:Int)+(n:Int))) - ((2:Nat):Int)))))*1) (ak U)) .dead))=true) (i:(decide (((0:Nat):Int)<=(γ .i64 ((γ .i64 ((j:Int)+(n:Int))) - ((2:Nat):Int)))))=true) (b:(decide ((γ .i64 ((γ .i64 ((j:Int)+(n:Int))) - ((2:Nat):Int)))<(M:Int)))=true) (c:(chk (.int .u32) (η (ε ((0+(δ (γ .i64 ((γ .i64 ((j:Int)+(n:Int))) - ((1:Nat):Int)))))*1) (ak U)) .dead))=true) (m:(decide (((0:Nat):Int)<=(γ .i64 ((γ .i64 ((j:Int)+(n:Int))) - ((1:Nat):Int)))))=true) (h:(decide ((γ .i64 ((γ .i64 ((j:Int)+(n:Int))) - ((1:Nat):Int)))<(M:Int)))=true) (g:(chk (.int .u32) (η (ε ((0+(δ (γ .i64 ((j:Int)+(n:Int)))))*1) (ak U)) .dead))=true) (e:(decide (((0:Nat):Int)<=(γ .i64 ((j:Int)+(n:Int)))))=true) (f:(decide ((γ .i64 ((j:Int)+(n:Int)))<(M:Int)))=true) (a:lit true (decide (((0:Nat):Int)<=(j:Int)))=true) (r:CO 224 [.agg [.int .u32 (Γ (η (ε ((0+(δ (γ .i64 ((j:Int)+(n:Int)))))*1) (ak U)) .dead)),.int .u32 (Γ (η (ε ((0+(δ (γ .i64 ((γ .i64 ((j:Int)+(n:Int))) - ((1:Nat):Int)))))*1) (ak U)) .dead)),.int .u32 (Γ (η (ε ((0+(δ (γ .i64 ((γ .i64 ((j:Int)+(n:Int))) - ((2:Nat):Int)))))*1) (ak U)) .dead))],.agg [.int .u32 (Γ (η (ε ((δ (γ .i64 ((n:Int) - ((1:Nat):Int))))*1) (ak v)) .dead)),.int .u32 (Γ (η (ε ((δ (γ .i64 ((n:Int) - ((2:Nat):Int))))*1) (ak v)) .dead)),.int .u32 0]] (.ret (.int .u64 (q:Int)))) (t:az prog ap 225 [.ref 0 0 (0+(δ (j:Int))) ((δ (γ .i64 ((γ .i64 ((j:Int)+(n:Int)))+((1:Nat):Int)))) - (δ (j:Int))),.sl (ak v) v.length true,.int .u64 (q:Int)] [⟨(ak U),0,false,0,1,true⟩] (.ret (.bool false)) [⟨(ak U1),0,false,0,1,true⟩]):ag prog ap [] nt (af 1 (am f194)) (vZ l p M (.sl (ak v) v.length true) n (j:Int) (ak Q) (ak U)) (.normal) (vZ l p M (.sl (ak v) v.length true) n (γ .i64 ((j:Int) - ((1:Nat):Int))) (τ ((0+(δ (j:Int)))*1) (ak Q)++ [.int .u32 (γ .u32 (q:Int))]++ε (((0+(δ (j:Int)))*1)+1) (ak Q)) (ak U1)):=pJ 194 [] 2 1 (.c h0 (.c o (.c s (.k 1 o (.c u (.c x (.c h5 (.c A (.c h7 (.c w (.c y (.c k (.c d (.c i (.c b (.c c (.c m (.c h (.c g (.c e (.c f (.c a .nil)))))))))))))))))))))) (.c t (.c r .nil)) z
theorem YQ {nt:Nat} (c:130<=nt) (Q U U1 U2 v:List Nat) (a b M n j q:Nat):ag prog ap [] nt (af 1 (am f194)) (vZ a b M (.sl (ak v) v.length true) n (-1) (ak Q) (ak U)) (.exit 1) (vZ a b M (.sl (ak v) v.length true) n (-1) (ak Q) (ak U)):=pJ 194 [] 1 0 (.n 1 .nil) (.nil) c
theorem EH {q Q k:Nat} (a:q<4294967296):bH (k+1) (4294967296*Q+q)=q::bH k Q:=by
 unfold bH;rw [Xw4,Xqf,Xzd];congr 1
 .simp only [Xjv,Xkn,Xvl,jS];omega
 .apply Xjt;intro i _;simp only [Xv8,Xk8];rw [show 32*(i+1)=32+32*i by omega,Xxs,<- Xwf,jS,show (4294967296*Q+q) / 4294967296=Q by omega]
theorem Gp {k W V:Nat} (q:V<4294967296^(k+2)) (b:2147483648*4294967296^(k+1)<=V) (o:W<V*4294967296):
  W / V<=qO (W / 4294967296^(k+2) % 4294967296) (W / 4294967296^(k+1) % 4294967296) (W / 4294967296^k % 4294967296) (V / 4294967296^(k+1) % 4294967296) (V / 4294967296^k % 4294967296)/\
  qO (W / 4294967296^(k+2) % 4294967296) (W / 4294967296^(k+1) % 4294967296) (W / 4294967296^k % 4294967296) (V / 4294967296^(k+1) % 4294967296) (V / 4294967296^k % 4294967296)<=W / V+1/\
  W / 4294967296^(k+2) % 4294967296<=V / 4294967296^(k+1) % 4294967296/\2147483648<=V / 4294967296^(k+1) % 4294967296:=by
 have a:0<4294967296^k:=eC k;have v:4294967296^(k+1)=4294967296^k*4294967296:=Xxh ..;have H:4294967296^(k+2)=4294967296^k*4294967296*4294967296:=by rw [Xxh,Xxh]
 rw [H] at q ⊢;rw [v] at b ⊢;generalize 4294967296^k=P at*
 simp only [<- Xwf];have I:=Xxm W P;have F:=Xq4 W a;have t:=Xxm V P;have A:=Xq4 V a;have hVpos:0<V:=by
  have:=Xjh (show 0<2147483648 by omega) (Xjh a (show 0<4294967296 by omega));omega
 generalize i:W / P=T at*
 generalize f:V / P=D at*
 generalize K:W % P=w at*
 generalize hd:V % P=d at*
 have j:2147483648*4294967296<=D:=by
  rw [<- f,Xwk a]
  calc 2147483648*4294967296*P=2147483648*(P*4294967296):=by rw [Xqv,Xqj 4294967296 P]
   _<=V:=b
 have r:D<4294967296*4294967296:=by
  rw [<- f,Xq0 a]
  calc V<P*4294967296*4294967296:=q
   _=4294967296*4294967296*P:=by rw [Xqv,Xqj P]
 have C:T<(D+1)*4294967296:=by
  rw [<- i,Xq0 a]
  calc W<V*4294967296:=o
   _<=(D+1)*P*4294967296:=Xqz _ (by rw [Xxy,Xqj D];omega)
   _=(D+1)*4294967296*P:=by rw [Xqv,Xqv,Xqj P]
 have m:W / V<=4294967295:=by
  have:W / V<4294967296:=by rw [Xq0 hVpos,Xqj];exact o
  omega
 have u:=Xxm W V;have y:=Xq4 W hVpos;have s:T / 4294967296 / 4294967296<4294967296:=by omega
 have c:4294967296*(4294967296*(T / 4294967296 / 4294967296 % 4294967296)+T / 4294967296 % 4294967296)+T % 4294967296=T:=by omega
 have g:4294967296*(D / 4294967296 % 4294967296)+D % 4294967296=D:=by omega
 have n:0<D / 4294967296 % 4294967296:=by omega
 refine ⟨?_, ?_,by omega,by omega⟩
 .rw [uE n,c,g];refine ⟨m, ?_⟩;have h:W / V*D*P<(T+1)*P:=by
   have p:W / V*D*P=W / V*(P*D):=by rw [Xqv,Xqj D]
   have l:W / V*(P*D)<=W / V*V:=Xxj _ (by omega);rw [Xqj (W / V) V] at l;rw [Xxy,Xqj T P];omega
  have:=Xvu h;omega
 .generalize B:qO _ _ _ _ _=e;have h:=(uE (x:=e) n).1 (by rw [B];exact κ _);rw [c,g] at h;obtain ⟨p,l⟩:=h;have h5:e*V<W+V:=by
   have N:e*V=e*(P*D)+e*d:=by rw [<- Xxq,t]
   have M:e*(P*D)=e*D*P:=by rw [Xqj P,Xqv]
   have z:e*D*P<=T*P:=Xqz _ l;have J:e*d<=e*P:=Xxj _ (by omega);have L:e*P<=4294967295*P:=Xqz _ p;have E:2147483648*4294967296*P<=D*P:=Xqz _ j;rw [Xqj D] at E;rw [Xqj T] at z;omega
  have G:e*V<(W / V+2)*V:=by
   rw [Xxy,Xqj (W / V)];omega
  have:=Xvu G;omega
def PP (a v:List Nat) (m j:Nat):List Nat:=ζ j 0++bH (m - j) (aC (a.drop j) / aC v)
def PQ (a v:List Nat) (m j:Nat):List Nat:=a.take j++bH v.length (aC (a.drop j) % aC v)++ζ (m - j) 0
def Ga (a v:List Nat) (sh m j:Nat):St:=(vZ m sh (m+v.length) (.sl (ak v) v.length true) v.length ((j:Int) - 1) (ak (PP a v m j)) (ak (PQ a v m j)))
theorem R2 {n r:Nat} (h:r<4294967296^n):bH (n+1) r=bH n r++ [0]:=by
 rw [pO,jC,Xjr h]
theorem Qu {a v:List Nat} {m j:Nat} (d:j<m) (c:a.length=m+v.length) (f:bG v) (b:bG a) (e:0<aC v):PQ a v m (j+1)=a.take j++bH (v.length+1) (4294967296*(aC (a.drop (j+1)) % aC v)+a.getD j 0)++ζ (m - j - 1) 0:=by
 unfold PQ;rw [EH (b.getD j),Xw5,show m - (j+1)=m - j - 1 by omega];have:a[j]? =some (a.getD j 0):=by rw [μ,ν (by omega)];rfl
 rw [this];simp
theorem Qt {a v:List Nat} {m j:Nat} (d:j<m) (c:bG v) (b:0<aC v):PQ a v m j=a.take j++bH (v.length+1) (aC (a.drop j) % aC v)++ζ (m - j - 1) 0:=by
 unfold PQ;rw [R2 (Xzf (Xq4 _ b) (lS c)),show m - j=(m - j - 1)+1 by omega,Xxa];simp
theorem Qs {a v:List Nat} {m j:Nat}:PP a v m (j+1)=ζ j 0++0::bH (m - j - 1) (aC (a.drop (j+1)) / aC v):=by
 unfold PP;rw [Xz5,show m - (j+1)=m - j - 1 by omega];simp
theorem Vw {V R' Q' x H:Nat} (a:0<V) (h:H=V*Q'+R'):(x+4294967296*H) / V=4294967296*Q'+(4294967296*R'+x) / V/\(x+4294967296*H) % V=(4294967296*R'+x) % V:=by
 subst h;have e:x+4294967296*(V*Q'+R')=4294967296*R'+x+V*(4294967296*Q'):=by
  rw [Xxq,Nat.mul_left_comm];omega
 rw [e];constructor
 .rw [Xvi _ _ a,Xja]
 .rw [Xws]
theorem Dw {pre post:List Nat} {n W i:Nat} (h:i<=n):(pre++bH (n+1) W++post).getD (pre.length+i) 0=W / 4294967296^i % 4294967296:=by
 rw [μ,Xxe (by simp [aL];omega),Xj5 (by omega),Nat.add_sub_cancel_left,m_ (by omega),jC,jS];rfl
theorem H9 {v:List Nat} (a:bG v) {i:Nat} (h:i<v.length):v.getD i 0=aC v / 4294967296^i % 4294967296:=by
 have e:=m_ (n:=aC v) h;rw [zl a,jC,jS] at e;rw [μ,e];rfl
def XZ (sh m M n:Nat) (v Q U:List Nat) (j:Int):St:=(vZ m sh M (.sl (ak v) v.length true) n j (ak Q) (ak U))
abbrev Y_ (x2 x1 x0 y1 y0:Nat):List AV:= [.agg [.int .u32 (x2:Int),.int .u32 (x1:Int),.int .u32 (x0:Int)],.agg [.int .u32 (y1:Int),.int .u32 (y0:Int),.int .u32 0]]
theorem YU {nt:Nat} (h:130<=nt) (Q R U U1 U2 v:List Nat) (b m n j q:Nat) (s:v.length=n) (k:2<=n) (r:U.length=m+n) (i:j<m) (o:m+n<2^40) (p:q<4294967296) (g:0<q) (l:Q.length=m) (a:∀ y:Nat,τ j (ak Q)++ [Xxx .u32 (y:Int)]++ε (j+1) (ak Q)=ak (Q.set j y)) (f:Q.set j (q - 1)=R)
  (c0:CO 224 (Y_ (U.getD (j+n) 0) (U.getD (j+n - 1) 0) (U.getD (j+n - 2) 0) (v.getD (n - 1) 0) (v.getD (n - 2) 0)) (.ret (.int .u64 (q:Int))))
  (c1:az prog ap 225 [.ref 0 0 j (n+1),.sl (ak v) v.length true,.int .u64 (q:Int)] (lC U) (.ret (.bool true)) (lC U1))
  (c2:az prog ap 226 [.ref 0 0 j (n+1),.sl (ak v) v.length true] (lC U1) (.ret (.tup [])) (lC U2)):
  ag prog ap [] nt (af 1 (am f194)) (XZ b m (m+n) n v Q U (j:Int)) .normal (XZ b m (m+n) n v R U2 ((j:Int) - 1)):=by
 have hbody:=YT h Q U U1 U2 v m b (m+n) n j q;have d:γ .i64 ((j:Int) - ((1:Nat):Int))=(j:Int) - 1:=cf (by omega) (by omega);have c:(q+(18446744073709551616 - 1)) % 18446744073709551616=q - 1:=by omega
 have e:j+n+1 - j=n+1:=by omega
 simp (disch:=first|omega|(simp [aq,ay]<;>omega)) only [aF,Ψ,Xqi,aq,eV,bM,dg,bL,cA,bi,iM,ug,gK,bX,bo,e,d,iN,χ,c,nC,a] at hbody;rw [f] at hbody;unfold XZ;apply hbody<;>first|exact True.intro|omega|assumption
theorem YS {nt:Nat} (f:130<=nt) (Q R U U1 v:List Nat) (b m n j q:Nat) (p:v.length=n) (h:2<=n) (o:U.length=m+n) (g:j<m) (k:m+n<2^40) (l:q<4294967296) (i:Q.length=m) (a:∀ y:Nat,τ j (ak Q)++ [Xxx .u32 (y:Int)]++ε (j+1) (ak Q)=ak (Q.set j y)) (e:Q.set j q=R)
  (c0:CO 224 (Y_ (U.getD (j+n) 0) (U.getD (j+n - 1) 0) (U.getD (j+n - 2) 0) (v.getD (n - 1) 0) (v.getD (n - 2) 0)) (.ret (.int .u64 (q:Int))))
  (c1:az prog ap 225 [.ref 0 0 j (n+1),.sl (ak v) v.length true,.int .u64 (q:Int)] (lC U) (.ret (.bool false)) (lC U1)):
  ag prog ap [] nt (af 1 (am f194)) (XZ b m (m+n) n v Q U (j:Int)) .normal (XZ b m (m+n) n v R U1 ((j:Int) - 1)):=by
 have hbody:=YR f Q U U1 U v m b (m+n) n j q;have c:γ .i64 ((j:Int) - ((1:Nat):Int))=(j:Int) - 1:=cf (by omega) (by omega);have d:j+n+1 - j=n+1:=by omega
 simp (disch:=first|omega|(simp [aq,ay]<;>omega)) only [aF,Ψ,Xqi,aq,eV,bM,dg,bL,cA,bi,iM,ug,gK,bX,bo,d,c,nC,χ,a] at hbody;rw [e] at hbody;unfold XZ;apply hbody<;>first|exact True.intro|omega|assumption
theorem Ji {l:List Nat} {j:Nat} (h:j<l.length) (y:Nat):τ j (ak l)++ [Xxx .u32 (y:Int)]++ε (j+1) (ak l)=ak (l.set j y):=by
 rw [kY,Mb,Xjf,if_pos h];simp [ak]
theorem QM (a b c d e:Nat):qO a b c d e<4294967296:=φ (Nat.min_le_left _ _) (by omega)
theorem Qw {nt:Nat} (U:130<=nt) (a v:List Nat) (C m j k:Nat) (z:v.length=k+2) (B:j<m) (V:a.length=m+v.length) (r:bG v) (A:bG a) (R:a.length<2^40) (y:2147483648*4294967296^(k+1)<=aC v):
  ag prog ap [] nt (af 1 (am f194)) (Ga a v C m (j+1)) .normal (Ga a v C m j):=by
 have p:=lS r;have hVpos:0<aC v:=by have:=Xjh (show 0<2147483648 by omega) (eC (k+1));omega
 have hx:=A.getD j;have S:=Xq4 (aC (a.drop (j+1))) hVpos;have F:=Xxm (aC (a.drop (j+1))) (aC v);have G:aC (a.drop j)=a.getD j 0+4294967296*aC (a.drop (j+1)):=Le (by omega);obtain ⟨t,s⟩:=Vw (x:=a.getD j 0) hVpos F.symm;rw [<- G] at t s;unfold Ga;rw [show (((j+1:Nat):Int) - 1)=(j:Int) by omega];rw [Qu B V r A hVpos,Qt B r hVpos,Qs,s];have Y:PP a v m j=ζ j 0++(4294967296*(aC (a.drop (j+1)) % aC v)+a.getD j 0) / aC v::bH (m - j - 1) (aC (a.drop (j+1)) / aC v):=by
  unfold PP;rw [t,show m - j=(m - j - 1)+1 by omega,EH]
  .rfl
  .rw [Xq0 hVpos];omega
 rw [Y];have Q:4294967296*(aC (a.drop (j+1)) % aC v)+a.getD j 0<aC v*4294967296:=by omega
 generalize aC (a.drop (j+1)) / aC v=Q' at*
 generalize 4294967296*(aC (a.drop (j+1)) % aC v)+a.getD j 0=W at*
 have h:(a.take j).length=j:=by simp;omega
 generalize a.take j=pre at*
 obtain ⟨b1,b2,b3,b4⟩:=Gp (k:=k) (W:=W) (by rw [<- z];exact p) y Q;have hpost:bG (ζ (m - j - 1) 0):=bG.zeros _;have E:W<4294967296^(v.length+1):=by
  rw [Xxh];exact υ Q (Xqz _ (Xko p))
 have D:=Dw (pre:=pre) (post:=ζ (m - j - 1) 0) (n:=v.length) (W:=W) (i:=k+2) (by omega);have J:=Dw (pre:=pre) (post:=ζ (m - j - 1) 0) (n:=v.length) (W:=W) (i:=k+1) (by omega);have L:=Dw (pre:=pre) (post:=ζ (m - j - 1) 0) (n:=v.length) (W:=W) (i:=k) (by omega);have v1:=H9 r (i:=k+1) (by omega);have v0:=H9 r (i:=k) (by omega);rw [h] at D J L;have O:j+v.length=j+(k+2):=by rw [z]
 have N:j+v.length - 1=j+(k+1):=by omega
 have M:j+v.length - 2=j+k:=by omega
 have T:v.length - 1=k+1:=by omega
 have P:v.length - 2=k:=by omega
 have hm:=Xq4 (W / 4294967296^(k+1)) (show 0<4294967296 by omega);have K:=Xq4 (W / 4294967296^k) (show 0<4294967296 by omega);have I:=Xq4 (aC v / 4294967296^(k+1)) (show 0<4294967296 by omega);have u:=Xq4 (aC v / 4294967296^k) (show 0<4294967296 by omega);have d:=VS _ _ _ _ _ b3 hm K I u b4;generalize hE:qO _ _ _ _ _=q at b1 b2 d;have g:q<4294967296:=by rw [<- hE];exact QM ..
 have w:(pre++bH (v.length+1) W++ζ (m - j - 1) 0).length=m+v.length:=by simp [aL,h];omega
 have htake:=SW pre (ζ (m - j - 1) 0) v true v.length W q rfl r g E hpost (by omega);have X:=Xxm W (aC v);have Z:=Xq4 W hVpos;rw [h] at htake;rcases Xjg (W / aC v) q with hlt|hge
 .have o:q=W / aC v+1:=by omega
  have b:W<q*aC v:=by rw [o,Xxy,Xqj (W / aC v)];omega
  rw [if_pos b,Yq0 b] at htake;have hgive:=QY pre (ζ (m - j - 1) 0) v true v.length (W+4294967296^(v.length+1) - q*aC v) rfl r (by omega) hpost (by omega);rw [h] at hgive;have c:(W+4294967296^(v.length+1) - q*aC v+aC v) % 4294967296^(v.length+1)=W % aC v:=by
   have e:W+4294967296^(v.length+1) - q*aC v+aC v=W % aC v+4294967296^(v.length+1):=by
    have:q*aC v=aC v*(W / aC v)+aC v:=by rw [o,Xxy,Xqj (W / aC v)];omega
    omega
   rw [e,Nat.add_mod_right,χ];have:=Θ (show 0<4294967296 by omega) (show v.length<=v.length+1 by omega);omega
  rw [c] at hgive;have f:=Ji (l:=ζ j 0++0::bH (m - j - 1) Q') (j:=j) (by simp);have H:(ζ j 0++0::bH (m - j - 1) Q').set j (q - 1)=ζ j 0++W / aC v::bH (m - j - 1) Q':=by
   rw [Xkp _ _ (by simp),show q - 1=W / aC v by rw [o,Xvw]];simp
  have:=YU U _ _ _ _ _ v C m v.length j q rfl (by omega) w B (by omega) g (by rw [o];exact Nat.succ_pos _) (by simp [aL];omega) f H (by rw [N,M,T,P,O,D,J,L,v1,v0];exact d) htake hgive;exact this
 .have o:q=W / aC v:=by omega
  have b:¬ W<q*aC v:=by rw [o,Xqj];omega
  rw [if_neg b,Yq1 b] at htake;have c:W - q*aC v=W % aC v:=by rw [o,Xqj];omega
  rw [c] at htake;have f:=Ji (l:=ζ j 0++0::bH (m - j - 1) Q') (j:=j) (by simp);have H:(ζ j 0++0::bH (m - j - 1) Q').set j q=ζ j 0++W / aC v::bH (m - j - 1) Q':=by
   rw [Xkp _ _ (by simp),o];simp
  have:=YS U _ _ _ _ v C m v.length j q rfl (by omega) w B (by omega) g (by simp [aL];omega) f H (by rw [N,M,T,P,O,D,J,L,v1,v0];exact d) htake;exact this
theorem Qv {nt:Nat} (g:130<=nt) (a v:List Nat) (d m k:Nat) (e:v.length=k+2) (h:a.length=m+v.length) (i:bG v) (f:bG a) (c:a.length<2^40) (b:2147483648*4294967296^(k+1)<=aC v):
  ∀ j,j<=m->aB prog ap [] nt (af 1 (am f194)) (λ_=> .exit 1) (Ga a v d m) (Ga a v d m) j 0:=by
 intro j
 induction j with
 |zero=>exact λ_=> .done (YQ g (PP a v m 0) (PQ a v m 0) [] [] v m d (m+v.length) v.length 0 0)
 |succ j ih=>exact λl=> .next (Qw g a v d m j k e (by omega) h i f c b) (ih (by omega))
theorem YK (x y s r X1 b:Nat) (A Y Q U v:List Nat) (h0:lit true (decide ((jr x y)<((0:Nat):Int)))=true) (a:CO 213 [.sl (ak (digs x)) (digs x).length false,.sl (ak (digs y)) (digs y).length false] (.ret (ω (jr x y)))):CO 194 [.sl (ak (digs x)) (digs x).length false,.sl (ak (digs y)) (digs y).length false] (.ret (.tup [.nilS,.sl (ak (digs x)) (digs x).length false])):=pK [1] 1 1 (.c h0 .nil) (.c a .nil)
theorem YL (x y s r X1 g:Nat) (A Y Q U v:List Nat) (h0:(chk (.int .u32) (η (ak (digs y)) .dead))=true) (a:(decide (((0:Nat):Int)<(((digs y).length:Nat):Int)))=true) (b:lit true ((((digs y).length:Nat):Int)==((1:Nat):Int))=true) (e:lit false (decide ((jr x y)<((0:Nat):Int)))=true) (f:CO 213 [.sl (ak (digs x)) (digs x).length false,.sl (ak (digs y)) (digs y).length false] (.ret (ω (jr x y)))) (c:CO 221 [.sl (ak (digs x)) (digs x).length false,.int .u32 (Γ (η (ak (digs y)) .dead))] (.ret (.tup [.sl (ak (digs X1)) (digs X1).length false,.int .u32 (r:Int)]))) (d:CO 186 [.sl [.int .u32 (r:Int)] 1 true] (.ret (.sl (ak (digs r)) (digs r).length false))):CO 194 [.sl (ak (digs x)) (digs x).length false,.sl (ak (digs y)) (digs y).length false] (.ret (.tup [.sl (ak (digs X1)) (digs X1).length false,.sl (ak (digs r)) (digs r).length false])):=pK [1] 2 2 (.c h0 (.k 1 a (.c b (.c e .nil)))) (.c d (.c c (.c f .nil)))
abbrev Vau (a:Nat) (b:Nat):List AV:=[.sl (ak (digs a)) (digs a).length false,.sl (ak (digs b)) (digs b).length false]
abbrev VaS (a:Nat):AV:= .sl (ak (digs a)) (digs a).length false
theorem YM (x y s r X1 a:Nat) (A Y Q U v:List Nat) (h0:Vaw v) (d:(decide ((v.length:Int)<=(A.length:Int)))=true) (e:(decide (((0:Nat):Int)<=(γ .i64 ((A.length:Int) - (v.length:Int)))))=true) (g:(decide ((γ .i64 ((A.length:Int) - (v.length:Int)))=(γ .i64 ((A.length:Int) - (v.length:Int)))))=true) (k:(decide ((γ .i64 ((A.length:Int) - (v.length:Int)))<=((1099511627776:Nat):Int)))=true) (h5:(chk (.int .u32) (η (ε ((δ (γ .i64 ((((digs y).length:Nat):Int) - ((1:Nat):Int))))*1) (ak (digs y))) .dead))=true) (p:(decide (((0:Nat):Int)<=(γ .i64 ((((digs y).length:Nat):Int) - ((1:Nat):Int)))))=true) (h7:(decide ((γ .i64 ((((digs y).length:Nat):Int) - ((1:Nat):Int)))<(((digs y).length:Nat):Int)))=true) (i:lit false ((((digs y).length:Nat):Int)==((1:Nat):Int))=true) (l:lit false (decide ((jr x y)<((0:Nat):Int)))=true) (c:CO 213 (Vau x y) (.ret (ω (jr x y)))) (f:CO 222 [.int .u32 (Γ (η (ε ((δ (γ .i64 ((((digs y).length:Nat):Int) - ((1:Nat):Int))))*1) (ak (digs y))) .dead))] (.ret (ω (s:Int)))) (m:CO 223 [.sl (ak (digs x)) (digs x).length false,ω (s:Int)] (.ret (.own (ak A) A.length 1))) (n:CO 223 [.sl (ak (digs y)) (digs y).length false,ω (s:Int)] (.ret (.own (ak Y) Y.length 1))) (j:CO 186 [.sl (τ (Y.length*1) (ak Y)) Y.length true] (.ret (.sl (ak v) v.length true))) (o:LB 130 1 f194 (Um (VaS x) (VaS y) (δ (γ .i64 ((A.length:Int) - (v.length:Int)))) s A.length (.sl (ak v) v.length true) v.length (γ .i64 ((((δ (γ .i64 ((A.length:Int) - (v.length:Int)))):Nat):Int) - ((1:Nat):Int))) (decide ((jr x y)<((0:Nat):Int))) ((((digs y).length:Nat):Int)==((1:Nat):Int)) (dA (δ (γ .i64 ((A.length:Int) - (v.length:Int)))) [.int .u32 0]) (ak A)) (.normal) (Un a s A.length v.length (ak Q) (ak U))) (h:CO 186 [.sl (τ (a*1) (ak Q)) a true] (.ret (VaS X1))) (b:CO 227 [.sl (τ (((δ (v.length:Int)) - 0)*1) (ak U)) ((δ (v.length:Int)) - 0) true,ω (s:Int)] (.ret (VaS r))):CO 194 (Vau x y) (.ret (.tup (Vau X1 r))):=pK [1] 2 0 (.k 1 h0 (.c d (.c e (.c g (.c k (.c h5 (.c p (.c h7 (.c i (.c l .nil)))))))))) (.c b (.c h (.l o (.c j (.c n (.c m (.c f (.c c .nil))))))))
abbrev dvB (x y s m:Nat) (A v:List Nat):St:=(Um (.sl (ak (digs x)) (digs x).length false) (.sl (ak (digs y)) (digs y).length false) m s A.length (.sl (ak v) v.length true) v.length ((m:Int) - 1) (decide (jr x y<((0:Nat):Int))) (decide ((digs y).length=1)) (ak (ζ m 0)) (ak A))
abbrev dvC (s m:Nat) (A v Q U:List Nat):St:=(Un m s A.length v.length (ak Q) (ak U))
theorem YN (x y s r z m:Nat) (A Y Q U v:List Nat) (i:A.length=m+v.length) (e:A.length<2^40) (f:2<=(digs y).length) (d:(digs y).length<2^40) (j:0<m) (k:v.length<=U.length) (c:¬ jr x y<((0:Nat):Int)) (g:CO 213 [.sl (ak (digs x)) (digs x).length false,.sl (ak (digs y)) (digs y).length false] (.ret (ω (jr x y))))
  (c1:CO 222 [.int .u32 (((digs y).getD ((digs y).length - 1) 0:Nat):Int)] (.ret (ω (s:Int))))
  (c2:CO 223 [.sl (ak (digs x)) (digs x).length false,ω (s:Int)] (.ret (.own (ak A) A.length 1)))
  (c3:CO 223 [.sl (ak (digs y)) (digs y).length false,ω (s:Int)] (.ret (.own (ak Y) Y.length 1)))
  (c4:CO 186 [.sl (ak (τ Y.length Y)) Y.length true] (.ret (.sl (ak v) v.length true)))
  (l0:LB 130 1 f194 (dvB x y s m A v) .normal (dvC s m A v Q U))
  (c5:CO 186 [.sl (ak (τ m Q)) m true] (.ret (.sl (ak (digs z)) (digs z).length false)))
  (c6:CO 227 [.sl (ak (τ v.length U)) v.length true,ω (s:Int)] (.ret (.sl (ak (digs r)) (digs r).length false))):CO 194 [.sl (ak (digs x)) (digs x).length false,.sl (ak (digs y)) (digs y).length false] (.ret (.tup [.sl (ak (digs z)) (digs z).length false,.sl (ak (digs r)) (digs r).length false])):=by
 have h:=YM x y s r z m A Y Q U v;have b:γ .i64 ((m:Int) - ((1:Nat):Int))=(m:Int) - 1:=GA (by omega);have a:A.length - v.length=m:=by omega
 simp (disch:=first|omega|(simp [aq,ay]<;>omega)) only [dg,bM,iM,a,decide_true,aF,Xqi,ug,gK,bL,qM,dI,dV,eK,bo,kY,b,lP,Xzc] at h;apply h<;>first|exact True.intro|omega|assumption
abbrev dS (x:Nat):AV:= .sl (ak (digs x)) (digs x).length false
theorem gz.sl1 (a:List AV) (n:Nat) (b:Bool):gz (.ret (.sl a n b)) (.ret (.sl a n false)):=gz.ret rfl rfl (bC.sl a n b)
theorem o_ {x:Nat} (h:0<x):0<(digs x).length:=by
 rcases Xqh (digs x).length with h0|h0
 .have:=gU (n:=x) (m:=0) (by omega);simp at this;omega
 .exact h0
theorem L7 {x:Nat} (h:(digs x).length=1):digs x= [x]/\x<4294967296:=by
 have b:=gU (n:=x) (m:=1) (by omega);rw [Xqi,jS] at b;have a:=cO x
 match hd:digs x,h with
 | [d],_=>rw [hd] at a;simp [aC] at a;subst a;exact ⟨rfl,b⟩
theorem ji (x:Nat):x<4294967296^(digs x).length:=by
 have:=gU (n:=x) (κ _);rwa [jC] at this
theorem Cm {x k:Nat} (h:(digs x).length=k+1):4294967296^k<=x:=by
 rcases Xjg x (4294967296^k) with h1|h1
 .have:=gD (n:=x) (m:=k) (by rw [jC];exact h1);omega
 .exact h1
theorem Cn {x k:Nat} (h:x<4294967296^k):(digs x).length<=k:=gD (by rw [jC];exact h)
theorem Qn {x k:Nat} (h:4294967296^k<=x) (a:x<4294967296^(k+1)):(digs x).length=k+1:=by
 have b:=Cn a;have c:=ji x;rcases Xjg (digs x).length (k+1) with h3|h3
 .have:=Θ (show 0<4294967296 by omega) (show (digs x).length<=k by omega);omega
 .omega
theorem mI {x y:Nat} (h:x<=y):(digs x).length<=(digs y).length:=Cn (φ h (ji y))
theorem vl {y k:Nat} (h:(digs y).length=k+1):(digs y).getD k 0=y / 4294967296^k/\0<y / 4294967296^k/\y / 4294967296^k<4294967296:=by
 have b:=oZ y k;have d:=Cm h;have c:=ji y;rw [h] at c;have a:y / 4294967296^k<4294967296:=by
  rw [Xq0 (eC k),Xqj,<- Xxh];exact c
 rw [jC,jS,χ a] at b;exact ⟨b,Xvm d (eC k),a⟩
theorem NJ {y k:Nat} (h:(digs y).length=k+1):let s:=32 - dR (y / 4294967296^k)
  s<=31/\2147483648*4294967296^k<=2^s*y/\2^s*y<4294967296^(k+1):=by
 obtain ⟨_,b,d⟩:=vl h;obtain ⟨e,a,f,h5⟩:=qu b;have i:e+1<=32:=by rw [<- a];exact iH d
 intro s;have hs:s=31 - e:=by show 32 - dR (y / 4294967296^k)=_;rw [a];omega
 rw [hs];refine ⟨by omega, ?_, ?_⟩
 .have h7:2147483648=2^(31 - e)*2^e:=by rw [<- Xxs,show 31 - e+e=31 by omega]
  rw [h7,Xqv];refine Xxj _ ?_;exact (Xwk (eC k)).1 f
 .have c:y<2^(e+1)*4294967296^k:=(Xq0 (eC k)).1 h5;have g:4294967296^(k+1)=2^(31 - e)*(2^(e+1)*4294967296^k):=by
   rw [<- Xqv,<- Xxs,show 31 - e+(e+1)=32 by omega,jS,Xxh,Xqj]
  rw [g];exact Xzx c (Xqw _)
theorem Lf {a:List Nat} {m:Nat} (c:bG a) (h:m<=a.length):aC (a.drop m)=aC a / 4294967296^m:=by
 have d:=z_ a m h;have b:=lS (c.take m);rw [Xq7,Xjp h] at b;rw [d,Xvi _ _ (eC m),Xjr b,Ψ]
theorem JR (a v:List Nat) (m:Nat):PP a v m m=ζ m 0:=by unfold PP;rw [Xz7];simp [bH]
theorem JS {a v:List Nat} {m:Nat} (c:a.length=m+v.length) (b:bG a) (h:aC (a.drop m)<aC v):PQ a v m m=a:=by
 unfold PQ;rw [Xz7,χ h,<- GW (b.drop m) (by rw [Xx3];omega)];simp
theorem AX (x y:Nat) (f:0<y) (hx:(digs x).length<2^39) (G:(digs y).length<2^39):CO 194 [dS x,dS y] (.ret (.tup [dS (x / y),dS (x % y)])):=by
 have a:=rM (digs x) (digs y) false false (by omega);rw [ut] at a;rcases Xjg x y with hlt|hge
 .have hs:jr x y= -1:=by unfold jr;rw [if_pos hlt]
  have h:=YK x y 0 0 0 0 [] [] [] [] [] (by rw [hs];rfl) a;rw [Xjr hlt,χ hlt];exact h.out (gz.tup (.fit rfl rfl (bC.nilS false rfl) (.same .nil)))
 .have hs:lit false (decide (jr x y<((0:Nat):Int)))=true:=by
   unfold jr;rw [if_neg (by omega)];split<;>rfl
  rcases Xjg (digs y).length 2 with h1|h1
  .have B:(digs y).length=1:=by have:=o_ f;omega
   obtain ⟨K,U⟩:=L7 B;have n:=O9 (digs x) false y f U (by omega) (bG.digs x);rw [cO] at n;have hr:x % y<y:=Xq4 _ f;have ht:=UK [x % y] true (x % y) (by
    have X:=gJ (l:= [x % y]) (bG.cons (by omega) bG.nil);simpa [aC] using X) (by simp)
   have h:=YL x y 0 (x % y) (x / y) 0 [] [] [] [] [];have C:dS y= .sl (ak [y]) [y].length false:=by unfold dS;rw [K]
   rw [K] at h a;rw [C];refine h ?_ ?_ ?_ hs a (n.out (gz.tup (.fit rfl rfl (bC.sl _ _ _) (.same .nil)))) (ht.out (gz.sl1 _ _ _))
   all_goals rfl
  .obtain ⟨k,P⟩:∃ k,(digs y).length=k+2:=⟨(digs y).length - 2,by omega⟩
   obtain ⟨e,F,L⟩:=NJ P;generalize H:32 - dR (y / 4294967296^(k+1))=s at*
   obtain ⟨t1,t2,W⟩:=vl P;have d:=Rm _ W;rw [H,<- t1] at d;have b:=US (digs x) false s e hx (bG.digs x);have c:=US (digs y) false s e G (bG.digs y);have g:(digs (2^s*y)).length=k+2:=Qn (Xqs (by have:=eC (k+1);omega) F) L;have R:bG (Fw s 0 (digs y)):=Jj e _ _ (Xqw _) (bG.digs y);have w:bG (Fw s 0 (digs x)):=Jj e _ _ (Xqw _) (bG.digs x);have T:aC (Fw s 0 (digs y))=2^s*y:=by rw [Jk,cO,Ψ]
   have u:aC (Fw s 0 (digs x))=2^s*x:=by rw [Jk,cO,Ψ]
   have N:=wm (Fw s 0 (digs y)) _ (2^s*y) rfl (by rw [gJ R,T]) (by rw [ot];omega);have hmono:=mI hge;have Nf:=ot s (digs x) 0;have j:=ot s (digs y) 0;rw [<- Nf] at b;rw [<- j] at c;generalize Fw s 0 (digs x)=A at*
   generalize Fw s 0 (digs y)=Y at*
   have t:aC (digs (2^s*y))=2^s*y:=cO _;have Q:bG (digs (2^s*y)):=bG.digs _;have hV:0<2^s*y:=Xjh (Xqw _) f;generalize S:digs (2^s*y)=v at*
   obtain ⟨m,q⟩:∃ m,A.length=m+v.length:=⟨A.length - v.length,by omega⟩
   have M:aC (A.drop m)<aC v:=by
    rw [Lf w (by omega),u,t];refine υ ?_ F;rw [Xq0 (eC m),Xqv,<- Xxs];have D:2^s*x<2^s*4294967296^(digs x).length:=Xzx (ji x) (Xqw _);have J:2^s<=2^31:=Θ (by omega) e;have V:2^s*4294967296^(digs x).length<=2147483648*4294967296^(digs x).length:=Xqz _ (Xqs J (by decide));have Z:(digs x).length=k+1+m:=by omega
    rw [Z] at D V;omega
   have hloop:=λnt hn=>Qv (nt:=nt) hn A v s m k g q Q w (by omega) (by rw [t];exact F) m (κ _)
   have z:PP A v m 0=bH m (x / y):=by
    unfold PP;rw [Xx8,Xzc,u,t,Xkz _ _ (Xqw s),List.replicate_zero,Xqb]
   have I:PQ A v m 0=bH v.length (2^s*(x % y))++ζ m 0:=by
    unfold PQ;rw [Xx8,Xzc,u,t,Xvh,List.take_zero,Xqb]
   have o:x / y<4294967296^m:=by
    have C:=z_ A m (by omega);have D:=lS (w.take m);rw [Xq7,Xjp (by omega)] at D;rw [<- Xkz x y (Xqw s),<- u,Xq0 hV,C,<- t];have J:4294967296^m*(aC (A.drop m)+1)<=4294967296^m*aC v:=Xxj _ M;rw [Xxq,Xqi] at J;omega
   have O:=wm (bH m (x / y)) m (x / y) (aL ..) (wR (by rw [jC];exact o)) (by omega);have p:2^s*(x % y)<4294967296^v.length:=by
    rw [g];refine Xzf ?_ L;exact Xzx (Xq4 _ f) (Xqw _)
   have i:=Qq (bH v.length (2^s*(x % y))) true s e (by rw [aL];omega) (bG.pad _ _);rw [qI,jC,χ p,Nat.mul_div_cancel_left _ (Xqw s),aL] at i;have E:τ v.length (ak (bH v.length (2^s*(x % y))++ζ m 0))=ak (bH v.length (2^s*(x % y))):=by
    rw [kY,Xx7 (by rw [aL];exact κ _),Xqa (by rw [aL];exact κ _)]
   have r:(digs y).length - 1=k+1:=by omega
   rw [<- r] at d;refine YN x y s (x % y) (x / y) m A Y (bH m (x / y)) (bH v.length (2^s*(x % y))++ζ m 0) v q (by omega) (by omega) (by omega) (by omega) (by rw [ξ,aL];omega) (by simpa [lit] using hs) a d b c ?_ ?_ ?_ ?_
   .rw [Xxc];rw [Xqi,kY,Xxc] at N;exact N
   .refine aB.blk hloop (by simp) rfl ?_ ?_
    .unfold Ga;rw [JR,JS q w M,<- q];exact aD.of ⟨rfl,rfl,rfl,rfl,rfl,rfl,trivial⟩
    .unfold Ga;rw [z,I,<- q];exact aD.of ⟨rfl,rfl,rfl,rfl,trivial⟩
   .rw [Xqi,kY] at O;exact O.out (gz.sl1 _ _ _)
   .rw [<- kY,E];exact i.out (gz.sl1 _ _ _)
abbrev Vav (a:List UInt8):Prop:=CO 164 [.str a] (.ret (.sl (ak (digs (aj a))) (digs (aj a)).length false))
theorem aay (s t:List UInt8) (h0:lit false ((((digs (aj t)).length:Nat):Int)==((0:Nat):Int))=true) (e:Vav t) (c:Vav s) (d:CO 194 [.sl (ak (digs (aj s))) (digs (aj s)).length false,.sl (ak (digs (aj t))) (digs (aj t)).length false] (.ret (.tup [.sl (ak (digs ((aj s) / (aj t)))) (digs ((aj s) / (aj t))).length false,.sl (ak (digs ((aj s) % (aj t)))) (digs ((aj s) % (aj t))).length false]))) (a:CO 163 [.sl (ak (digs ((aj s) / (aj t)))) (digs ((aj s) / (aj t))).length false] (.ret (.str (ae ((aj s) / (aj t)))))) (b:CO 163 [.sl (ak (digs ((aj s) % (aj t)))) (digs ((aj s) % (aj t))).length false] (.ret (.str (ae ((aj s) % (aj t)))))):CO 167 [.str s,.str t] (.ret (.tup [.str (ae ((aj s) / (aj t))),.str (ae ((aj s) % (aj t))),.bool true])):=pK [] 1 0 (.c h0 .nil) (.c b (.c a (.c d (.c c (.c e .nil)))))
theorem Zk (s t:List UInt8) (g:Nat) (d:Vav s) (b:Vav t) (a:LB 26 0 f183 ⟨[(0,.str s),(1,.str t),(4,.str []),(5,.sl (ak (digs (aj s))) (digs (aj s)).length false),(6,.sl (ak (digs (aj t))) (digs (aj t)).length false),(8,.dead),(15,.dead)],[],.dead,[]⟩ (.normal) ⟨[(5,.sl (ak (digs g)) (digs g).length false)],[],.dead,[]⟩) (c:CO 163 [.sl (ak (digs g)) (digs g).length false] (Vaj g)):CO 183 [.str s,.str t] (Vaj g):=pK [0] 0 0 .nil (.c c (.l a (.c b (.c d .nil))))
abbrev VaY (a:Nat) (b:Nat):St:=⟨[(5,.sl (ak (digs a)) (digs a).length false),(6,.sl (ak (digs b)) (digs b).length false)],[],.dead,[]⟩
theorem Zi {nt:Nat} (a:26<=nt) (x y:Nat) (h0:lit true (decide (((0:Nat):Int)<(((digs y).length:Nat):Int)))=true) (b:CO 194 (Vau x y) (.ret (.tup [.sl (ak (digs (x / y))) (digs (x / y)).length false,.sl (ak (digs (x % y))) (digs (x % y)).length false]))):ψ nt f183 (VaY x y) (.normal) ⟨[(5,.sl (ak (digs y)) (digs y).length false),(6,.sl (ak (digs (x % y))) (digs (x % y)).length false)],[],.dead,[]⟩:=pJ 183 [] 1 1 (.c h0 .nil) (.c b .nil) a
theorem Zj {nt:Nat} (a:26<=nt) (x y:Nat) (h0:lit false (decide (((0:Nat):Int)<(((digs y).length:Nat):Int)))=true):ψ nt f183 (VaY x y) (.exit 0) ⟨[(5,.sl (ak (digs x)) (digs x).length false)],[],.dead,[]⟩:=pJ 183 [] 1 0 (.c h0 .nil) (.nil) a
theorem Vh (s:List UInt8) (k:Nat) (h0:lit true ((((digs (aj s)).length:Nat):Int)==((0:Nat):Int))=true) (a:CO 164 [.str s] (.ret (.sl (ak (digs (aj s))) (digs (aj s)).length false))):CO 125 [.str s] (.ret (ω 0)):=pK [] 1 1 (.c h0 .nil) (.c a .nil)
theorem Vi (s:List UInt8) (k:Nat) (h0:(chk (.int .u32) (η (ε ((δ (γ .i64 ((((digs (aj s)).length:Nat):Int) - ((1:Nat):Int))))*1) (ak (digs (aj s)))) .dead))=true) (a:(decide (((0:Nat):Int)<=(γ .i64 ((((digs (aj s)).length:Nat):Int) - ((1:Nat):Int)))))=true) (b:(decide ((γ .i64 ((((digs (aj s)).length:Nat):Int) - ((1:Nat):Int)))<(((digs (aj s)).length:Nat):Int)))=true) (d:lit false ((((digs (aj s)).length:Nat):Int)==((0:Nat):Int))=true) (e:CO 164 [.str s] (.ret (.sl (ak (digs (aj s))) (digs (aj s)).length false))) (c:CO 172 [.int .u32 (Γ (η (ε ((δ (γ .i64 ((((digs (aj s)).length:Nat):Int) - ((1:Nat):Int))))*1) (ak (digs (aj s)))) .dead))] (.ret (ω (k:Int)))):CO 125 [.str s] (.ret (ω (γ .i64 ((γ .i64 (((32:Nat):Int)*(γ .i64 ((((digs (aj s)).length:Nat):Int) - ((1:Nat):Int)))))+(k:Int))))):=pK [] 1 0 (.c h0 (.c a (.c b (.c d .nil)))) (.c c (.c e .nil))
theorem mJ {s:List UInt8} {n:Nat} (h:s.length<=4*n):(digs (aj s)).length<=n:=by
 have:=gD (vn s);omega
theorem GS (s:List UInt8) (hs:s.length<2^38):CO 164 [.str s] (.ret (dS (aj s))):=(pL s (by omega)).out (gz.sl1 _ _ _)
theorem qH (x:Nat):cM (digs x)=digs x:=by
 have:=gJ (bG.digs x);rwa [cO] at this
theorem NQ (x:Nat) (h:(digs x).length<2^36):CO 163 [dS x] (.ret (.str (ae x))):=mZ (digs x) x false (qH x) (by omega) h
theorem Qo {x:Nat}:(digs x).length=0↔x=0:=by
 constructor
 .intro h;rcases Xqh x with h0|h0
  .exact h0
  .have:=o_ h0;omega
 .intro h;subst h;rfl
theorem G3 (s t:List UInt8) (hs:s.length<2^37) (e:t.length<2^37) (h0:0<aj t):CO 167 [.str s,.str t] (.ret (.tup [.str (ae (aj s / aj t)),.str (ae (aj s % aj t)),.bool true])):=by
 have a:=mJ (s:=s) (n:=2^35) (by omega);have b:=mJ (s:=t) (n:=2^35) (by omega);have hp:=o_ h0;have c:=mI (Xxo (aj s) (aj t));have d:=mI (Xko (Xq4 (aj s) h0));have h:=aay s t;simp (disch:=first|omega|(simp [aq,ay]<;>omega)) only [qM,dI,dV,eK] at h;exact h (by omega) (GS t (by omega)) (GS s (by omega)) (AX _ _ h0 (by omega) (by omega)) (NQ _ (by omega)) (NQ _ (by omega))
def acI (p:Nat × Nat):St:=⟨[(5,dS p.1),(6,dS p.2)],[],.dead,[]⟩
def Zh (x:Nat):St:=⟨[(5,dS x)],[],.dead,[]⟩
theorem MS {nt:Nat} (a:26<=nt):∀ (n y x:Nat),y<n->(digs x).length<2^36->(digs y).length<2^36->aB prog ap [] nt (af 0 (am f183)) (λ_=> .exit 0) acI Zh (x,y) (Xxu x y):=by
 intro n
 induction n with
 |zero=>intro y x h;omega
 | succ n ih=>
  intro y x h e c;rcases Xqh y with rfl|h0
  .rw [Nat.gcd_zero_right];exact .done (Zj a x 0 rfl)
  .have b:=Xq4 x h0;have d:=mI (Xko b);have hnext:=ih (x % y) y (by omega) c (by omega);rw [show Xxu y (x % y)=Xxu x y by rw [Xkq y,<- Nat.gcd_rec,Xkq]] at hnext;refine .next ?_ hnext
   have hp:=o_ h0;exact Zi a x y (by rw [bL,bX];exact Yq0 hp) (AX _ _ h0 (by omega) (by omega))
theorem Wh (s t:List UInt8) (hs:s.length<2^37) (e:t.length<2^37):CO 183 [.str s,.str t] (.ret (.str (ae (Xxu (aj s) (aj t))))):=by
 have b:=mJ (s:=s) (n:=2^35) (by omega);have c:=mJ (s:=t) (n:=2^35) (by omega);have a:(digs (Xxu (aj s) (aj t))).length<2^36:=by
  rcases Xqh (aj s) with h|h
  .rw [h,Xw6];omega
  .have:=mI (Xvn (aj t) h);omega
 exact Zk s t _ (GS s (by omega)) (GS t (by omega)) (aB.blk (λnt d=>MS d (aj t+1) (aj t) (aj s) (by omega) (by omega) (by omega)) (by simp) rfl (aD.of ⟨rfl,rfl,trivial⟩) (aD.of ⟨rfl,trivial⟩)) (NQ _ a)
theorem Ng {y k:Nat} (h:(digs y).length=k+1):dR y=32*k+dR ((digs y).getD k 0):=by
 obtain ⟨b,_,_⟩:=vl h;have a:=Cm h;rw [<- jC] at a;rw [b,tz a,jC]
theorem HI (s:List UInt8) (hs:s.length<2^37):CO 125 [.str s] (.ret (ω ((dR (aj s):Nat):Int))):=by
 have g:=mJ (s:=s) (n:=2^35) (by omega);rcases Xqh (aj s) with h0|h0
 .have hp:=Qo.2 h0;have h:=Vh s 0 (by rw [hp];rfl) (GS s (by omega));rw [h0];exact h
 .have hp:=o_ h0;obtain ⟨k,e⟩:∃ k,(digs (aj s)).length=k+1:=⟨(digs (aj s)).length - 1,by omega⟩
  have a:(digs (aj s)).getD k 0<4294967296:=bG.getD (bG.digs _) k;have j:=Ef _ a;have i:dR ((digs (aj s)).getD k 0)<=32:=iH a;rw [Ng e];have h:=Vi s (dR ((digs (aj s)).getD k 0));rw [e] at h;have d:k+1 - 1=k:=rfl;have f:k<(digs (aj s)).length:=by omega
  generalize dR ((digs (aj s)).getD k 0)=b at*
  simp (disch:=first|omega|(simp [aq,ay]<;>omega)) only [iM,d,aF,Xqi,ug,gK,dg,bM,bL,qM,dI,dV,eK,bo,xN,bi,cA] at h;have c:=GS s (by omega);unfold dS at c;rw [e] at c;apply h<;>first|exact True.intro|omega|assumption|exact rfl
def nR (s:List UInt8):Bool:=match s with| []=>true|c::_=> !(c==0)
def uV (s:List UInt8):Bool:=nR s && decide (0<aj s)
def gM (neg:Bool) (n d:List UInt8):Bool:=nR n && nR d && decide (0<aj d) && decide (Xxu (aj n) (aj d)=1) && (!neg||decide (0<aj n))
theorem Z9 (s:List UInt8) (h0:lit true (nR s)=true) (b:CO 162 [.str s] (.ret (.bool (nR s)))) (a:CO 185 [.str s,.str []] (.ret (ω (jr (aj s) (aj []))))):CO 161 [.agg [.str []],.str s] (.ret (.bool (decide (((0:Nat):Int)<(jr (aj s) (aj [])))))):=pK [] 1 1 (.k 1 h0 .nil) (.c a (.c b .nil))
abbrev VaG:gy:= .ret (.bool false)
theorem Z_ (s:List UInt8) (h0:lit false (nR s)=true) (a:CO 162 [.str s] (.ret (.bool (nR s)))):CO 161 [.agg [.str []],.str s] VaG:=pK [] 1 0 (.c h0 .nil) (.c a .nil)
abbrev Van (a:List UInt8) (b:Nat):Prop:=CO 167 [.str a,.str (ae b)] (.ret (.tup [.str (ae (aj a / b)),.str (ae (aj a % b)),.bool true]))
theorem ZE (a:Bool) (n d:List UInt8) (g:Nat) (h0:lit true a=true) (e:CO 183 [.str n,.str d] (Vaj g)) (b:Van n g) (c:Van d g):CO 159 [.bool a,.str n,.str d] (.ret (.agg [.bool (!((ae (aj n / g))== [])),.str (ae (aj n / g)),.str (ae (aj d / g))])):=pK [] 1 1 (.k 4 h0 .nil) (.c c (.c b (.c e .nil)))
theorem ZF (a:Bool) (n d:List UInt8) (g:Nat) (h0:lit false a=true) (e:CO 183 [.str n,.str d] (Vaj g)) (b:Van n g) (c:Van d g):CO 159 [.bool a,.str n,.str d] (.ret (Ω false (ae (aj n / g)) (ae (aj d / g)))):=pK [] 1 0 (.k 4 h0 .nil) (.c c (.c b (.c e .nil)))
theorem OB (b a:Bool) (n d c e:List UInt8) (h0:lit true (nR n)=true) (f:lit true (uV d)=true) (i:CO 161 [.agg [.str []],.str d] (.ret (.bool (uV d)))) (g:CO 162 [.str n] (.ret (.bool (nR n)))) (h:CO 159 [.bool b,.str n,.str d] (.ret (Ω a c e))):CO 115 [Ω b n d] (.ret (.bool ((a==b) && ((c==n) && ((e==d) && true))))):=pK [] 2 3 (.k 6 h0 (.k 1 f (.n 1 .nil))) (.c h (.c g (.c i .nil)))
theorem OC (a b:Bool) (n d g h:List UInt8) (h0:lit false (nR n)=true) (c:lit true (uV d)=true) (f:CO 161 [.agg [.str []],.str d] (.ret (.bool (uV d)))) (e:CO 162 [.str n] (.ret (.bool (nR n)))):CO 115 [Ω a n d] VaG:=pK [] 2 1 (.c h0 (.k 1 c (.n 1 .nil))) (.c e (.c f .nil))
theorem OD (a b:Bool) (n d e f:List UInt8) (h0:lit false (uV d)=true) (c:CO 161 [.agg [.str []],.str d] (.ret (.bool (uV d)))):CO 115 [Ω a n d] VaG:=pK [] 2 0 (.k 1 h0 (.n 1 .nil)) (.c c .nil)
abbrev VaC (a:Bool) (b:List UInt8) (c:List UInt8):Prop:=CO 115 [Ω a b c] (.ret (.bool (gM a b c)))
theorem We (a:Bool) (n d:List UInt8) (h0:lit true (decide ((((dR (aj n)):Nat):Int)<=((400:Nat):Int)))=true) (b:lit true (gM a n d)=true) (f:VaC a n d) (c:CO 125 [.str n] (.ret (ω (((dR (aj n)):Nat):Int)))) (e:CO 125 [.str d] (.ret (ω (((dR (aj d)):Nat):Int)))):CO 77 [Ω a n d] (.ret (.bool (decide ((((dR (aj d)):Nat):Int)<=((400:Nat):Int))))):=pK [] 2 3 (.k 1 h0 (.k 1 b (.n 3 .nil))) (.c e (.c c (.c f .nil)))
theorem Wf (a:Bool) (n d:List UInt8) (h0:lit false (decide ((((dR (aj n)):Nat):Int)<=((400:Nat):Int)))=true) (b:lit true (gM a n d)=true) (e:VaC a n d) (c:CO 125 [.str n] (.ret (ω (((dR (aj n)):Nat):Int)))):CO 77 [Ω a n d] VaG:=pK [] 2 1 (.c h0 (.k 1 b (.n 3 .nil))) (.c c (.c e .nil))
theorem Wg (a:Bool) (n d:List UInt8) (h0:lit false (gM a n d)=true) (b:VaC a n d):CO 77 [Ω a n d] VaG:=pK [] 2 0 (.k 1 h0 (.n 3 .nil)) (.c b .nil)
theorem cF:ae 0= []:=yX []
theorem bN {x k:Nat} (h:x<2^(8*k)):(ae x).length<=k:=by
 rw [<- Ii h];have a:=(Xwe (· ==0) (l:=h_ k x)).length_le;have b:(h_ k x).length=k:=by
  have:∀ m,(h_ m x).length=m:=by
   intro m
   induction m with
   |zero=>rfl
   |succ m ih=>rw [nK,ο,ih]
  exact this k
 omega
theorem eD (s:List UInt8):aj s<2^(8*s.length):=by
 have h:=qJ s;rwa [show (256:Nat)=2^8 from rfl,<- Xjs] at h
theorem jR {x:Nat} {s:List UInt8} (h:x<=aj s):(ae x).length<=s.length:=bN (φ h (eD s))
theorem db {x:Nat}:ae x= []↔x=0:=by
 constructor
 .intro h;have:=aE x;rw [h] at this;exact this.symm
 .intro h;subst h;exact cF
theorem yV {x y:Nat} (h:ae x=ae y):x=y:=by rw [<- aE x,h,aE]
theorem kQ (s:List UInt8):nR s=true↔ae (aj s)=s:=by
 rw [yX];cases s with
 |nil=>simp [nR]
 | cons c r=>
  simp only [nR,Xx5];by_cases h:c=0
  .subst h;simp only [beq_self_eq_true,Bool.not_true,Xqy,if_true,false_iff];intro a;have:=(Xwe (· ==(0:UInt8)) (l:=r)).length_le;rw [a] at this;simp at this;omega
  .simp [h]
theorem tG (x:Nat):nR (ae x)=true:=(kQ _).2 (by rw [aE])
theorem uP (s:List UInt8):CO 162 [.str s] (.ret (.bool (nR s))):=by
 cases s with
 |nil=>exact NG [] rfl
 | cons c r=>
  have h:=NH (c::r) (by simp) rfl;have e:(!((((c::r).getD 0 0).toNat:Int)==(0:Int)))=nR (c::r):=by
   simp only [List.getD_cons_zero,nR];by_cases hc:c=0
   .subst hc;rfl
   .have:c.toNat ≠ 0:=λh=>hc (by apply UInt8.toNat_inj.1;simpa using h)
    have a:((c.toNat:Int)==(0:Int))=false:=by simp;omega
    rw [a];simp [hc]
  rw [e] at h;exact h
theorem O7 (x:Nat):decide (((0:Nat):Int)<jr x (aj []))=decide (0<x):=by
 have:aj []=0:=rfl;rw [this];unfold jr;rcases Xqh x with rfl|h
 .rfl
 .rw [if_neg (by omega),if_pos h,Yq0 h];rfl
theorem Oa (s:List UInt8) (hs:s.length<2^37):CO 161 [.agg [.str []],.str s] (.ret (.bool (uV s))):=by
 have a:=uP s;unfold uV;cases b:nR s with
 |true=>
  have h:=Z9 s (by rw [b];rfl) a (Ya s [] (by omega) (by simp));rw [O7] at h;exact h
 |false=>
  exact Z_ s (by rw [b];rfl) a
abbrev C8 (neg:Bool) (n d:Nat):AV:= .agg [.bool neg,.str (ae n),.str (ae d)]
abbrev acN (neg:Bool) (n d:Nat):AV:=C8 (neg && decide (0<n)) (n / Xxu n d) (d / Xxu n d)
theorem DV {n d:Nat} (h:0<n):0<n / Xxu n d:=Xvm (Xvn d h) (Nat.gcd_pos_of_pos_left d h)
theorem Np (a:Bool) (n d:List UInt8) (l:n.length<2^36) (hd:d.length<2^36) (h0:0<aj d):CO 159 [.bool a,.str n,.str d] (.ret (acN a (aj n) (aj d))):=by
 have g:=Wh n d (by omega) (by omega);have b:0<Xxu (aj n) (aj d):=Xzi _ h0;have i:(ae (Xxu (aj n) (aj d))).length<=d.length:=jR (Nat.gcd_le_right _ h0);have c:=G3 n (ae (Xxu (aj n) (aj d))) (by omega) (by omega) (by rw [aE];exact b);have f:=G3 d (ae (Xxu (aj n) (aj d))) (by omega) (by omega) (by rw [aE];exact b);rw [aE] at c f;cases a with
 | true=>
  have h:=ZE true n d (Xxu (aj n) (aj d)) rfl g c f;have e:(!(ae (aj n / Xxu (aj n) (aj d))== []))=(true && decide (0<aj n)):=by
   rcases Xqh (aj n) with h1|h1
   .rw [h1,Nat.zero_div,cF];rfl
   .have k:=DV (d:=aj d) h1;have j:ae (aj n / Xxu (aj n) (aj d)) ≠ []:=λh=>by have:=db.1 h;omega
    simp [j,h1]
  rw [e] at h;exact h
 |false=>exact ZF false n d (Xxu (aj n) (aj d)) rfl g c f
theorem iF {a:Bool} {n d:List UInt8}:gM a n d=true↔nR n=true/\nR d=true/\0<aj d/\Xxu (aj n) (aj d)=1/\(a=true->0<aj n):=by
 unfold gM;cases a<;>simp [and_assoc]
theorem KN {f:Bool} {n d:List UInt8} (i:nR n=true) (j:nR d=true) (h:0<aj d):(((f && decide (0<aj n))==f) && ((ae (aj n / Xxu (aj n) (aj d))==n) && ((ae (aj d / Xxu (aj n) (aj d))==d) && true)))=gM f n d:=by
 rw [Xzv,iF];simp only [π,beq_iff_eq,and_true];have l:0<Xxu (aj n) (aj d):=Xzi _ h;constructor
 .rintro ⟨a,b,c⟩
  refine ⟨i,j,h, ?_, ?_⟩
  .have e:=congrArg aj c;rw [aE] at e;have k:=Nat.div_mul_cancel (Nat.gcd_dvd_right (aj n) (aj d));rw [e] at k;exact Nat.eq_of_mul_eq_mul_left h (by rw [k,Xqi])
  .intro g;subst g;simpa using a
 .rintro ⟨_,_,_,hg,g⟩
  rw [hg,Xvl,Xvl];refine ⟨?_,(kQ n).1 i,(kQ d).1 j⟩;cases f with
  |false=>rfl
  |true=>simp [g rfl]
theorem nj (a:Bool) (n d:List UInt8) (k:n.length<2^36:=by omega) (hd:d.length<2^36:=by omega):CO 115 [Ω a n d] (.ret (.bool (gM a n d))):=by
 have hp:=Oa d (by omega);have i:=uP n;cases c:uV d with
 | false=>
  have h:=OD a a n d n d (by rw [c];rfl) hp;have e:gM a n d=false:=by
   rw [Xw7];intro g;obtain ⟨_,j,l,_⟩:=iF.1 g;simp [uV,j,l] at c
  rw [e];exact h
 | true=>
  have b:nR d=true/\0<aj d:=by simpa [uV] using c
  cases f:nR n with
  | false=>
   have h:=OC a a n d n d (by rw [f];rfl) (by rw [c];rfl) hp i;have e:gM a n d=false:=by
    rw [Xw7];intro g;have:=(iF.1 g).1;rw [f] at this;cases this
   rw [e];exact h
  |true=>
   have h:=OB a (a && decide (0<aj n)) n d (ae (aj n / Xxu (aj n) (aj d))) (ae (aj d / Xxu (aj n) (aj d))) (by rw [f];rfl) (by rw [c];rfl) hp i (Np a n d k hd b.2);rw [KN f b.1 b.2] at h;exact h
def cT (neg:Bool) (n d:List UInt8):Bool:=gM neg n d && decide (dR (aj n)<=400) && decide (dR (aj d)<=400)
theorem cJ (a:Bool) (n d:List UInt8) (g:n.length<2^36:=by omega) (hd:d.length<2^36:=by omega):CO 77 [Ω a n d] (.ret (.bool (cT a n d))):=by
 have c:=nj a n d g hd;have e:=HI n (by omega);have f:=HI d (by omega);unfold cT;cases b:gM a n d with
 |false=>exact Wg a n d (by rw [b];rfl) c
 | true=>
  by_cases h3:dR (aj n)<=400
  .have h:=We a n d (by rw [dg,Yq0 h3];rfl) (by rw [b];rfl) c e f;rw [dg] at h;rw [Yq0 h3];exact h
  .have h:=Wf a n d (by rw [dg,Yq1 h3];rfl) (by rw [b];rfl) c e;rw [Yq1 h3];exact h
theorem RD (x:Nat) (h0:lit true (decide ((x:Int)<=((0:Nat):Int)))=true):CO 116 [ω (x:Int)] (.ret (.str [])):=pK [] 1 1 (.c h0 .nil) (.nil)
theorem RE (x:Nat) (h0:lit false (decide ((x:Int)<=((0:Nat):Int)))=true) (a:CO 163 [.sl [.int .u32 (γ .u32 (γ .i64 (Xxd (Xqg (Φ .i64) (x:Int) &&& Xqg (Φ .i64) ((4294967295:Nat):Int))))),.int .u32 (γ .u32 (Xq1 (x:Int) (2^(min 32 64))))] 2 true] (Vaj x)):CO 116 [ω (x:Int)] (Vaj x):=pK [] 1 0 (.k 1 h0 .nil) (.c a .nil)
abbrev VaH:gy:= .ret (.str (ae 1))
theorem Sh (x:Nat) (h0:lit false (decide ((x:Int)<((0:Nat):Int)))=true) (b:CO 116 [ω (x:Int)] (Vaj x)) (a:CO 116 [ω 1] VaH):CO 75 [ω (x:Int)] (.ret (Ω false (ae x) (ae 1))):=pK [] 1 0 (.k 4 h0 .nil) (.c a (.c b .nil))
theorem SF (a:Bool) (n d:List UInt8) (h0:lit true (!(gM a n d))=true) (b:VaC a n d):CO 107 [Ω a n d] (.ret (ω 0)):=pK [] 2 3 (.k 1 h0 (.n 3 .nil)) (.c b .nil)
abbrev VaA:Prop:=CO 75 [ω 0] (.ret (Ω false (ae 0) (ae 1)))
theorem SG (a:Bool) (n d:List UInt8) (h0:lit true ((a==false) && ((n==(ae 0)) && ((d==(ae 1)) && true)))=true) (b:lit false (!(gM a n d))=true) (e:VaC a n d) (c:VaA):CO 107 [Ω a n d] (.ret (ω 0)):=pK [] 2 2 (.c h0 (.k 3 b (.n 3 .nil))) (.c c (.c e .nil))
theorem SH (a:Bool) (n d:List UInt8) (h0:lit true a=true) (b:lit false ((a==false) && ((n==(ae 0)) && ((d==(ae 1)) && true)))=true) (c:lit false (!(gM a n d))=true) (f:VaC a n d) (e:VaA):CO 107 [Ω a n d] (.ret (ω (-1))):=pK [] 3 4 (.c h0 (.k 1 b (.k 3 c (.n 3 .nil)))) (.c e (.c f .nil))
theorem SI (a:Bool) (n d:List UInt8) (h0:lit false a=true) (b:lit false ((a==false) && ((n==(ae 0)) && ((d==(ae 1)) && true)))=true) (c:lit false (!(gM a n d))=true) (f:VaC a n d) (e:VaA):CO 107 [Ω a n d] (.ret (ω 1)):=pK [] 3 0 (.c h0 (.k 1 b (.k 3 c (.n 3 .nil)))) (.c e (.c f .nil))
theorem PG {x:Nat} (a:x<9223372036854775808):cM [x % 4294967296,x / 4294967296]=digs x:=by
 have h:=gJ (l:= [x % 4294967296,x / 4294967296]) (bG.cons (Xq4 _ (by omega)) (bG.cons (by omega) bG.nil));rw [h];congr 1;simp only [aC,Xjv,Xq3];omega
theorem F_ {x:Nat} (a:x<9223372036854775808):(digs x).length<=2:=Cn (υ a (by decide))
theorem tJ (x:Nat) (c:x<9223372036854775808):CO 116 [ω (x:Int)] (.ret (.str (ae x))):=by
 rcases Xqh x with rfl|h0
 .rw [cF];exact RD 0 rfl
 .have hd:=F_ c;have b:=mZ [x % 4294967296,x / 4294967296] x true (PG c) (by simp) (by omega);have h:=RE x;have d:(4294967295:Nat)<18446744073709551616:=by omega
  simp (disch:=first|omega|(simp [aq,ay]<;>omega)) only [dg,dI,dV,eK,acv,xI,bi,nC,χ,mX,iT,jS] at h;have a:¬ x<=0:=by omega
  apply h
  .exact a
  .exact b
theorem zo (x:Nat) (a:x<9223372036854775808):CO 75 [ω (x:Int)] (.ret (C8 false x 1)):=
 Sh x (by rw [bL];exact (by simp [lit])) (tJ x a) (tJ 1 (by omega))
theorem gV:CO 75 [ω 0] (.ret (C8 false 0 1)):=zo 0 (by omega)
theorem pQ:CO 75 [ω 1] (.ret (C8 false 1 1)):=zo 1 (by omega)
def ml (neg:Bool) (n d:List UInt8):Int:=if gM neg n d=true/\0<aj n then (if neg then -1 else 1) else 0
theorem yB {a:Bool} {n d:List UInt8} (h:gM a n d=true):((a==false) && ((n==ae 0) && ((d==ae 1) && true)))=decide (aj n=0):=by
 obtain ⟨f,g,i,b,h5⟩:=iF.1 h;have c:=(kQ n).1 f;have e:=(kQ d).1 g;rw [Xzv];simp only [π,beq_iff_eq,and_true,decide_eq_true_eq];constructor
 .rintro ⟨_,hn,_⟩
  rw [hn,aE]
 .intro h0;rw [h0] at c b;rw [Xw6] at b;rw [b] at e;refine ⟨?_,c.symm,e.symm⟩;cases a with
  |false=>rfl
  |true=>have:=h5 rfl;omega
theorem gF (a:Bool) (n d:List UInt8) (e:n.length<2^36) (hd:d.length<2^36):CO 107 [Ω a n d] (.ret (ω (ml a n d))):=by
 have c:=nj a n d e hd;unfold ml;cases b:gM a n d with
 |false=>
  have h:=SF a n d (by rw [b];rfl) c;rw [if_neg (by simp)];exact h
 | true=>
  by_cases h0:aj n=0
  .have h:=SG a n d (by rw [yB b,Yq0 h0];rfl) (by rw [b];rfl) c gV;rw [if_neg (by omega)];exact h
  .rw [if_pos ⟨rfl,by omega⟩];cases a with
   |true=>exact SH true n d rfl (by rw [yB b,Yq1 h0];rfl) (by rw [b];rfl) c gV
   |false=>exact SI false n d rfl (by rw [yB b,Yq1 h0];rfl) (by rw [b];rfl) c gV
theorem sC {i:Nat} (h:i<2^62):ω (γ .i64 ((i:Int)+((1:Nat):Int)))= ω ((i+1:Nat):Int):=by rw [cf]<;>first|rfl|omega
def cy (fd fc:Nat->Nat->Nat->Nat):List Nat->List Nat->Nat->List Nat × Nat
 | [],_,c=>([],c)
 |x::l,m,c=>(fd x (m.headD 0) c::(cy fd fc l m.tail (fc x (m.headD 0) c)).1,(cy fd fc l m.tail (fc x (m.headD 0) c)).2)
def xk (x y c:Nat):Nat:=(x+y+c) % 4294967296
def ve (x y c:Nat):Nat:=(x+y+c) / 4294967296
def vK (x y c:Nat):Nat:=(x+4294967296 - y - c) % 4294967296
def rS (x y c:Nat):Nat:=if x<y+c then 1 else 0
def Ui (x c:Nat):Nat:=x+c
def X7 (x y c:Nat):Nat:=x+y+c
def TT (x c:Nat):Nat:=(x+18446744073709551616 - c) % 18446744073709551616
def X5 (x y c:Nat):Nat:=(x+18446744073709551616 - y - c) % 18446744073709551616
theorem F8 (fd fc:Nat->Nat->Nat->Nat):∀ (l m:List Nat) (c:Nat),(cy fd fc l m c).1.length=l.length
 | [],_,_=>rfl
 |_::l,m,_=>by simp only [cy,ο,F8 fd fc l m.tail _]
theorem F9 {fd fc:Nat->Nat->Nat->Nat} (h:∀ x y c,fd x y c<4294967296):∀ (l m:List Nat) (c:Nat),bG (cy fd fc l m c).1
 | [],_,_=>bG.nil
 |_::l,m,_=>bG.cons (h _ _ _) (F9 h l m.tail _)
theorem TN (m:List Nat):aC m=m.headD 0+4294967296*aC m.tail:=by cases m with|nil=>rfl|cons x l=>rfl
theorem bG.hd {m:List Nat} (h:bG m):m.headD 0<4294967296:=by cases m with|nil=>show 0<_;omega|cons x l=>exact h.head
theorem bG.tl {m:List Nat} (h:bG m):bG m.tail:=by cases m with|nil=>exact h|cons x l=>exact h.tail
theorem O_:∀ (l m:List Nat) (c:Nat),m.length<=l.length->aC (cy xk ve l m c).1+4294967296^l.length*(cy xk ve l m c).2=aC l+aC m+c
 | [],m,c,h=>by
  have:m= []:=List.length_eq_zero_iff.1 (by simpa using h);subst this;simp [cy,aC]
 |x::l,m,c,h=>by
  have f:=O_ l m.tail (ve x (m.headD 0) c) (by rw [Yqt];simp only [ο] at h;omega);have a:=TN m;have hd:=Xxm (x+m.headD 0+c) 4294967296;simp only [cy,aC,ο,Xxh];have e:4294967296^l.length*4294967296*(cy xk ve l m.tail (ve x (m.headD 0) c)).2=4294967296*(4294967296^l.length*(cy xk ve l m.tail (ve x (m.headD 0) c)).2):=by rw [Xqj (4294967296^l.length),Xqv]
  rw [e,a];generalize 4294967296^l.length*(cy xk ve l m.tail (ve x (m.headD 0) c)).2=P at*
  generalize aC (cy xk ve l m.tail (ve x (m.headD 0) c)).1=V at*
  have b:xk x (m.headD 0) c=(x+m.headD 0+c) % 4294967296:=rfl;have d:ve x (m.headD 0) c=(x+m.headD 0+c) / 4294967296:=rfl;rw [d] at f;rw [b];omega
theorem Ns:∀ (l m:List Nat) (c:Nat),bG l->bG m->c<=1->m.length<=l.length->aC (cy vK rS l m c).1+aC m+c=aC l+4294967296^l.length*(cy vK rS l m c).2
 | [],m,c,_,_,_,h=>by
  have:m= []:=List.length_eq_zero_iff.1 (by simpa using h);subst this;simp [cy,aC]
 |x::l,m,c,hl,hm1,hc,h=>by
  have b:rS x (m.headD 0) c<=1:=by unfold rS;split<;>omega
  have d:=Ns l m.tail (rS x (m.headD 0) c) hl.tail hm1.tl b (by rw [Yqt];simp only [ο] at h;omega);have a:=TN m;have g:=hl.head;have f:=hm1.hd;simp only [cy,aC,ο,Xxh];have e:4294967296^l.length*4294967296*(cy vK rS l m.tail (rS x (m.headD 0) c)).2=4294967296*(4294967296^l.length*(cy vK rS l m.tail (rS x (m.headD 0) c)).2):=by rw [Xqj (4294967296^l.length),Xqv]
  rw [e,a];generalize 4294967296^l.length*(cy vK rS l m.tail (rS x (m.headD 0) c)).2=P at*
  generalize aC (cy vK rS l m.tail (rS x (m.headD 0) c)).1=V at*
  generalize m.headD 0=y at*
  have hd:vK x y c+y+c=x+4294967296*rS x y c:=by unfold vK rS;split<;>omega
  omega
theorem abY {x c:Nat} (b:x<4294967296) (a:c<=1):Xxx .u64 (γ .u64 ((γ .u64 (x:Int))+(c:Int)))= .int .u64 ((Ui x c:Nat):Int):=by
 rw [lu,cA,lu];unfold Ui;congr 2;omega
theorem adj {x y c:Nat} (d:x<4294967296) (b:y<4294967296) (a:c<=1):Xxx .u64 (γ .u64 (((Ui x c:Nat):Int)+(γ .u64 (y:Int))))= .int .u64 ((X7 x y c:Nat):Int):=by
 unfold Ui X7;rw [lu,cA,lu];congr 2;omega
theorem adl (x y c:Nat):Xxx .u32 (γ .u32 ((X7 x y c:Nat):Int))= .int .u32 ((xk x y c:Nat):Int):=by
 unfold X7 xk;rw [nC]
theorem adk (x y c:Nat):Xxx .u64 (Xq1 ((X7 x y c:Nat):Int) (2^(min 32 64)))= .int .u64 ((ve x y c:Nat):Int):=by
 unfold X7 ve;rw [show min 32 64=32 from rfl,iT]
theorem ab0 (x c:Nat):Xxx .u32 (γ .u32 ((Ui x c:Nat):Int))= .int .u32 ((xk x 0 c:Nat):Int):=by
 unfold Ui xk;rw [nC];rfl
theorem abZ (x c:Nat):Xxx .u64 (Xq1 ((Ui x c:Nat):Int) (2^(min 32 64)))= .int .u64 ((ve x 0 c:Nat):Int):=by
 unfold Ui ve;rw [show min 32 64=32 from rfl,iT];rfl
theorem ZG {x c:Nat} (b:x<4294967296) (a:c<=1):Xxx .u64 (γ .u64 ((γ .u64 (x:Int)) - (c:Int)))= .int .u64 ((TT x c:Nat):Int):=by
 rw [lu,iN];unfold TT;congr 2;omega
theorem acO {x y c:Nat} (d:x<4294967296) (b:y<4294967296) (a:c<=1):Xxx .u64 (γ .u64 (((TT x c:Nat):Int) - (γ .u64 (y:Int))))= .int .u64 ((X5 x y c:Nat):Int):=by
 unfold TT X5;rw [lu,iN];congr 2;omega
theorem acQ {x y c:Nat} (d:x<4294967296) (b:y<4294967296) (a:c<=1):Xxx .u32 (γ .u32 ((X5 x y c:Nat):Int))= .int .u32 ((vK x y c:Nat):Int):=by
 unfold X5 vK;rw [nC];congr 2;omega
theorem p63:(2:Nat)^63=9223372036854775808:=by decide
theorem acP {x y c:Nat} (d:x<4294967296) (b:y<4294967296) (a:c<=1):Xxx .u64 (Xq1 ((X5 x y c:Nat):Int) (2^(min 63 64)))= .int .u64 ((rS x y c:Nat):Int):=by
 unfold X5 rS;rw [show min 63 64=63 from rfl,iT,p63];congr 2;split<;>omega
theorem ZI {x c:Nat} (b:x<4294967296) (a:c<=1):Xxx .u32 (γ .u32 ((TT x c:Nat):Int))= .int .u32 ((vK x 0 c:Nat):Int):=by
 unfold TT vK;rw [nC];congr 2;omega
theorem ZH {x c:Nat} (b:x<4294967296) (a:c<=1):Xxx .u64 (Xq1 ((TT x c:Nat):Int) (2^(min 63 64)))= .int .u64 ((rS x 0 c:Nat):Int):=by
 unfold TT rS;rw [show min 63 64=63 from rfl,iT,p63];congr 2;split<;>omega
theorem Hh {x y c:Nat} (d:x<4294967296) (b:y<4294967296) (a:c<=1):ve x y c<=1:=by unfold ve;omega
theorem Nq {x y c:Nat}:rS x y c<=1:=by unfold rS;split<;>omega
theorem uf {d l:List Nat} {x:Nat}:ε ((δ (d.length:Int))*1) (ak (d++x::l))= [Xxx .u32 (x:Int)]++ak l:=by
 rw [aF,Xqi];unfold ak;rw [Xq5,List.drop_left' (by simp)];rfl
theorem uh {p s:List Nat} {x y:Nat}:τ ((0+(δ (p.length:Int)))*1) (ak (p++x::s))++ [Xxx .u32 (y:Int)]++ε (((0+(δ (p.length:Int)))*1)+1) (ak (p++x::s))=ak (p++y::s):=by
 rw [aF,Ψ,Xqi];exact jq rfl
def Hi (a b:List Nat) (na nb:Bool) (p:Nat × List Nat × Nat):St:=⟨[(0,.sl (ak a) a.length na),(1,.sl (ak b) b.length nb),(5,.ref 0 0 0 p.2.1.length),(6,.int .u64 (p.2.2:Int)),(21,ω (a.length:Int)),(22,ω (p.1:Int))],[(0,⟨(ak p.2.1),0,false,0,1,true⟩)],.dead,[]⟩
def E8 (a b:List Nat) (na nb:Bool) (p:List Nat × Nat):St:=(Ff (.sl (ak a) a.length na) (.sl (ak b) b.length nb) p.1.length (.int .u64 (p.2:Int)) (ak p.1))
theorem SU {nt:Nat} (G:59<=nt) (a b:List Nat) (M O:Bool) (F:bG a) (D:bG b) (Q:a.length<2^40) (t:List Nat):∀ (l d o e m:List Nat) (c:Nat),c<=1->d++l=a->o.length=d.length->e++m=b->(e.length=d.length\/(m= []/\e.length<=d.length))->
  aB prog ap [] nt (af 0 (am f169)) (λ_=> .exit 0) (Hi a b M O) (E8 a b M O) (d.length,o++(ζ l.length 0++t),c) (o++((cy xk ve l m c).1++t),(cy xk ve l m c).2):=by
 intro l
 induction l with
 |nil=>
  intro d o e m c J hd B r j;rw [Xqd] at hd;subst hd;have P:decide ((d.length:Int)<(d.length:Int))=false:=Yq1 (by omega);exact .done (pN 169 [] 1 0 (.c (aw P) .nil) .nil G)
 | cons x l ih=>
  intro d o e m c J hd B r j;have g:x<4294967296:=F x (by rw [<- hd];simp);have i:=J;have K:d.length+(l.length+1)=a.length:=by rw [<- hd];simp
  have H:(ε ((δ (d.length:Int))*1) (ak a))= [Xxx .u32 (x:Int)]++ak l:=by rw [<- hd];exact uf
  generalize ak l=ra at H;obtain ⟨w,q⟩:∃ w,w=o++(ζ (x::l).length 0++t):=⟨_,rfl⟩
  have p:∀ v:Nat,τ ((0+(δ (d.length:Int)))*1) (ak w)++ [Xxx .u32 (v:Int)]++ε (((0+(δ (d.length:Int)))*1)+1) (ak w)=ak ((o++ [v])++(ζ l.length 0++t)):=by
   intro v;rw [q,<- B,ο,Xxa,Xqu,uh,Xqe];rfl
  have C:w.length=o.length+(l.length+1)+t.length:=by rw [q];simp;omega
  have n:∀ v:Nat,((o++ [v])++(ζ l.length 0++t)).length=w.length:=by intro v;rw [C];simp;omega
  have h0:decide (((0:Nat):Int)<=(d.length:Int))=true:=Yq0 (by omega);have z:decide ((d.length:Int)<(a.length:Int))=true:=Yq0 (by omega);have L:decide ((d.length:Int)<(w.length:Int))=true:=Yq0 (by omega);have N:(Xqr (((0+(δ (d.length:Int)))*1)+1) (θ (ak w)))=true:=by rw [Xjk,aF,aq];omega
  rw [<- q];cases m with
  |cons y m=>
   have s:e.length=d.length:=by rcases j with h|h;exact h;cases h.1
   have u:y<4294967296:=D y (by rw [<- r];simp);have I:(ε ((δ (d.length:Int))*1) (ak b))= [Xxx .u32 (y:Int)]++ak m:=by rw [<- r,<- s];exact uf
   generalize ak m=rb at I;have A:decide ((d.length:Int)<(b.length:Int))=true:=Yq0 (by rw [<- r];simp;omega);have f:=ih (d++ [x]) (o++ [xk x y c]) (e++ [y]) m (ve x y c) (Hh g u i) (by rw [<- hd];simp) (by simp [B]) (by rw [<- r];simp) (.inl (by simp [s]));rw [ξ,Δ] at f;simp only [Xqe,Xju] at f;simp only [cy,Xjz,Xwt,Xva,Xka,Xqu];refine .next ?_ f
   unfold Hi;rw [show o++(xk x y c::(ζ l.length 0++t))=(o++ [xk x y c])++(ζ l.length 0++t) by simp,n,<- p];have E:d.length<2^62:=by omega
   generalize d.length=k at*
   exact pN 169 [] 2 3 (.c N (.c h0 (.c L (.k 2 h0 (.c A (.c (ax A) (.k 1 h0 (.c z (.c (ax z) .nil))))))))) (.v 50 (.eq (sC E)) (.v 48 (.eq (adk x y c)) (.v 46 (.eq (adl x y c)) (.v 42 (.eq (adj g u i)) (.v 39 (.ppt I) (.v 31 (.eq (abY g i)) (.v 27 (.ppt H) .nil))))))) G
  |nil=>
   have A:decide ((d.length:Int)<(b.length:Int))=false:=Yq1 (by rw [<- r,Xqd];rcases j with h|h<;>omega);have f:=ih (d++ [x]) (o++ [xk x 0 c]) e [] (ve x 0 c) (Hh g (by omega) i) (by rw [<- hd];simp) (by simp [B]) r (.inr ⟨rfl,by rw [ξ];rcases j with h|h<;>omega⟩);rw [ξ,Δ] at f;simp only [Xqe,Xju] at f;simp only [cy,Xjz,Xwt,Xva,Xka,Xqu];refine .next ?_ f
   unfold Hi;rw [show o++(xk x 0 c::(ζ l.length 0++t))=(o++ [xk x 0 c])++(ζ l.length 0++t) by simp,n,<- p];have E:d.length<2^62:=by omega
   generalize d.length=k at*
   exact pN 169 [] 2 1 (.c N (.c h0 (.c L (.k 1 (aw A) (.k 1 h0 (.c z (.c (ax z) .nil))))))) (.v 50 (.eq (sC E)) (.v 48 (.eq (abZ x c)) (.v 46 (.eq (ab0 x c)) (.v 31 (.eq (abY g i)) (.v 27 (.ppt H) .nil))))) G
def Kf (a b:List Nat) (na nb:Bool) (p:Nat × List Nat × Nat):St:=⟨[(0,.sl (ak a) a.length na),(1,.sl (ak b) b.length nb),(5,.ref 0 0 0 p.2.1.length),(6,.int .u64 (p.2.2:Int)),(13,ω (a.length:Int)),(14,ω (p.1:Int))],[(0,⟨(ak p.2.1),0,false,0,1,true⟩)],.dead,[]⟩
def Nr (a b:List Nat) (na nb:Bool) (p:List Nat × Nat):St:=(Ff (.sl (ak a) a.length na) (.sl (ak b) b.length nb) p.1.length (.int .u64 (p.2:Int)) (ak p.1))
theorem Rj {nt:Nat} (G:45<=nt) (a b:List Nat) (M O:Bool) (F:bG a) (D:bG b) (Q:a.length<2^40) (t:List Nat):∀ (l d o e m:List Nat) (c:Nat),c<=1->d++l=a->o.length=d.length->e++m=b->(e.length=d.length\/(m= []/\e.length<=d.length))->
  aB prog ap [] nt (af 0 (am f228)) (λ_=> .exit 0) (Kf a b M O) (Nr a b M O) (d.length,o++(ζ l.length 0++t),c) (o++((cy vK rS l m c).1++t),(cy vK rS l m c).2):=by
 intro l
 induction l with
 |nil=>
  intro d o e m c J hd B s j;rw [Xqd] at hd;subst hd;have P:decide ((d.length:Int)<(d.length:Int))=false:=Yq1 (by omega);exact .done (pN 228 [] 1 0 (.c (aw P) .nil) .nil G)
 | cons x l ih=>
  intro d o e m c J hd B s j;have f:x<4294967296:=F x (by rw [<- hd];simp);have i:=J;have K:d.length+(l.length+1)=a.length:=by rw [<- hd];simp
  have H:(ε ((δ (d.length:Int))*1) (ak a))= [Xxx .u32 (x:Int)]++ak l:=by rw [<- hd];exact uf
  generalize ak l=ra at H;obtain ⟨w,r⟩:∃ w,w=o++(ζ (x::l).length 0++t):=⟨_,rfl⟩
  have p:∀ v:Nat,τ ((0+(δ (d.length:Int)))*1) (ak w)++ [Xxx .u32 (v:Int)]++ε (((0+(δ (d.length:Int)))*1)+1) (ak w)=ak ((o++ [v])++(ζ l.length 0++t)):=by
   intro v;rw [r,<- B,ο,Xxa,Xqu,uh,Xqe];rfl
  have C:w.length=o.length+(l.length+1)+t.length:=by rw [r];simp;omega
  have n:∀ v:Nat,((o++ [v])++(ζ l.length 0++t)).length=w.length:=by intro v;rw [C];simp;omega
  have h0:decide (((0:Nat):Int)<=(d.length:Int))=true:=Yq0 (by omega);have z:decide ((d.length:Int)<(a.length:Int))=true:=Yq0 (by omega);have L:decide ((d.length:Int)<(w.length:Int))=true:=Yq0 (by omega);have N:(Xqr (((0+(δ (d.length:Int)))*1)+1) (θ (ak w)))=true:=by rw [Xjk,aF,aq];omega
  rw [<- r];cases m with
  |cons y m=>
   have u:e.length=d.length:=by rcases j with h|h;exact h;cases h.1
   have q:y<4294967296:=D y (by rw [<- s];simp);have I:(ε ((δ (d.length:Int))*1) (ak b))= [Xxx .u32 (y:Int)]++ak m:=by rw [<- s,<- u];exact uf
   generalize ak m=rb at I;have A:decide ((d.length:Int)<(b.length:Int))=true:=Yq0 (by rw [<- s];simp;omega);have g:=ih (d++ [x]) (o++ [vK x y c]) (e++ [y]) m (rS x y c) Nq (by rw [<- hd];simp) (by simp [B]) (by rw [<- s];simp) (.inl (by simp [u]));rw [ξ,Δ] at g;simp only [Xqe,Xju] at g;simp only [cy,Xjz,Xwt,Xva,Xka,Xqu];refine .next ?_ g
   unfold Kf;rw [show o++(vK x y c::(ζ l.length 0++t))=(o++ [vK x y c])++(ζ l.length 0++t) by simp,n,<- p];have E:d.length<2^62:=by omega
   generalize d.length=k at*
   exact pN 228 [] 2 3 (.c N (.c h0 (.c L (.k 2 h0 (.c A (.c (ax A) (.k 1 h0 (.c z (.c (ax z) .nil))))))))) (.v 42 (.eq (sC E)) (.v 40 (.eq (acP f q i)) (.v 38 (.eq (acQ f q i)) (.v 34 (.eq (acO f q i)) (.v 31 (.ppt I) (.v 23 (.eq (ZG f i)) (.v 19 (.ppt H) .nil))))))) G
  |nil=>
   have A:decide ((d.length:Int)<(b.length:Int))=false:=Yq1 (by rw [<- s,Xqd];rcases j with h|h<;>omega);have g:=ih (d++ [x]) (o++ [vK x 0 c]) e [] (rS x 0 c) Nq (by rw [<- hd];simp) (by simp [B]) s (.inr ⟨rfl,by rw [ξ];rcases j with h|h<;>omega⟩);rw [ξ,Δ] at g;simp only [Xqe,Xju] at g;simp only [cy,Xjz,Xwt,Xva,Xka,Xqu];refine .next ?_ g
   unfold Kf;rw [show o++(vK x 0 c::(ζ l.length 0++t))=(o++ [vK x 0 c])++(ζ l.length 0++t) by simp,n,<- p];have E:d.length<2^62:=by omega
   generalize d.length=k at*
   exact pN 228 [] 2 1 (.c N (.c h0 (.c L (.k 1 (aw A) (.k 1 h0 (.c z (.c (ax z) .nil))))))) (.v 42 (.eq (sC E)) (.v 40 (.eq (ZH f i)) (.v 38 (.eq (ZI f i)) (.v 23 (.eq (ZG f i)) (.v 19 (.ppt H) .nil))))) G
theorem XJ (a b w:List Nat) (d e:Bool) (c z:Nat) (k:(Xqr (((0+(δ (a.length:Int)))*1)+1) (θ (ak w)))=true) (l:(decide (((0:Nat):Int)<=(a.length:Int)))=true) (j:(decide ((a.length:Int)<(w.length:Int)))=true) (f:(decide (((0:Nat):Int)<=(γ .i64 ((a.length:Int)+((1:Nat):Int)))))=true) (i:(decide ((γ .i64 ((a.length:Int)+((1:Nat):Int)))=(γ .i64 ((a.length:Int)+((1:Nat):Int)))))=true) (g:(decide ((γ .i64 ((a.length:Int)+((1:Nat):Int)))<=((1099511627776:Nat):Int)))=true) (m:(decide ((a.length:Int)<(b.length:Int)))=false) (n:CO 186 [.sl (τ (w.length*1) (τ ((0+(δ (a.length:Int)))*1) (ak w)++ [.int .u32 (γ .u32 (c:Int))]++ε (((0+(δ (a.length:Int)))*1)+1) (ak w))) w.length true] (.ret (.sl (ak (digs z)) (digs z).length true))) (h:LB 59 0 f169 (UE (.sl (ak a) a.length d) (.sl (ak b) b.length e) (δ (γ .i64 ((a.length:Int)+((1:Nat):Int)))) (decide ((a.length:Int)<(b.length:Int))) a.length (dA (δ (γ .i64 ((a.length:Int)+((1:Nat):Int)))) [.int .u32 0])) (.normal) (Ff (.sl (ak a) a.length d) (.sl (ak b) b.length e) w.length (.int .u64 (c:Int)) (ak w))):CO 169 [.sl (ak a) a.length d,.sl (ak b) b.length e] (.ret (.sl (ak (digs z)) (digs z).length true)):=pK [0] 1 0 (.c k (.c l (.c j (.c f (.c i (.c g (.c (aw m) .nil))))))) (.c n (.l h .nil))
theorem XK (a b w:List Nat) (d e:Bool) (c z:Nat) (k:(Xqr (((0+(δ (b.length:Int)))*1)+1) (θ (ak w)))=true) (l:(decide (((0:Nat):Int)<=(b.length:Int)))=true) (j:(decide ((b.length:Int)<(w.length:Int)))=true) (f:(decide (((0:Nat):Int)<=(γ .i64 ((b.length:Int)+((1:Nat):Int)))))=true) (i:(decide ((γ .i64 ((b.length:Int)+((1:Nat):Int)))=(γ .i64 ((b.length:Int)+((1:Nat):Int)))))=true) (g:(decide ((γ .i64 ((b.length:Int)+((1:Nat):Int)))<=((1099511627776:Nat):Int)))=true) (m:(decide ((a.length:Int)<(b.length:Int)))=true) (n:CO 186 [.sl (τ (w.length*1) (τ ((0+(δ (b.length:Int)))*1) (ak w)++ [.int .u32 (γ .u32 (c:Int))]++ε (((0+(δ (b.length:Int)))*1)+1) (ak w))) w.length true] (.ret (.sl (ak (digs z)) (digs z).length true))) (h:LB 59 0 f169 (UE (.sl (ak b) b.length e) (.sl (ak a) a.length d) (δ (γ .i64 ((b.length:Int)+((1:Nat):Int)))) (decide ((a.length:Int)<(b.length:Int))) b.length (dA (δ (γ .i64 ((b.length:Int)+((1:Nat):Int)))) [.int .u32 0])) (.normal) (Ff (.sl (ak b) b.length e) (.sl (ak a) a.length d) w.length (.int .u64 (c:Int)) (ak w))):CO 169 [.sl (ak a) a.length d,.sl (ak b) b.length e] (.ret (.sl (ak (digs z)) (digs z).length true)):=pK [0] 1 1 (.c k (.c l (.c j (.c f (.c i (.c g (.c (ax m) .nil))))))) (.c n (.l h .nil))
theorem Rd (a b w:List Nat) (d e:Bool) (c z:Nat) (h:Vaw a) (i:(decide ((a.length:Int)=(a.length:Int)))=true) (g:VaT a) (j:CO 186 [.sl (τ (w.length*1) (ak w)) w.length true] (Val z)) (f:LB 45 0 f228 ⟨[(0,.sl (ak a) a.length d),(1,.sl (ak b) b.length e),(4,.nilS),(5,.ref 0 0 0 (δ (a.length:Int))),(6,.int .u64 0),(7,.dead),(8,.dead),(13,ω (a.length:Int)),(14,ω 0),(15,.dead),(27,.dead)],[(0,⟨(dA (δ (a.length:Int)) [.int .u32 0]),0,false,0,1,true⟩)],.dead,[]⟩ (.normal) (Ff (.sl (ak a) a.length d) (.sl (ak b) b.length e) w.length (.int .u64 (c:Int)) (ak w))):CO 228 (VaQ a d b e) (Val z):=pK [0] 0 0 (.c h (.c i (.c g .nil))) (.c j (.l f .nil))
abbrev Va8 (a:List UInt8):Prop:=CO 164 [.str a] (.ret (.sl (ak (digs (aj a))) (digs (aj a)).length true))
abbrev Vai (a:List UInt8) (b:List UInt8):List AV:=[.sl (ak (digs (aj a))) (digs (aj a)).length true,.sl (ak (digs (aj b))) (digs (aj b)).length true]
abbrev VaU (a:Nat):Prop:=CO 163 [.sl (ak (digs a)) (digs a).length true] (Vaj a)
theorem U8 (s t:List UInt8) (z:Nat) (d:Va8 s) (c:Va8 t) (b:CO 169 (Vai s t) (Val z)) (a:VaU z):CO 123 [.str s,.str t] (Vaj z):=pK [] 0 0 .nil (.c a (.c b (.c c (.c d .nil))))
theorem XG (s t:List UInt8) (z:Nat) (c:(decide ((jr (aj s) (aj t))<((0:Nat):Int)))=true) (d:Va8 s) (b:Va8 t) (a:CO 213 (Vai s t) (.ret (ω (jr (aj s) (aj t))))):CO 195 [.str s,.str t] (.ret (.tup [.str [],.bool false])):=pK [] 1 1 (.c (ax c) .nil) (.c a (.c b (.c d .nil)))
theorem XH (s t:List UInt8) (z:Nat) (e:(decide ((jr (aj s) (aj t))<((0:Nat):Int)))=false) (f:Va8 s) (d:Va8 t) (b:CO 213 (Vai s t) (.ret (ω (jr (aj s) (aj t))))) (a:CO 228 (Vai s t) (Val z)) (c:VaU z):CO 195 [.str s,.str t] (.ret (.tup [.str (ae z),.bool true])):=pK [] 1 0 (.c (aw e) .nil) (.c c (.c a (.c b (.c d (.c f .nil)))))
theorem WE (s t:List UInt8) (z:Nat) (d:Va8 s) (c:Va8 t) (b:CO 184 (Vai s t) (Val z)) (a:VaU z):CO 160 [.str s,.str t] (Vaj z):=pK [] 0 0 .nil (.c a (.c b (.c c (.c d .nil))))
theorem TA:∀ (l m:List Nat) (c:Nat),bG l->bG m->c<=1->(cy xk ve l m c).2<=1
 | [],_,_,_,_,h=>h
 |x::l,m,c,hl,hm,h=>by
  simp only [cy];exact TA l m.tail _ hl.tail hm.tl (Hh hl.head hm.hd h)
theorem Fm {a b:List Nat} (i k:Bool) (g:bG a) (f:bG b) (j:b.length<=a.length) (o:a.length<2^39):∃ (p:List Nat) (c:Nat),c<=1/\p.length=a.length/\bG (p++ [c])/\aC (p++ [c])=aC a+aC b/\∀ nt,59<=nt->
  aB prog ap [] nt (af 0 (am f169)) (λ_=> .exit 0) (Hi a b i k) (E8 a b i k) (0,ζ (a.length+1) 0,0) (p++ [0],c):=by
 have m:=TA a b 0 g f (by omega);have l:=O_ a b 0 j;have d:=F8 xk ve a b 0;have e:=F9 (fd:=xk) (fc:=ve) (λx y c=>Xq4 _ (by omega)) a b 0;refine ⟨(cy xk ve a b 0).1,(cy xk ve a b 0).2,m,d,e.app (bG.cons (by omega) bG.nil), ?_,λnt n=> ?_⟩
 .rw [jH,d];simp only [aC,Xjv,Xq3] at l ⊢;exact l
 .have h:=SU n a b i k g f (by omega) [0] a [] [] [] b 0 (by omega) rfl rfl rfl (.inl rfl);rw [Xqb,Xqb,<- Xz5] at h;exact h
theorem Jf {p:List Nat} {c n:Nat} (a:c<=1) (hp:p.length=n):τ ((0+(δ (n:Int)))*1) (ak (p++ [0]))++ [Xxx .u32 (γ .u32 (c:Int))]++ε (((0+(δ (n:Int)))*1)+1) (ak (p++ [0]))=ak (p++ [c]):=by
 subst hp;rw [nC,χ (by omega)];exact uh (p:=p) (s:= []) (x:=0) (y:=c)
theorem XL (a b:List Nat) (d e:Bool) (k:bG a) (i:bG b) (u:a.length<2^38) (v:b.length<2^38):CO 169 [.sl (ak a) a.length d,.sl (ak b) b.length e] (.ret (.sl (ak (digs (aC a+aC b))) (digs (aC a+aC b)).length true)):=by
 have t:∀ n:Nat,n<2^38->γ .i64 ((n:Int)+((1:Nat):Int))=((n+1:Nat):Int):=λn l=>by rw [cA,bi (by omega)]
 have hs:∀ (a b:List Nat) (d e:Bool) (p:List Nat) (c:Nat),(∀ nt,59<=nt->aB prog ap [] nt (af 0 (am f169)) (λ_=> .exit 0) (Hi a b d e) (E8 a b d e) (0,ζ (a.length+1) 0,0) (p++ [0],c))->
   LB 59 0 f169 ⟨[(0,.sl (ak a) a.length d),(1,.sl (ak b) b.length e),(5,.ref 0 0 0 (a.length+1)),(6,.int .u64 ((0:Nat):Int)),(21,ω (a.length:Int)),(22,ω ((0:Nat):Int))],[(0,⟨ak (ζ (a.length+1) 0),0,false,0,1,true⟩)],.dead,[]⟩ .normal (E8 a b d e (p++ [0],c)):=by
  intro a b d e p c j;have h:=aB.blk (s:=Hi a b d e (0,ζ (a.length+1) 0,0)) (s':=E8 a b d e (p++ [0],c)) (id:=0) j (by simp) rfl (aD.refl _) (aD.refl _);unfold Hi at h;simp only [Xq9] at h;exact h
 rcases Xjg a.length b.length with hlt|hge
 .obtain ⟨p,c,o,hp,g,r,j⟩:=Fm e d i k (Xko hlt) (by omega);have f:=XK a b (p++ [0]) d e c (aC a+aC b);have m:=hs b a e d p c j;rw [t b.length v,aF (b.length+1),lP,Jf o hp] at f;have q:(p++ [0]).length=b.length+1:=by rw [ξ,hp];rfl
  exact f (by rw [Xjk,aF];unfold ak;rw [Xqp];omega) (Yq0 (by omega)) (Yq0 (by omega)) (Yq0 (by omega)) (Yq0 rfl) (Yq0 (by omega)) (Yq0 (by omega))
   (wm (p++ [c]) _ _ (by simp) (by rw [gJ g,r,Xja]) (by omega)) λnt l=>(m nt l).weak (aD.of ⟨rfl,rfl,rfl,rfl,rfl,rfl,trivial⟩) (aD.refl _)
 .obtain ⟨p,c,o,hp,g,r,j⟩:=Fm d e k i hge (by omega);have f:=XJ a b (p++ [0]) d e c (aC a+aC b);have m:=hs a b d e p c j;rw [t a.length u,aF (a.length+1),lP,Jf o hp] at f;have q:(p++ [0]).length=a.length+1:=by rw [ξ,hp];rfl
  exact f (by rw [Xjk,aF];unfold ak;rw [Xqp];omega) (Yq0 (by omega)) (Yq0 (by omega)) (Yq0 (by omega)) (Yq0 rfl) (Yq0 (by omega)) (Yq1 (by omega))
   (wm (p++ [c]) _ _ (by simp) (by rw [gJ g,r]) (by omega)) λnt l=>(m nt l).weak (aD.of ⟨rfl,rfl,rfl,rfl,rfl,rfl,trivial⟩) (aD.refl _)
theorem Ke {a b:List Nat} (i l:Bool) (g:bG a) (f:bG b) (j:b.length<=a.length) (m:aC b<=aC a) (q:a.length<2^39):∃ (p:List Nat) (c:Nat),p.length=a.length/\bG p/\aC p=aC a - aC b/\∀ nt,45<=nt->
  aB prog ap [] nt (af 0 (am f228)) (λ_=> .exit 0) (Kf a b i l) (Nr a b i l) (0,ζ a.length 0,0) (p,c):=by
 have o:=Ns a b 0 g f (by omega) j;have e:=F8 vK rS a b 0;have d:=F9 (fd:=vK) (fc:=rS) (λx y c=>Xq4 _ (by omega)) a b 0;have k:=lS d;rw [e] at k;refine ⟨(cy vK rS a b 0).1,(cy vK rS a b 0).2,e,d, ?_,λnt n=> ?_⟩
 .have h0:(cy vK rS a b 0).2=0:=by
   rcases Xqh (cy vK rS a b 0).2 with h|h
   .exact h
   .have:=Xxj (4294967296^a.length) h;omega
  rw [h0] at o;omega
 .have h:=Rj n a b i l g f (by omega) [] a [] [] [] b 0 (by omega) rfl rfl rfl (.inl rfl);rw [Xqb,Xqb,Xqd,Xqd] at h;exact h
theorem Re (a b:List Nat) (d g:Bool) (l:bG a) (j:bG b) (k:b.length<=a.length) (i:aC b<=aC a) (r:a.length<2^38):CO 228 [.sl (ak a) a.length d,.sl (ak b) b.length g] (.ret (.sl (ak (digs (aC a - aC b))) (digs (aC a - aC b)).length true)):=by
 obtain ⟨p,c,hp,e,q,m⟩:=Ke d g l j k i (by omega);have f:=Rd a b p d g c (aC a - aC b);have h:=aB.blk (s:=Kf a b d g (0,ζ a.length 0,0)) (s':=Nr a b d g (p,c)) (id:=0) m (by simp) rfl (aD.refl _) (aD.refl _);unfold Kf at h;simp only [Xq9] at h;rw [aF,lP] at f;have o:τ (p.length*1) (ak p)=ak p:=by rw [Xqi,kY,Xxc]
 exact f (Yq0 (by omega)) (Yq0 rfl) (Yq0 (by omega)) (wm p _ _ rfl (by rw [gJ e,q]) (by omega)) λnt n=>(h nt n).weak (aD.of ⟨rfl,rfl,rfl,rfl,rfl,rfl,trivial⟩) (aD.refl _)
theorem mH {s:List UInt8} {n:Nat} (hs:s.length<=4*n):(digs (aj s)).length<=n:=by
 have h:=qJ s;refine gD (υ h ?_);rw [show (256:Nat)=2^8 from rfl,<- Xjs];exact Θ (by omega) (by omega)
theorem HP {x y:Nat} (h:y<=x):(digs y).length<=(digs x).length:=by
 refine gD (φ h ?_);rw [Xjs];exact ji x
theorem JJ {x y m n:Nat} (d:(digs x).length<=m) (c:(digs y).length<=n):(digs (x*y)).length<=m+n:=by
 refine gD ?_;have a:=υ (ji x) (Θ (by omega) d);have b:=υ (ji y) (Θ (by omega) c);rw [Xxq,Xxs,Xjs,Xjs];exact Nat.mul_lt_mul'' a b
theorem JI {x y n:Nat} (b:(digs x).length<=n) (a:(digs y).length<=n):(digs (x+y)).length<=n+1:=by
 refine gD ?_;have c:=υ (ji x) (Θ (by omega) b);have d:=υ (ji y) (Θ (by omega) a);rw [Xjs,Xxh];have:(2:Nat)^32=4294967296:=by decide
 rw [this];generalize 4294967296^n=P at*
 omega
theorem Rx (s t:List UInt8) (hs:s.length<2^36) (d:t.length<2^36):CO 123 [.str s,.str t] (.ret (.str (ae (aj s+aj t)))):=by
 have b:=mH (s:=s) (n:=2^34) (by omega);have a:=mH (s:=t) (n:=2^34) (by omega);have c:=JI b a;have h:=XL (digs (aj s)) (digs (aj t)) true true (bG.digs _) (bG.digs _) (by omega) (by omega);rw [cO,cO] at h;exact U8 s t _ (pL s (by omega)) (pL t (by omega)) h (mZ _ _ true (qH _) (by omega) (by omega))
theorem HN (s t:List UInt8) (hs:s.length<2^36):CO 213 [.sl (ak (digs (aj s))) (digs (aj s)).length true,.sl (ak (digs (aj t))) (digs (aj t)).length true] (.ret (ω (jr (aj s) (aj t)))):=by
 have h:=rM (digs (aj s)) (digs (aj t)) true true (xV (by omega));rw [ut] at h;exact h
theorem IU (x y:Nat):decide (jr x y<((0:Nat):Int))=decide (x<y):=by
 unfold jr;by_cases h:x<y
 .rw [if_pos h,Yq0 h];rfl
 .rw [if_neg h,Yq1 h];split<;>rfl
theorem RJ (s t:List UInt8) (hs:s.length<2^36) (a:t.length<2^36) (h:aj s<aj t):CO 195 [.str s,.str t] (.ret (.tup [.str [],.bool false])):=
 XG s t 0 (by rw [IU];exact Yq0 h) (pL s (by omega)) (pL t (by omega)) (HN s t hs)
theorem RK (s t:List UInt8) (hs:s.length<2^36) (c:t.length<2^36) (h:aj t<=aj s):CO 195 [.str s,.str t] (.ret (.tup [.str (ae (aj s - aj t)),.bool true])):=by
 have a:=mH (s:=s) (n:=2^34) (by omega);have b:=HP (Nat.sub_le (aj s) (aj t));have f:=Re (digs (aj s)) (digs (aj t)) true true (bG.digs _) (bG.digs _) (HP h) (by rw [cO,cO];exact h) (by omega);rw [cO,cO] at f;exact XH s t _ (by rw [IU];exact Yq1 (by omega)) (pL s (by omega)) (pL t (by omega)) (HN s t hs) f (mZ _ _ true (qH _) (by omega) (by omega))
def aA (l:List Nat):List AV:=l.map λ(d:Nat)=>ω (d:Int)
theorem fH (l:List Nat):(aA l).length=l.length:=by simp [aA]
theorem Ed (a b:List Nat):aA (a++b)=aA a++aA b:=by simp [aA]
theorem iE {l:List Nat} {k:Nat} (h:k<l.length):η (ε k (aA l)) .dead= ω ((l.getD k 0:Nat):Int):=by
 unfold aA;rw [<- Xjy,Xxk h,Xqf,Xjz,μ,ν h];rfl
theorem gI (l:List Nat) (k:Nat):τ k (aA l)=aA (l.take k):=by unfold aA;rw [Xw1]
theorem Ma (l:List Nat) (k:Nat):ε k (aA l)=aA (l.drop k):=by unfold aA;rw [Xjy]
theorem dY (x:Int):chk (.int .i64) (ω x)=true:=rfl
theorem Sn (m:Nat):dA m [ω 0]=aA (ζ m 0):=by
 unfold dA aA
 induction m with
 |zero=>rfl
 |succ m ih=>rw [Xxa,List.flatten_cons,ih,Xxa];rfl
theorem mS (l:List Nat) (x:Nat):aA l++ [ω (x:Int)]=aA (l++ [x]):=by rw [Ed];rfl
theorem Hv (x:Nat) (l:List Nat):cM (x::l)=if cM l= []/\x=0 then [] else x::cM l:=by
 unfold cM;rw [Xzr,List.dropWhile_append];by_cases h:(Yxj (· ==0) l.reverse)= []
 .simp only [h,List.isEmpty_nil,if_true,Xvb];by_cases hx:x=0
  .subst hx;simp
  .simp [hx]
 .have:(Yxj (· ==0) l.reverse).isEmpty=false:=by simpa using h
  simp only [this,Xqy,if_false];rw [if_neg (by simp only [List.reverse_eq_nil_iff];exact λ⟨h1,_⟩=>h h1)];simp
def gr:List Nat->Nat
 | []=>0
 |d::l=>d+16777216*gr l
def eN (l:List Nat):Prop:=∀ d ∈ l,d<16777216
theorem eN.nil:eN []:=λ_ h=>(by cases h)
theorem eN.cons {d:Nat} {l:List Nat} (h:d<16777216) (b:eN l):eN (d::l):=by
 intro x a;rcases List.mem_cons.1 a with rfl|a
 .exact h
 .exact b x a
theorem eN.head {d:Nat} {l:List Nat} (h:eN (d::l)):d<16777216:=h d (Xjm ..)
theorem eN.tail {d:Nat} {l:List Nat} (h:eN (d::l)):eN l:=λx a=>h x (Xx1 _ a)
theorem eN.getD {a:List Nat} (h:eN a) (n:Nat):a.getD n 0<16777216:=by
 rw [μ];rcases Xjg n a.length with hn|hn
 .rw [ν hn];exact h _ (List.getElem_mem hn)
 .rw [Xq8 hn];show 0<16777216;omega
theorem PJ (a b:List Nat):gr (a++b)=gr a+16777216^a.length*gr b:=by
 induction a with
 |nil=>simp [gr]
 |cons x a ih=>
  simp only [Xqu,gr,ih,ο,Xxh,Xxq];rw [Xqj (16777216^a.length) 16777216,Xqv];omega
theorem Dt {l:List Nat} (h:eN l):gr l<16777216^l.length:=by
 induction l with
 |nil=>simp [gr]
 |cons d l ih=>
  have a:=ih h.tail;have b:=h.head;simp only [gr,ο,Xxh];omega
def cI (n:Nat):List Nat:=if n=0 then [] else n % 16777216::cI (n / 16777216)
termination_by n
decreasing_by omega
theorem fU:cI 0= []:=by rw [cI,if_pos rfl]
theorem oY {n:Nat} (h:0<n):cI n=n % 16777216::cI (n / 16777216):=by rw [cI,if_neg (by omega)]
theorem kq (n:Nat):gr (cI n)=n:=by
 induction n using Xks with
 | _ n ih=>
  rcases Xqh n with rfl|h
  .rw [fU];rfl
  .rw [oY h];simp only [gr];rw [ih (n / 16777216) (by omega)];omega
theorem eN.dig (n:Nat):eN (cI n):=by
 induction n using Xks with
 | _ n ih=>
  rcases Xqh n with rfl|h
  .rw [fU];exact eN.nil
  .rw [oY h];exact eN.cons (Xq4 _ (by omega)) (ih (n / 16777216) (by omega))
theorem DU {n:Nat}:cI n= []↔n=0:=by
 constructor
 .intro h;have:=kq n;rw [h] at this;exact this.symm
 .intro h;subst h;exact fU
theorem UL {l:List Nat} (h:eN l):cM l=cI (gr l):=by
 induction l with
 |nil=>rw [show gr []=0 from rfl,fU];rfl
 | cons d l ih=>
  have hd:=h.head;rw [Hv,ih h.tail];simp only [gr];by_cases hz:gr l=0/\d=0
  .rw [if_pos ⟨DU.2 hz.1,hz.2⟩,hz.1,hz.2,fU]
  .rw [if_neg (λh=>hz ⟨DU.1 h.1,h.2⟩),oY (n:=d+16777216*gr l) (by omega)];rw [show (d+16777216*gr l) % 16777216=d by omega,show (d+16777216*gr l) / 16777216=gr l by omega]
theorem HO (n:Nat):n<16777216^(cI n).length:=by
 have:=Dt (eN.dig n);rwa [kq] at this
theorem Ql {n k:Nat} (h:(cI n).length=k+1):16777216^k<=n:=by
 induction k generalizing n with
 |zero=>
  rcases Xqh n with rfl|h0
  .rw [fU] at h;simp at h
  .rw [Xkn];exact h0
 | succ k ih=>
  rcases Xqh n with rfl|h0
  .rw [fU] at h;simp at h
  .rw [oY h0,ο] at h;have:=ih (n:=n / 16777216) (by omega);rw [Xxh];omega
theorem Cl {n k:Nat} (h:n<16777216^k):(cI n).length<=k:=by
 rcases Xjg k (cI n).length with h1|h1
 .obtain ⟨j,a⟩:∃ j,(cI n).length=j+1:=⟨(cI n).length - 1,by omega⟩
  have b:=Ql a;have c:=Θ (show 0<16777216 by omega) (show k<=j by omega);omega
 .exact h1
theorem JH {x y:Nat} (h:x<=y):(cI x).length<=(cI y).length:=Cl (φ h (HO y))
theorem Yy {nt:Nat} (c:19<=nt) (s:List UInt8) (k:Nat) (h0:lit true (((Xxr (Xje s (δ (k:Int)) 0):Nat):Int)==((0:Nat):Int))=true) (a:(decide (((0:Nat):Int)<=(k:Int)))=true) (b:(decide ((k:Int)<(((θ s):Nat):Int)))=true) (d:lit true (decide ((k:Int)<(((θ s):Nat):Int)))=true):ψ nt f91 (wk s (k:Int)) (.normal) (wk s (γ .i64 ((k:Int)+((1:Nat):Int)))):=pJ 91 [] 2 3 (.c h0 (.c a (.c b (.c d .nil)))) (.nil) c
theorem Yz {nt:Nat} (c:19<=nt) (s:List UInt8) (k:Nat) (h0:lit false (((Xxr (Xje s (δ (k:Int)) 0):Nat):Int)==((0:Nat):Int))=true) (a:(decide (((0:Nat):Int)<=(k:Int)))=true) (b:(decide ((k:Int)<(((θ s):Nat):Int)))=true) (d:lit true (decide ((k:Int)<(((θ s):Nat):Int)))=true):ψ nt f91 (wk s (k:Int)) (.exit 0) (wk s (k:Int)):=pJ 91 [] 2 1 (.c h0 (.c a (.c b (.c d .nil)))) (.nil) c
theorem YA {nt:Nat} (a:19<=nt) (s:List UInt8) (k:Nat) (h0:lit false (decide ((k:Int)<(((θ s):Nat):Int)))=true):ψ nt f91 (wk s (k:Int)) (.exit 0) (wk s (k:Int)):=pJ 91 [] 2 0 (.k 1 h0 .nil) (.nil) a
abbrev Va3 (a:Nat):Prop:=(decide (((0:Nat):Int)<=(a:Int)))=true
theorem Vk (s:List UInt8) (k:Nat) (h0:Va3 k) (a:(decide ((k:Int)<=(((θ s):Nat):Int)))=true) (b:(decide ((((θ s):Nat):Int)<=(((θ s):Nat):Int)))=true) (c:LB 19 0 f91 ⟨[(0,.str s),(2,.str []),(3,ω 0),(13,.dead)],[],.dead,[]⟩ (.normal) (wk s (k:Int))):CO 91 [.str s] (.ret (.str (ε (δ (k:Int)) (τ (δ (((θ s):Nat):Int)) s)))):=pK [0] 0 0 (.c h0 (.c a (.c b .nil))) (.l c .nil)
theorem aaN {nt:Nat} (e:21<=nt) (l:List Nat) (a:Bool) (h0:(decide (((0:Nat):Int)<=(γ .i64 ((l.length:Int) - ((1:Nat):Int)))))=true) (b:(decide ((γ .i64 ((l.length:Int) - ((1:Nat):Int)))<=(l.length:Int)))=true) (c:lit true ((Γ (η (ε ((δ (γ .i64 ((l.length:Int) - ((1:Nat):Int))))*1) (aA l)) .dead))==((0:Nat):Int))=true) (f:(chk (.int .i64) (η (ε ((δ (γ .i64 ((l.length:Int) - ((1:Nat):Int))))*1) (aA l)) .dead))=true) (d:(decide ((γ .i64 ((l.length:Int) - ((1:Nat):Int)))<(l.length:Int)))=true) (h5:lit true (decide (((0:Nat):Int)<(l.length:Int)))=true):ψ nt f131 (iw (.sl (aA l) l.length a)) (.normal) (iw (.sl (τ ((δ (γ .i64 ((l.length:Int) - ((1:Nat):Int))))*1) (aA l)) ((δ (γ .i64 ((l.length:Int) - ((1:Nat):Int)))) - 0) a)):=pJ 131 [] 2 3 (.k 1 h0 (.c b (.c c (.c f (.c h0 (.c d (.c h5 .nil))))))) (.nil) e
theorem aaO {nt:Nat} (e:21<=nt) (l:List Nat) (a:Bool) (h0:lit false ((Γ (η (ε ((δ (γ .i64 ((l.length:Int) - ((1:Nat):Int))))*1) (aA l)) .dead))==((0:Nat):Int))=true) (b:(chk (.int .i64) (η (ε ((δ (γ .i64 ((l.length:Int) - ((1:Nat):Int))))*1) (aA l)) .dead))=true) (c:(decide (((0:Nat):Int)<=(γ .i64 ((l.length:Int) - ((1:Nat):Int)))))=true) (f:(decide ((γ .i64 ((l.length:Int) - ((1:Nat):Int)))<(l.length:Int)))=true) (d:lit true (decide (((0:Nat):Int)<(l.length:Int)))=true):ψ nt f131 (iw (.sl (aA l) l.length a)) (.exit 0) (iw (.sl (aA l) l.length a)):=pJ 131 [] 2 1 (.c h0 (.c b (.c c (.c f (.c d .nil))))) (.nil) e
theorem aaP {nt:Nat} (b:21<=nt) (l:List Nat) (a:Bool) (h0:lit false (decide (((0:Nat):Int)<(l.length:Int)))=true):ψ nt f131 (iw (.sl (aA l) l.length a)) (.exit 0) (iw (.sl (aA l) l.length a)):=pJ 131 [] 2 0 (.k 1 h0 .nil) (.nil) b
theorem Xk (l r:List Nat) (a:Bool) (b:LB 21 0 f131 ⟨[(0,.sl (aA l) l.length a),(2,.nilS),(14,.dead)],[],.dead,[]⟩ (.normal) (iw (.sl (aA r) r.length a))):CO 131 [.sl (aA l) l.length a] (.ret (.sl (aA r) r.length a)):=pK [0] 0 0 .nil (.l b .nil)
theorem W_ {nt:Nat} (j:41<=nt) (a b o:List Nat) (d f:Bool) (c k:Nat) (h0:lit true (decide ((γ .i64 ((γ .i64 ((Γ (η (ε ((δ (k:Int))*1) (aA a)) .dead)) - (c:Int))) - (Γ (η (ε ((δ (k:Int))*1) (aA b)) .dead))))<((0:Nat):Int)))=true) (g:(chk (.int .i64) (η (ε ((δ (k:Int))*1) (aA b)) .dead))=true) (e:(decide (((0:Nat):Int)<=(k:Int)))=true) (l:(decide ((k:Int)<(b.length:Int)))=true) (i:lit true (decide ((k:Int)<(b.length:Int)))=true) (h5:(chk (.int .i64) (η (ε ((δ (k:Int))*1) (aA a)) .dead))=true) (h:(decide ((k:Int)<(a.length:Int)))=true) (h7:lit true (decide ((k:Int)<(a.length:Int)))=true):ψ nt f92 (Fg (.sl (aA a) a.length d) (.sl (aA b) b.length f) c k) (.normal) (vh (.sl (aA a) a.length d) (.sl (aA b) b.length f) 1 (γ .i64 ((k:Int)+((1:Nat):Int))) 1 [ω (γ .i64 ((γ .i64 ((γ .i64 ((Γ (η (ε ((δ (k:Int))*1) (aA a)) .dead)) - (c:Int))) - (Γ (η (ε ((δ (k:Int))*1) (aA b)) .dead))))+((16777216:Nat):Int)))]):=pJ 92 [] 4 7 (.k 3 h0 (.c g (.c e (.c l (.c i (.c h5 (.c e (.c h (.c h7 .nil))))))))) (.nil) j
theorem Xa {nt:Nat} (j:41<=nt) (a b o:List Nat) (d f:Bool) (c k:Nat) (h0:lit false (decide ((γ .i64 ((γ .i64 ((Γ (η (ε ((δ (k:Int))*1) (aA a)) .dead)) - (c:Int))) - (Γ (η (ε ((δ (k:Int))*1) (aA b)) .dead))))<((0:Nat):Int)))=true) (g:(chk (.int .i64) (η (ε ((δ (k:Int))*1) (aA b)) .dead))=true) (e:(decide (((0:Nat):Int)<=(k:Int)))=true) (l:(decide ((k:Int)<(b.length:Int)))=true) (i:lit true (decide ((k:Int)<(b.length:Int)))=true) (h5:(chk (.int .i64) (η (ε ((δ (k:Int))*1) (aA a)) .dead))=true) (h:(decide ((k:Int)<(a.length:Int)))=true) (h7:lit true (decide ((k:Int)<(a.length:Int)))=true):ψ nt f92 (Fg (.sl (aA a) a.length d) (.sl (aA b) b.length f) c k) (.normal) (vh (.sl (aA a) a.length d) (.sl (aA b) b.length f) 0 (γ .i64 ((k:Int)+((1:Nat):Int))) 1 [ω (γ .i64 ((γ .i64 ((Γ (η (ε ((δ (k:Int))*1) (aA a)) .dead)) - (c:Int))) - (Γ (η (ε ((δ (k:Int))*1) (aA b)) .dead))))]):=pJ 92 [] 4 3 (.k 3 h0 (.c g (.c e (.c l (.c i (.c h5 (.c e (.c h (.c h7 .nil))))))))) (.nil) j
theorem Xb {nt:Nat} (i:41<=nt) (a b o:List Nat) (d e:Bool) (c k:Nat) (h0:lit true (decide ((γ .i64 ((Γ (η (ε ((δ (k:Int))*1) (aA a)) .dead)) - (c:Int)))<((0:Nat):Int)))=true) (f:lit false (decide ((k:Int)<(b.length:Int)))=true) (g:(chk (.int .i64) (η (ε ((δ (k:Int))*1) (aA a)) .dead))=true) (j:(decide (((0:Nat):Int)<=(k:Int)))=true) (h:(decide ((k:Int)<(a.length:Int)))=true) (h5:lit true (decide ((k:Int)<(a.length:Int)))=true):ψ nt f92 (Fg (.sl (aA a) a.length d) (.sl (aA b) b.length e) c k) (.normal) (vh (.sl (aA a) a.length d) (.sl (aA b) b.length e) 1 (γ .i64 ((k:Int)+((1:Nat):Int))) 1 [ω (γ .i64 ((γ .i64 ((Γ (η (ε ((δ (k:Int))*1) (aA a)) .dead)) - (c:Int)))+((16777216:Nat):Int)))]):=pJ 92 [] 4 5 (.k 3 h0 (.c f (.c g (.c j (.c h (.c h5 .nil)))))) (.nil) i
theorem Xc {nt:Nat} (i:41<=nt) (a b o:List Nat) (d e:Bool) (c k:Nat) (h0:lit false (decide ((γ .i64 ((Γ (η (ε ((δ (k:Int))*1) (aA a)) .dead)) - (c:Int)))<((0:Nat):Int)))=true) (f:lit false (decide ((k:Int)<(b.length:Int)))=true) (g:(chk (.int .i64) (η (ε ((δ (k:Int))*1) (aA a)) .dead))=true) (j:(decide (((0:Nat):Int)<=(k:Int)))=true) (h:(decide ((k:Int)<(a.length:Int)))=true) (h5:lit true (decide ((k:Int)<(a.length:Int)))=true):ψ nt f92 (Fg (.sl (aA a) a.length d) (.sl (aA b) b.length e) c k) (.normal) (vh (.sl (aA a) a.length d) (.sl (aA b) b.length e) 0 (γ .i64 ((k:Int)+((1:Nat):Int))) 1 [ω (γ .i64 ((Γ (η (ε ((δ (k:Int))*1) (aA a)) .dead)) - (c:Int)))]):=pJ 92 [] 4 1 (.k 3 h0 (.c f (.c g (.c j (.c h (.c h5 .nil)))))) (.nil) i
theorem Xd {nt:Nat} (e:41<=nt) (a b o:List Nat) (d f:Bool) (c k:Nat) (h0:lit false (decide ((k:Int)<(a.length:Int)))=true):ψ nt f92 (Fg (.sl (aA a) a.length d) (.sl (aA b) b.length f) c k) (.exit 0) ⟨[(5,.nilS)],[],.dead,[]⟩:=pJ 92 [] 1 0 (.c h0 .nil) (.nil) e
theorem Sy (a b o r:List Nat) (c d:Bool) (e:LB 41 0 f92 (UF (.sl (aA a) a.length c) (.sl (aA b) b.length d)) (.normal) ⟨[(5,.nilS)],[],.dead,[]⟩) (f:CO 131 [.nilS] (.ret (.sl (aA r) r.length false))):CO 92 [.sl (aA a) a.length c,.sl (aA b) b.length d] (.ret (.sl (aA r) r.length false)):=pK [0] 0 0 .nil (.c f (.l e .nil))
theorem WX {nt:Nat} (m:41<=nt) (a b o:List Nat) (d f:Bool) (c k:Nat) (h0:(Xqr (o.length+1) 1099511627776)=true) (g:(Xqr (o.length*1) (θ (aA o)))=true) (h:lit true (decide ((γ .i64 ((γ .i64 ((Γ (η (ε ((δ (k:Int))*1) (aA a)) .dead)) - (c:Int))) - (Γ (η (ε ((δ (k:Int))*1) (aA b)) .dead))))<((0:Nat):Int)))=true) (i:(chk (.int .i64) (η (ε ((δ (k:Int))*1) (aA b)) .dead))=true) (e:(decide (((0:Nat):Int)<=(k:Int)))=true) (h5:(decide ((k:Int)<(b.length:Int)))=true) (n:lit true (decide ((k:Int)<(b.length:Int)))=true) (h7:(chk (.int .i64) (η (ε ((δ (k:Int))*1) (aA a)) .dead))=true) (j:(decide ((k:Int)<(a.length:Int)))=true) (l:lit true (decide ((k:Int)<(a.length:Int)))=true):ψ nt f92 (vh (.sl (aA a) a.length d) (.sl (aA b) b.length f) (c:Int) (k:Int) o.length (aA o)) (.normal) (vh (.sl (aA a) a.length d) (.sl (aA b) b.length f) 1 (γ .i64 ((k:Int)+((1:Nat):Int))) (o.length+1) ((τ (o.length*1) (aA o))++ [ω (γ .i64 ((γ .i64 ((γ .i64 ((Γ (η (ε ((δ (k:Int))*1) (aA a)) .dead)) - (c:Int))) - (Γ (η (ε ((δ (k:Int))*1) (aA b)) .dead))))+((16777216:Nat):Int)))])):=pJ 92 [] 3 7 (.k 1 h0 (.c g (.k 1 h (.c i (.c e (.c h5 (.c n (.c h7 (.c e (.c j (.c l .nil))))))))))) (.nil) m
theorem WY {nt:Nat} (m:41<=nt) (a b o:List Nat) (d f:Bool) (c k:Nat) (h0:(Xqr (o.length+1) 1099511627776)=true) (g:(Xqr (o.length*1) (θ (aA o)))=true) (h:lit false (decide ((γ .i64 ((γ .i64 ((Γ (η (ε ((δ (k:Int))*1) (aA a)) .dead)) - (c:Int))) - (Γ (η (ε ((δ (k:Int))*1) (aA b)) .dead))))<((0:Nat):Int)))=true) (i:(chk (.int .i64) (η (ε ((δ (k:Int))*1) (aA b)) .dead))=true) (e:(decide (((0:Nat):Int)<=(k:Int)))=true) (h5:(decide ((k:Int)<(b.length:Int)))=true) (n:lit true (decide ((k:Int)<(b.length:Int)))=true) (h7:(chk (.int .i64) (η (ε ((δ (k:Int))*1) (aA a)) .dead))=true) (j:(decide ((k:Int)<(a.length:Int)))=true) (l:lit true (decide ((k:Int)<(a.length:Int)))=true):ψ nt f92 (vh (.sl (aA a) a.length d) (.sl (aA b) b.length f) (c:Int) (k:Int) o.length (aA o)) (.normal) (vh (.sl (aA a) a.length d) (.sl (aA b) b.length f) 0 (γ .i64 ((k:Int)+((1:Nat):Int))) (o.length+1) ((τ (o.length*1) (aA o))++ [ω (γ .i64 ((γ .i64 ((Γ (η (ε ((δ (k:Int))*1) (aA a)) .dead)) - (c:Int))) - (Γ (η (ε ((δ (k:Int))*1) (aA b)) .dead))))])):=pJ 92 [] 3 3 (.k 1 h0 (.c g (.k 1 h (.c i (.c e (.c h5 (.c n (.c h7 (.c e (.c j (.c l .nil))))))))))) (.nil) m
theorem WZ {nt:Nat} (j:41<=nt) (a b o:List Nat) (d e:Bool) (c k:Nat) (h0:(Xqr (o.length+1) 1099511627776)=true) (f:(Xqr (o.length*1) (θ (aA o)))=true) (g:lit true (decide ((γ .i64 ((Γ (η (ε ((δ (k:Int))*1) (aA a)) .dead)) - (c:Int)))<((0:Nat):Int)))=true) (l:lit false (decide ((k:Int)<(b.length:Int)))=true) (i:(chk (.int .i64) (η (ε ((δ (k:Int))*1) (aA a)) .dead))=true) (h5:(decide (((0:Nat):Int)<=(k:Int)))=true) (h:(decide ((k:Int)<(a.length:Int)))=true) (h7:lit true (decide ((k:Int)<(a.length:Int)))=true):ψ nt f92 (vh (.sl (aA a) a.length d) (.sl (aA b) b.length e) (c:Int) (k:Int) o.length (aA o)) (.normal) (vh (.sl (aA a) a.length d) (.sl (aA b) b.length e) 1 (γ .i64 ((k:Int)+((1:Nat):Int))) (o.length+1) ((τ (o.length*1) (aA o))++ [ω (γ .i64 ((γ .i64 ((Γ (η (ε ((δ (k:Int))*1) (aA a)) .dead)) - (c:Int)))+((16777216:Nat):Int)))])):=pJ 92 [] 3 5 (.k 1 h0 (.c f (.k 1 g (.c l (.c i (.c h5 (.c h (.c h7 .nil)))))))) (.nil) j
theorem W8 {nt:Nat} (j:41<=nt) (a b o:List Nat) (d e:Bool) (c k:Nat) (h0:(Xqr (o.length+1) 1099511627776)=true) (f:(Xqr (o.length*1) (θ (aA o)))=true) (g:lit false (decide ((γ .i64 ((Γ (η (ε ((δ (k:Int))*1) (aA a)) .dead)) - (c:Int)))<((0:Nat):Int)))=true) (l:lit false (decide ((k:Int)<(b.length:Int)))=true) (i:(chk (.int .i64) (η (ε ((δ (k:Int))*1) (aA a)) .dead))=true) (h5:(decide (((0:Nat):Int)<=(k:Int)))=true) (h:(decide ((k:Int)<(a.length:Int)))=true) (h7:lit true (decide ((k:Int)<(a.length:Int)))=true):ψ nt f92 (vh (.sl (aA a) a.length d) (.sl (aA b) b.length e) (c:Int) (k:Int) o.length (aA o)) (.normal) (vh (.sl (aA a) a.length d) (.sl (aA b) b.length e) 0 (γ .i64 ((k:Int)+((1:Nat):Int))) (o.length+1) ((τ (o.length*1) (aA o))++ [ω (γ .i64 ((Γ (η (ε ((δ (k:Int))*1) (aA a)) .dead)) - (c:Int)))])):=pJ 92 [] 3 1 (.k 1 h0 (.c f (.k 1 g (.c l (.c i (.c h5 (.c h (.c h7 .nil)))))))) (.nil) j
theorem W9 {nt:Nat} (e:41<=nt) (a b o:List Nat) (d f:Bool) (c k:Nat) (h0:lit false (decide ((k:Int)<(a.length:Int)))=true):ψ nt f92 (vh (.sl (aA a) a.length d) (.sl (aA b) b.length f) (c:Int) (k:Int) o.length (aA o)) (.exit 0) (zQ o.length (aA o)):=pJ 92 [] 1 0 (.c h0 .nil) (.nil) e
theorem Sw (a b o r:List Nat) (c d:Bool) (e:LB 41 0 f92 (UF (.sl (aA a) a.length c) (.sl (aA b) b.length d)) (.normal) (zQ o.length (aA o))) (f:CO 131 [.sl (τ (o.length*1) (aA o)) o.length true] (.ret (.sl (aA r) r.length false))):CO 92 [.sl (aA a) a.length c,.sl (aA b) b.length d] (.ret (.sl (aA r) r.length false)):=pK [0] 0 0 .nil (.c f (.l e .nil))
def nz:List UInt8->Nat
 | []=>0
 |c::r=>if c=0 then nz r+1 else 0
theorem Qr (s:List UInt8):s.drop (nz s)=s.dropWhile (· ==0):=by
 induction s with
 |nil=>rfl
 |cons c r ih=>
  simp only [nz,Xx5];by_cases h:c=0
  .subst h;simpa using ih
  .simp [h]
theorem ZO (s:List UInt8):nz s<=s.length:=by
 induction s with
 |nil=>exact κ _
 |cons c r ih=>simp only [nz,ο];split<;>omega
def Ty (s:List UInt8) (k:Nat):St:=(wk s (k:Int))
theorem SV {p r:List UInt8} {c:UInt8} {k:Nat} (h:k=p.length):(p++c::r).getD k 0=c:=by subst h;simp
theorem Tf (c:UInt8):(c.toNat=0)=(c=0):=by
 apply propext;constructor
 .intro h;apply UInt8.toNat_inj.1;simpa using h
 .intro h;subst h;rfl
theorem LP {nt:Nat} (b:19<=nt) (s:List UInt8) (hs:s.length<2^40):∀ (r p:List UInt8),p++r=s->aB prog ap [] nt (af 0 (am f91)) (λ_=> .exit 0) (Ty s) (Ty s) p.length (p.length+nz r):=by
 intro r
 induction r with
 |nil=>
  intro p h;have hp:p.length=s.length:=by rw [<- h];simp
  refine .done (YA b s p.length ?_);rw [hp,bL];simp [lit]
 | cons c r ih=>
  intro p h;have f:p.length+(r.length+1)=s.length:=by rw [<- h];simp
  have d:s.getD p.length 0=c:=by rw [<- h];exact SV rfl
  by_cases hc:c=0
  .have hnext:=ih (p++ [c]) (by simp [h]);rw [ξ,Δ] at hnext;simp only [nz,if_pos hc];rw [show p.length+(nz r+1)=p.length+1+nz r by omega];refine .next ?_ hnext
   have a:=Yy b s p.length;have e:c.toNat=0:=by subst hc;rfl
   simp (disch:=first|omega|(simp [aq,ay]<;>omega)) only [aF,d,e,qM,decide_true,bX,dg,bM,bL,cA,bi] at a;apply a<;>first|exact True.intro|omega|assumption|exact rfl
  .simp only [nz,if_neg hc,Xq3];refine .done ?_;have a:=Yz b s p.length;have e:¬ c.toNat=0:=by rw [Tf];exact hc
   simp (disch:=first|omega|(simp [aq,ay]<;>omega)) only [aF,d,qM,dI,dV,eK,dg,bM,bL,bX] at a;apply a<;>first|exact True.intro|omega|assumption|exact rfl
theorem eX (s:List UInt8) (hs:s.length<2^40):CO 91 [.str s] (.ret (.str (ae (aj s)))):=by
 have b:=ZO s;have h:=Vk s (nz s);simp (disch:=first|omega|(simp [aq,ay]<;>omega)) only [dg,bM,aF,Xxc,Qr] at h;rw [yX];apply h<;>first|exact True.intro|omega|assumption|exact rfl|skip
 .refine aB.blk (λnt a=>LP a s hs s [] rfl) (by simp) rfl (aD.of ⟨rfl,rfl,trivial⟩) ?_;rw [Ξ,Ψ];exact aD.refl _
theorem Hq (l:List Nat) (d:Nat):τ l.length (aA (l++ [d]))=aA l:=by
 rw [gI];simp
theorem xY (l:List Nat) (d:Nat):η (ε l.length (aA (l++ [d]))) .dead= ω (d:Int):=by
 rw [iE (by simp)];simp
def IG (nn:Bool) (l:List Nat):St:=(iw (.sl (aA l) l.length nn))
theorem OI {nt:Nat} (g:21<=nt) (b:Bool):∀ (k:Nat) (l:List Nat),l.length=k->k<2^40->aB prog ap [] nt (af 0 (am f131)) (λ_=> .exit 0) (IG b) (IG b) l (cM l):=by
 intro k
 induction k with
 |zero=>
  intro l e _;have:l= []:=Xq2 e;subst this;exact .done (aaP g [] b rfl)
 | succ k ih=>
  intro l e i;rcases Xzb l with rfl|⟨a,d,rfl⟩
  .simp at e
  .rw [Xzz] at e ⊢;have f:a.length=k:=by simpa using e
   have h:a.length+1 - 1=a.length:=by omega
   rw [kZ];by_cases hd:d=0
   .rw [if_pos hd];refine .next ?_ (ih a f (by omega))
    have c:=aaN g (a++ [d]) b;simp (disch:=first|omega|(simp [aq,ay]<;>omega)) only [ξ,ο,Ξ,Ψ,iM,h,dg,bM,aF,Xqi,xY,bo,qM,bX,dY,bL,Hq,Xzc] at c;simp only [IG,ξ,Δ];apply c<;>first|exact True.intro|omega|assumption|exact rfl
   .rw [if_neg hd];refine .done ?_;have c:=aaO g (a++ [d]) b;simp (disch:=first|omega|(simp [aq,ay]<;>omega)) only [ξ,ο,Ξ,Ψ,iM,h,aF,Xqi,xY,bo,qM,dI,dV,eK,dY,dg,bM,bL,bX] at c;simp only [IG,ξ,Δ];apply c<;>first|exact True.intro|omega|assumption|exact rfl
theorem EW (l:List Nat) (a:Bool) (b:l.length<2^40):CO 131 [.sl (aA l) l.length a] (.ret (.sl (aA (cM l)) (cM l).length a)):=
 Xk l (cM l) a (aB.blk (λnt c=>OI c a _ l rfl b) (by simp) rfl (aD.of ⟨rfl,trivial⟩) (aD.of ⟨rfl,trivial⟩))
def Lj (l:List Nat):AV:=match l with| []=> .nilS|x::l=> .ref 0 0 0 (x::l).length
def Ll (l:List Nat):Hp:=match l with| []=> []|x::l=> [(0,⟨aA (x::l),0,false,0,1,true⟩)]
theorem fu {l:List Nat} (h:l ≠ []):Lj l= .ref 0 0 0 l.length:=by cases l with|nil=>exact absurd rfl h|cons _ _=>rfl
theorem fw {l:List Nat} (h:l ≠ []):Ll l= [(0,⟨aA l,0,false,0,1,true⟩)]:=by cases l with|nil=>exact absurd rfl h|cons _ _=>rfl
theorem gO (l:List Nat) (y:Nat):l++ [y] ≠ []:=by simp
def GI:List Nat->List Nat->Nat->List Nat × Nat
 | [],_,c=>([],c)
 |x::u,v,c=>((if x<v.headD 0+c then x+16777216 - (v.headD 0+c) else x - (v.headD 0+c))::(GI u v.tail (if x<v.headD 0+c then 1 else 0)).1,(GI u v.tail (if x<v.headD 0+c then 1 else 0)).2)
theorem Zv {v:List Nat} (h:eN v):v.headD 0<16777216:=by cases v with|nil=>show 0<16777216;omega|cons d l=>exact h.head
theorem ab4 {v:List Nat} (h:eN v):eN v.tail:=by cases v with|nil=>exact h|cons d l=>exact h.tail
theorem Lg (v:List Nat):gr v=v.headD 0+16777216*gr v.tail:=by cases v with|nil=>rfl|cons d l=>rfl
theorem Rq (u:List Nat):∀ (v:List Nat) (c:Nat),c<=1->eN u->eN v->v.length<=u.length->(GI u v c).2<=1/\eN (GI u v c).1/\(GI u v c).1.length=u.length/\gr (GI u v c).1+gr v+c=gr u+16777216^u.length*(GI u v c).2:=by
 induction u with
 |nil=>
  intro v c d _ _ b;have:v= []:=Xq2 (by simpa using b);subst this;exact ⟨d,eN.nil,rfl,by simp [GI,gr]⟩
 |cons x u ih=>
  intro v c d g f b;have m:=g.head;have l:=Zv f;have a:v.tail.length<=u.length:=by simp at b ⊢;omega
  obtain ⟨i,h,j,k⟩:=ih v.tail (if x<v.headD 0+c then 1 else 0) (by split<;>omega) g.tail (ab4 f) a;simp only [GI];refine ⟨i,eN.cons (by split<;>omega) h,by rw [ο,j,ο], ?_⟩;rw [Lg v];simp only [gr,ο,Xxh];rw [Xqj (16777216^u.length),Xqv];generalize GI u v.tail (if x<v.headD 0+c then 1 else 0)=r at*
  split at k<;>rename_i e
  .rw [if_pos e];omega
  .rw [if_neg e];omega
def Ki (a b:List Nat) (na nb:Bool) (p:Nat × Nat × List Nat):St:=⟨[(0,.sl (aA a) a.length na),(1,.sl (aA b) b.length nb),(6,ω (p.2.1:Int)),(7,ω (p.1:Int)),(5,Lj p.2.2)],Ll p.2.2,.dead,[]⟩
def Ie (p:Nat × List Nat):St:=⟨[(5,Lj p.2)],Ll p.2,.dead,[]⟩
theorem Ru {nt:Nat} (i:41<=nt) (a b o:List Nat) (f g:Bool) (c k x y:Nat) (q:a.length<2^40) (p:b.length<2^40) (t:k<a.length) (s:o.length=k) (h:a.getD k 0=x) (j:b.getD k 0=y) (m:x<16777216) (n:y<16777216) (r:c<=1):
  ψ nt f92 (Ki a b f g (k,c,o)) .normal (Ki a b f g (k+1,if x<y+c then 1 else 0,o++ [if x<y+c then x+16777216 - (y+c) else x - (y+c)])):=by
 unfold Ki;by_cases hkb:k<b.length<;>by_cases hlt:x<y+c<;>simp only [hlt,if_true,if_false]
 .have e:((x:Int) - (c:Int) - (y:Int)+((16777216:Nat):Int))=((x+16777216 - (y+c):Nat):Int):=by omega
  rcases Xjb (o= []) with rfl|hne
  .have d:=W_ i a b [] f g c k;simp (disch:=first|omega|(simp [aq,ay]<;>omega)) only [aF,Xqi,iE,h,bo,cf,j,bX,bM,dY,dg,bL,cA] at d;rw [e] at d;simp only [Xqb,Lj,Ll,aA,Xqf,Xjc,ο,Ξ] at d ⊢;apply d<;>first|exact True.intro|omega|assumption|exact rfl
  .have d:=WX i a b o f g c k;rw [fu hne,fw hne,fu (gO _ _),fw (gO _ _)];simp (disch:=first|omega|(simp [aq,ay]<;>omega)) only [eV,bM,Xqi,aF,iE,h,bo,cf,j,bX,dY,dg,bL,cA] at d;rw [e] at d;simp (disch:=first|omega|(simp [aq,ay]<;>omega)) only [fH,gI,Xxc,mS] at d;simp only [ξ,Δ];apply d<;>first|exact True.intro|omega|assumption|exact rfl
 .have e:((x:Int) - (c:Int) - (y:Int))=((x - (y+c):Nat):Int):=by omega
  rcases Xjb (o= []) with rfl|hne
  .have d:=Xa i a b [] f g c k;simp (disch:=first|omega|(simp [aq,ay]<;>omega)) only [aF,Xqi,iE,h,bo,cf,j,dI,dV,eK,dY,dg,bM,bL,bX,cA] at d;rw [e] at d;simp only [Xqb,Lj,Ll,aA,Xqf,Xjc,ο,Ξ] at d ⊢;apply d<;>first|exact True.intro|omega|assumption|exact rfl
  .have d:=WY i a b o f g c k;rw [fu hne,fw hne,fu (gO _ _),fw (gO _ _)];simp (disch:=first|omega|(simp [aq,ay]<;>omega)) only [eV,bM,Xqi,aF,iE,h,bo,cf,j,dI,dV,eK,dY,dg,bL,bX,cA] at d;rw [e] at d;simp (disch:=first|omega|(simp [aq,ay]<;>omega)) only [fH,gI,Xxc,mS] at d;simp only [ξ,Δ];apply d<;>first|exact True.intro|omega|assumption|exact rfl
 .have l:y=0:=by rw [<- j,μ,Xq8 (by omega)];rfl
  have e:((x:Int) - (c:Int)+((16777216:Nat):Int))=((x+16777216 - (y+c):Nat):Int):=by omega
  rcases Xjb (o= []) with rfl|hne
  .have d:=Xb i a b [] f g c k;simp (disch:=first|omega|(simp [aq,ay]<;>omega)) only [aF,Xqi,iE,h,bo,cf,bX,bM,bL,dI,dV,eK,Yqi,dY,dg,cA] at d;rw [e] at d;simp only [Xqb,Lj,Ll,aA,Xqf,Xjc,ο,Ξ] at d ⊢;apply d<;>first|exact True.intro|omega|assumption|exact rfl
  .have d:=WZ i a b o f g c k;rw [fu hne,fw hne,fu (gO _ _),fw (gO _ _)];simp (disch:=first|omega|(simp [aq,ay]<;>omega)) only [eV,bM,Xqi,aF,iE,h,bo,cf,bX,bL,dI,dV,eK,Yqi,dY,dg,cA] at d;rw [e] at d;simp (disch:=first|omega|(simp [aq,ay]<;>omega)) only [fH,gI,Xxc,mS] at d;simp only [ξ,Δ];apply d<;>first|exact True.intro|omega|assumption|exact rfl
 .have l:y=0:=by rw [<- j,μ,Xq8 (by omega)];rfl
  have e:((x:Int) - (c:Int))=((x - (y+c):Nat):Int):=by omega
  rcases Xjb (o= []) with rfl|hne
  .have d:=Xc i a b [] f g c k;simp (disch:=first|omega|(simp [aq,ay]<;>omega)) only [aF,Xqi,iE,h,bo,cf,dI,dV,eK,bL,Yqi,dY,dg,bM,bX,cA] at d;rw [e] at d;simp only [Xqb,Lj,Ll,aA,Xqf,Xjc,ο,Ξ] at d ⊢;apply d<;>first|exact True.intro|omega|assumption|exact rfl
  .have d:=W8 i a b o f g c k;rw [fu hne,fw hne,fu (gO _ _),fw (gO _ _)];simp (disch:=first|omega|(simp [aq,ay]<;>omega)) only [eV,bM,Xqi,aF,iE,h,bo,cf,dI,dV,eK,bL,Yqi,dY,dg,bX,cA] at d;rw [e] at d;simp (disch:=first|omega|(simp [aq,ay]<;>omega)) only [fH,gI,Xxc,mS] at d;simp only [ξ,Δ];apply d<;>first|exact True.intro|omega|assumption|exact rfl
theorem Rs {nt:Nat} (f:41<=nt) (a b o:List Nat) (d e:Bool) (c:Nat):ψ nt f92 (Ki a b d e (a.length,c,o)) (.exit 0) (Ie (c,o)):=by
 unfold Ki Ie;rcases Xjb (o= []) with rfl|hne
 .exact Xd f a b [] d e c a.length (by rw [bL];simp [lit])
 .have g:=W9 f a b o d e c a.length (by rw [bL];simp [lit]);rw [fu hne,fw hne];exact g
theorem Rt {nt:Nat} (n:41<=nt) (a b:List Nat) (d i:Bool) (q:a.length<2^40) (g:b.length<2^40) (k:eN a) (f:eN b):∀ (l p o:List Nat) (c:Nat),p++l=a->o.length=p.length->c<=1->
  aB prog ap [] nt (af 0 (am f92)) (λ_=> .exit 0) (Ki a b d i) Ie (p.length,c,o) ((GI l (b.drop p.length) c).2,o++(GI l (b.drop p.length) c).1):=by
 intro l
 induction l with
 |nil=>
  intro p o c h j m;have hp:p=a:=by simpa using h
  rw [hp];simp only [GI,Xqd];exact .done (Rs n a b o d i c)
 | cons x l ih=>
  intro p o c h j m;have u:p.length+(l.length+1)=a.length:=by rw [<- h];simp
  have t:x<16777216:=k x (by rw [<- h];simp);have s:a.getD p.length 0=x:=by rw [<- h];simp
  have r:(b.drop p.length).headD 0=b.getD p.length 0:=by
   rw [List.headD_eq_head?_getD,List.head?_drop,μ]
  have e:(b.drop p.length).tail=b.drop (p.length+1):=by rw [List.tail_drop]
  have hnext:=ih (p++ [x]) (o++ [if x<b.getD p.length 0+c then x+16777216 - (b.getD p.length 0+c) else x - (b.getD p.length 0+c)]) (if x<b.getD p.length 0+c then 1 else 0) (by simp [h]) (by simp [j]) (by split<;>omega);rw [ξ,Δ,Xqe] at hnext;simp only [GI];rw [r,e];exact .next (Ru n a b o d i c p.length x _ q g (by omega) j s rfl t (f.getD _) m) hnext
theorem NA (x y:Nat) (b e:Bool) (h:y<=x) (u:(cI x).length<2^36):CO 92 [.sl (aA (cI x)) (cI x).length b,.sl (aA (cI y)) (cI y).length e] (.ret (.sl (aA (cI (x - y))) (cI (x - y)).length false)):=by
 have j:=JH h;obtain ⟨m,f,i,d⟩:=Rq (cI x) (cI y) 0 (by omega) (eN.dig x) (eN.dig y) j;have hloop:=λnt (hn:41<=nt)=>Rt hn (cI x) (cI y) b e (by omega) (by omega) (eN.dig x) (eN.dig y) (cI x) [] [] 0 rfl rfl (by omega)
 rw [Ξ,Xx8] at hloop;generalize q:GI (cI x) (cI y) 0=r at*
 obtain ⟨o,c⟩:=r;simp only [Xqb] at hloop m f i d;rw [kq,kq,Xq3] at d;have g:=Dt f;have n:c=0:=by
  rcases Xqh c with h0|h0
  .exact h0
  .have p:c=1:=by omega
   have t:=HO y;have s:=Θ (show 0<16777216 by omega) j;rw [p,Xqi] at d;rw [i] at g;omega
 subst n;have l:gr o=x - y:=by rw [Xjv] at d;omega
 have k:=EW o true (by omega);rw [UL f,l] at k;rcases Xjb (o= []) with rfl|hne
 .have h:=Sy (cI x) (cI y) [] (cI (x - y)) b e;have a:=EW [] false (by simp);rw [UL eN.nil,l] at a;apply h
  .exact aB.blk hloop (by simp) rfl (aD.of ⟨rfl,rfl,rfl,rfl,rfl,trivial⟩) (aD.of ⟨rfl,trivial⟩)
  .exact a.args (fA.cons (bC.nilS false rfl) fA.nil)
 .have h:=Sw (cI x) (cI y) o (cI (x - y)) b e;rw [Xqi,gI,Xxc] at h;apply h
  .exact aB.blk hloop (by simp) rfl (aD.of ⟨rfl,rfl,rfl,rfl,rfl,trivial⟩) (by unfold Ie;rw [fu hne,fw hne];exact aD.of ⟨rfl,trivial⟩)
  .exact k.out (gz.sl1 _ _ _)
theorem Aa {l:List Nat} {k:Nat} (h:k<l.length):gr (l.take (k+1))=gr (l.take k)+16777216^k*l.getD k 0:=by
 rw [Xw5,PJ,ν h,Xq7,Xjp (by omega),μ,ν h];simp [gr]
end Go.Proofs.Tryz
