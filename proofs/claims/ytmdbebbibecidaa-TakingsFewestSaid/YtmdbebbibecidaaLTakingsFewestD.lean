/- A part of the proof: several texts, one behind the other. -/
import Derived.Test.YtmdbebbibecidaaLTakingsFewestC
set_option linter.unusedVariables false
set_option linter.unusedSimpArgs false
set_option maxRecDepth 100000
namespace Go.Proofs.Ytmdbebbibecidaa
open Go Ax
open Go.Proofs
/-- Those whose balance is not 0. -/
def setB (b:List Int):Nat→Nat
 | 0=>0
 | i+1=>if b.getD i 0=0 then setB b i else setB b i ||| 2 ^ i
theorem Vp {b:List Int}:∀ {n i:Nat},(setB b n).testBit i=(decide (i<n) && decide (b.getD i 0 ≠ 0))
 | 0,i=>by simp [setB]
 | n+1,i=>by
  have ih:=Vp (b:=b) (n:=n) (i:=i)
  rw [setB]
  by_cases hi:i=n
  · subst hi
    split
    · rename_i h; rw [ih,decide_eq_false (show ¬ (b.getD i 0 ≠ 0) by simpa using h)]; simp
    · rename_i h; rw [Nat.testBit_or,ih,Nat.testBit_two_pow_self,decide_eq_true h]; simp
  · have e:decide (i<n+1)=decide (i<n):=decide_eq_decide.2 (by omega)
    split
    · rw [ih,e]
    · rw [Nat.testBit_or,ih,Nat.testBit_two_pow_of_ne (fun h=>hi h.symm),Bool.or_false,e]
theorem Vg {b:List Int}:∀ {n:Nat},setB b n<2 ^ n
 | 0=>by simp [setB]
 | n+1=>by
  have ih:=Vg (b:=b) (n:=n)
  have h2:2 ^ (n+1)=2*2 ^ n:=by rw [Nat.pow_succ,Nat.mul_comm]
  rw [setB]
  split
  · omega
  · exact Nat.or_lt_two_pow (by omega) (by omega)
theorem totP_setB {b:List Int}:∀ {i:Nat},i≤b.length→totP b (setB b b.length) i=(b.take i).sum
 | 0,_=>by simp [totP]
 | i+1,h=>by
  have ih:=totP_setB (b:=b) (i:=i) (by omega)
  have hi:b[i]?=some b[i]:=List.getElem?_eq_getElem (by omega)
  rw [Yv hi,ih,List.take_add_one,hi,List.sum_append,Vp]
  have hd:b.getD i 0=b[i]:=by rw [List.getD,hi]; rfl
  rw [hd,decide_eq_true (show i<b.length by omega)]
  by_cases h0:b[i]=0
  · simp [h0]
  · simp [h0]
/-- The errors of balances that are to be settled. -/
def QI (b:List Int):Int:=if balB b=false then 1 else if sumI b=0 then 0 else 110
def Qy (b:List Int):List Pay × Int:=if QI b=0 then (QQ b 1024 (setB b b.length),0) else ([],QI b)
def fewK (b:List Int):Int × Int:=((((Qy b).1.length:Nat):Int),(Qy b).2)
theorem Yl (i:Nat):(1:Int)*2 ^ (Int.toNat (i:Int))=((2 ^ i:Nat):Int):=by
 rw [Int.one_mul,Int.toNat_natCast,Int.natCast_pow]; rfl
theorem pow_le {i n:Nat} (h:i≤n):2 ^ i≤2 ^ n:=Nat.pow_le_pow_right (by omega) h
theorem sumOk_abs2 {B:Int} (hB0:0≤B) (hB:B≤1000000000000000) {u:List Int} (hu:u.length≤1000) (hx:∀ x ∈ u,-B≤x∧x≤B):qu u:=by
 refine ⟨by omega,fun k hk=>?_⟩
 have:∀ {w:List Int},(∀ x ∈ w,-B≤x∧x≤B)→-B*(w.length:Int)≤w.sum∧w.sum≤B*(w.length:Int):=by
  intro w
  induction w with
  | nil=>simp
  | cons y w ih =>
   intro hw
   have:=ih fun x hx=>hw x (by simp [hx])
   have:=hw y (by simp)
   simp only [List.sum_cons,List.length_cons,Int.natCast_add,Int.mul_add] at *; omega
 have h3:=this (w:=u.take k) fun x hx'=>hx x (List.mem_of_mem_take hx')
 have h4:((u.take k).length:Int)≤1000:=by rw [List.length_take]; omega
 have h5:B*((u.take k).length:Int)≤1000000000000000*1000:=Int.mul_le_mul hB h4 (by omega) (by omega)
 have h6:=Int.neg_mul B ((u.take k).length:Int)
 omega
theorem sumOk_bal {b:List Int} (h:balB b=true):qu b:=by
 have hb:=bal_of h
 exact sumOk_abs2 (B:=10000000000) (by omega) (by omega) (by omega) hb.2
theorem f60b:Try.f60.body=some (Qa Try.prog 60):=by kernel_rfl
def f60K0 (P:Program):List Item:=kAt 400 [.code (Qa P 60)] [.b false,.b false,.stop]
def f60S0 (b:(List Int)) (set:Int) (i:Nat):St:=⟨([.rsl (rowI b) 0 b.length,J,J,.int .i64 set]++jj 9 ([.rsl (rowI b) 0 b.length,.int .i64 (b.length:Int),.int .i64 (i:Int)]++Js 16)),[]⟩
def f60G0 (E:Env) (b:(List Int)) (set:Int) (i:Nat):Prop:=G Try.prog E (f60K0 Try.prog) (f60S0 b set i )
theorem p60_start_0 (b:(List Int)) {E:Env} {res:AV} {bs2:List Blk} (hE:LentE Try.prog 60 [] res bs2 E) (ho:AllP [Qg Try.prog (.clos 52 [] []) [.rsl (rowI b) 0 b.length] (.bool (balB b)),(!(balB b))=true])
 (hr:(.tup [.nilPtr,.int .i64 0,.int .i64 1])=res) (hb:[]=bs2):G Try.prog E [.code (Qa Try.prog 60)] ⟨[.rsl (rowI b) 0 b.length]++unds (Try.f60.ntmps - 1),[]⟩ :=
 Xs (n:=400) (live:=[2,3,4]) (m:=0) (evs:=[.v (.bool (balB b)),.b true]) (obs:=_) hE (hE.nogh0 _) Try.func60 Qf (by kernel_rfl) ho hr hb
theorem p60_start_1 (b:(List Int)) {E:Env} {res:AV} {bs2:List Blk} (hE:LentE Try.prog 60 [] res bs2 E) (ho:AllP [Qg Try.prog (.clos 52 [] []) [.rsl (rowI b) 0 b.length] (.bool (balB b)),(!(balB b))=false,Qg Try.prog (.clos 50 [] []) [.rsl (rowI b) 0 b.length] (.int .i64 (sumI b)),((sumI b) != 0)=true])
 (hr:(.tup [.nilPtr,.int .i64 0,.int .i64 110])=res) (hb:[]=bs2):G Try.prog E [.code (Qa Try.prog 60)] ⟨[.rsl (rowI b) 0 b.length]++unds (Try.f60.ntmps - 1),[]⟩ :=
 Xs (n:=400) (live:=[2,3,4]) (m:=0) (evs:=[.v (.bool (balB b)),.b false,.v (.int .i64 (sumI b)),.b true]) (obs:=_) hE (hE.nogh0 _) Try.func60 Qf (by kernel_rfl) ho hr hb
theorem p60_start_2 (b:(List Int)) {E:Env} {rv:AV} {bs2:List Blk} (hE:LentE Try.prog 60 [] rv bs2 E) (ho:AllP [Qg Try.prog (.clos 52 [] []) [.rsl (rowI b) 0 b.length] (.bool (balB b)),(!(balB b))=false,Qg Try.prog (.clos 50 [] []) [.rsl (rowI b) 0 b.length] (.int .i64 (sumI b)),((sumI b) != 0)=false])
 (hg:G Try.prog E (f60K0 Try.prog) ⟨([.rsl (rowI b) 0 b.length,J,J,.int .i64 0]++jj 9 ([.rsl (rowI b) 0 b.length,.int .i64 (b.length:Int),.int .i64 0]++Js 16)),[]⟩):G Try.prog E [.code (Qa Try.prog 60)] ⟨[.rsl (rowI b) 0 b.length]++unds (Try.f60.ntmps - 1),[]⟩ :=
 Qd (n:=400) (ds:=[]) (cs:=[]) (live:=[0,3,13,14,15]) (m:=0) (evs:=[.v (.bool (balB b)),.b false,.v (.int .i64 (sumI b)),.b false,.stop]) (obs:=_) hE.kind (hE.nogh0 _) Qf (by kernel_rfl) ho hg
theorem f60W (b:(List Int)) {E:Env} {res:AV} {bs2:List Blk} (hE:LentE Try.prog 60 [] res bs2 E)
 (h:((b.length≤9223372036854775807)∧(((balB b)=false→((.tup [.nilPtr,.int .i64 0,.int .i64 1])=res∧[]=bs2))∧((balB b)=true→((qu b)∧((¬ ((sumI b)=0)→((.tup [.nilPtr,.int .i64 0,.int .i64 110])=res∧[]=bs2))∧((sumI b)=0→f60G0 E b 0 0))))))):G Try.prog E [.code (Qa Try.prog 60)] ⟨[.rsl (rowI b) 0 b.length]++unds (Try.f60.ntmps - 1),[]⟩:=by
 obtain ⟨h1,h⟩:=h
 rcases bft (!(balB b)) with hc0 | hc0
 · have h:=h.1 (bnT hc0)
   exact p60_start_0 b hE ⟨(u52 (Vk b h1)),hc0,trivial⟩ h.1 h.2
 · have h:=h.2 (bnF hc0)
   obtain ⟨h2,h⟩:=h
   rcases bft ((sumI b) != 0) with hc1 | hc1
   · have h:=h.1 (bneT hc1)
     exact p60_start_1 b hE ⟨(u52 (Vk b h1)),hc0,(u50 (sum_ok b h2)),hc1,trivial⟩ h.1 h.2
   · have h:=h.2 (bneF hc1)
     exact p60_start_2 b hE ⟨(u52 (Vk b h1)),hc0,(u50 (sum_ok b h2)),hc1,trivial⟩ h
theorem p60_0_0 (b:(List Int)) (set:Int) (i:Nat) (e:Int) {E:Env} {rv:AV} {bs2:List Blk} (hE:LentE Try.prog 60 [] rv bs2 E) (ho:AllP [(decide ((i:Int)<(b.length:Int)))=true,0≤(i:Int)∧(i:Int)<(b.length:Int),((rowI b).drop (0+(Int.toNat (i:Int))*1)).take 1=[.int .i64 e],(e != 0)=true,InR .i64 (1*2 ^ (Int.toNat (i:Int))),(0:Int)≤(i:Int)∧(i:Int)≤((IntKind.bits .i64:Nat):Int),InR .i64 ((i:Int)+1)])
 (hg:G Try.prog E (f60K0 Try.prog) ⟨([.rsl (rowI b) 0 b.length,J,J,.int .i64 (bits .or .i64 set (1*2 ^ (Int.toNat (i:Int))))]++jj 9 ([.rsl (rowI b) 0 b.length,.int .i64 (b.length:Int),.int .i64 ((i:Int)+1)]++Js 16)),[]⟩):G Try.prog E (f60K0 Try.prog) (f60S0 b set i ) :=
 Qd (n:=400) (ds:=[]) (cs:=[]) (live:=[0,3,13,14,15]) (m:=0) (evs:=[.b true,.ld (.int .i64 e),.b true,.stop]) (obs:=_) hE.kind (hE.nogh0 _) Qf (by kernel_rfl) ho hg
theorem p60_0_1 (b:(List Int)) (set:Int) (i:Nat) (e:Int) {E:Env} {rv:AV} {bs2:List Blk} (hE:LentE Try.prog 60 [] rv bs2 E) (ho:AllP [(decide ((i:Int)<(b.length:Int)))=true,0≤(i:Int)∧(i:Int)<(b.length:Int),((rowI b).drop (0+(Int.toNat (i:Int))*1)).take 1=[.int .i64 e],(e != 0)=false,InR .i64 ((i:Int)+1)])
 (hg:G Try.prog E (f60K0 Try.prog) ⟨([.rsl (rowI b) 0 b.length,J,J,.int .i64 set]++jj 9 ([.rsl (rowI b) 0 b.length,.int .i64 (b.length:Int),.int .i64 ((i:Int)+1)]++Js 16)),[]⟩):G Try.prog E (f60K0 Try.prog) (f60S0 b set i ) :=
 Qd (n:=400) (ds:=[]) (cs:=[]) (live:=[0,3,13,14,15]) (m:=0) (evs:=[.b true,.ld (.int .i64 e),.b false,.stop]) (obs:=_) hE.kind (hE.nogh0 _) Qf (by kernel_rfl) ho hg
theorem p60_0_2 (b:(List Int)) (set:Int) (i:Nat) {E:Env} {res:AV} {bs2:List Blk} (hE:LentE Try.prog 60 [] res bs2 E) (ho:AllP [(decide ((i:Int)<(b.length:Int)))=false])
 (hr:(.tup [.pm [.rsl (rowI b) 0 b.length] 0 0 0,.int .i64 set,.int .i64 0])=res) (hb:[⟨true,0,0,true,[],false⟩]=bs2):G Try.prog E (f60K0 Try.prog) (f60S0 b set i ) :=
 Xs (n:=400) (live:=[2,3,4]) (m:=1) (evs:=[.b false,.vn .nilFunc]) (obs:=_) hE (hE.nogh0 _) Try.func60 Qf (by kernel_rfl) ho hr hb
theorem f60W0 (b:(List Int)) (set:Int) (i:Nat) {E:Env} {res:AV} {bs2:List Blk} (hE:LentE Try.prog 60 [] res bs2 E)
 (h:(((i:Int)<(b.length:Int)→(∃ e:Int,b[i]?=some e∧((¬ (e=0)→((I6 ((1*2 ^ (Int.toNat (i:Int)):Int)))∧(((0:Int)≤(i:Int)∧(i:Int)≤((IntKind.bits .i64:Nat):Int))∧((I6 ((i:Int)+1))∧f60G0 E b (bits .or .i64 set (1*2 ^ (Int.toNat (i:Int)))) (i+1)))))∧(e=0→((I6 ((i:Int)+1))∧f60G0 E b set (i+1))))))∧(¬ ((i:Int)<(b.length:Int))→((.tup [.pm [.rsl (rowI b) 0 b.length] 0 0 0,.int .i64 set,.int .i64 0])=res∧[⟨true,0,0,true,[],false⟩]=bs2)))):f60G0 E b set i:=by
 rcases bft (decide ((i:Int)<(b.length:Int))) with hc0 | hc0
 · have h:=h.1 (odt hc0)
   obtain ⟨e,h1,h⟩:=h
   rcases bft (e != 0) with hc1 | hc1
   · have h:=h.1 (bneT hc1)
     obtain ⟨q5_2,h⟩:=h
     obtain ⟨q6_2,h⟩:=h
     obtain ⟨q7_2,h⟩:=h
     exact p60_0_0 b set i e hE ⟨hc0,(Qv h1),(rp cI 1 0 1 h1),hc1,q5_2,q6_2,q7_2,trivial⟩ h
   · have h:=h.2 (bneF hc1)
     obtain ⟨q5_2,h⟩:=h
     exact p60_0_1 b set i e hE ⟨hc0,(Qv h1),(rp cI 1 0 1 h1),hc1,q5_2,trivial⟩ h
 · have h:=h.2 (odf hc0)
   exact p60_0_2 b set i hE ⟨hc0,trivial⟩ h.1 h.2
theorem WI {b:List Int} (h:QI b=0):balB b=true∧sumI b=0:=by
 unfold QI at h
 split at h
 · cases h
 · rename_i h1
   split at h
   · rename_i h2; exact ⟨by simpa using h1,h2⟩
   · cases h
theorem bal_in {b:List Int} (h:balB b=true):b.length≤10∧∀ x ∈ b,-10000000000≤x∧x≤10000000000:=by
 have hb:=bal_of h
 exact ⟨by omega,hb.2⟩
theorem setB_in {b:List Int} (h:balB b=true):Yi b ((setB b b.length:Nat):Int):=⟨_,rfl,Vg,bal_in h⟩
theorem yc {b:List Int} (h:sumI b=0):totN b (setB b b.length)=0:=by
 unfold totN
 rw [totP_setB (Nat.le_refl _),List.take_length]; exact h
theorem WG (b:List Int) (h:b.length≤9223372036854775807) {res:AV} {bs2:List Blk} (h1:QI b ≠ 0→(.tup [.nilPtr,.int .i64 0,.int .i64 (QI b)])=res∧[]=bs2)
 (h2:QI b=0→(.tup [.pm [.rsl (rowI b) 0 b.length] 0 0 0,.int .i64 ((setB b b.length:Nat):Int),.int .i64 0])=res∧[⟨true,0,0,true,[],false⟩]=bs2):Lent Try.prog 60 [.rsl (rowI b) 0 b.length] [] res bs2:=lent_of0 Try.func60 f60b fun E hE=>by
 refine f60W b hE ⟨h,fun e=>?_,fun e=>⟨?_,fun e2=>?_,fun e2=>?_⟩⟩
 · have e1:QI b=1:=by rw [QI,if_pos e]
   have:=h1 (by rw [e1]; omega)
   rw [e1] at this; exact this
 · exact sumOk_bal e
 · have e1:QI b=110:=by rw [QI,if_neg (by rw [e]; simp),if_neg e2]
   have:=h1 (by rw [e1]; omega)
   rw [e1] at this; exact this
 · have e1:QI b=0:=by rw [QI,if_neg (by rw [e]; simp),if_pos e2]
   have hr:=h2 e1
   have hb:=bal_of e
   have key:∀ (d i:Nat),i+d=b.length→f60G0 E b ((setB b i:Nat):Int) i:=by
    intro d
    induction d with
    | zero =>
     intro i hd
     have:i=b.length:=by omega
     subst this
     exact f60W0 b _ _ hE ⟨fun h=>by omega,fun _=>hr⟩
    | succ d ih =>
     intro i hd
     have hi:b[i]?=some b[i]:=List.getElem?_eq_getElem (by omega)
     have hd':b.getD i 0=b[i]:=by rw [List.getD,hi]; rfl
     have nx:=ih (i+1) (by omega)
     rw [setB,hd'] at nx
     have hp:2 ^ i≤2 ^ 9:=pow_le (by omega)
     have hp2:2 ^ i≤2 ^ 10:=pow_le (by omega)
     have hs:setB b i<2 ^ i:=Vg
     refine f60W0 b _ _ hE ⟨fun _=>⟨b[i],hi,fun h0=>⟨?_,⟨by omega,by simp [IntKind.bits]; omega⟩,by omega,?_⟩,fun h0=>⟨by omega,?_⟩⟩,fun h=>by omega⟩
     · rw [Yl]; omega
     · rw [Yl,or_nat (by omega) (by omega)]
       rw [if_neg h0] at nx
       exact nx
     · rw [if_pos h0] at nx; exact nx
   exact key b.length 0 (by omega)
theorem parted_fine (b:List Int) (h:b.length≤9223372036854775807) (he:QI b=0):Lent Try.prog 60 [.rsl (rowI b) 0 b.length] [] (.tup [.pm [.rsl (rowI b) 0 b.length] 0 0 0,.int .i64 ((setB b b.length:Nat):Int),.int .i64 0]) [⟨true,0,0,true,[],false⟩]:=WG b h (fun h=>absurd he h) fun _=>⟨rfl,rfl⟩
theorem parted_err (b:List Int) (h:b.length≤9223372036854775807) (he:¬ QI b=0):Lent Try.prog 60 [.rsl (rowI b) 0 b.length] [] (.tup [.nilPtr,.int .i64 0,.int .i64 (QI b)]) []:=WG b h (fun _=>⟨rfl,rfl⟩) fun h=>absurd h he
theorem settle_okI (b:List Int) (st:Int) (h:Yi b st∧totN b (Int.toNat st)=0):Lent Try.prog 61 [.pm [.rsl (rowI b) 0 b.length] 0 0 0,.int .i64 st] [⟨true,0,0,true,[],false⟩]
 (.rsl (Qo (QQ b 1024 (Int.toNat st))) 0 (QQ b 1024 (Int.toNat st)).length) [⟨true,0,0,true,Qk (XH b 1024 1024 (Int.toNat st) []),false⟩]:=by
 obtain ⟨⟨S,rfl,h2⟩,h3⟩:=h
 rw [Int.toNat_natCast] at h3 ⊢
 exact settle_ok b S ⟨S,rfl,h2⟩ h3
theorem f36b:Try.f36.body=some (Qa Try.prog 36):=by kernel_rfl
theorem u36 {a c k:List AV} {r:AV} (h:Pure Try.prog 36 (a++c++k) r):Qg Try.prog (.clos 36 a k) c r:=Ql Try.func36 (by kernel_rfl) f36b h
abbrev z36_1 (b:(List Int)):=QQ b 1024 (Int.toNat ((setB b b.length:Nat):Int))
theorem p36_start_0 (b:(List Int)) {E:Env} {res:AV} (hE:Qe Try.prog 36 res E) (ho:AllP [Vl Try.prog (.clos 60 [] []) [.rsl (rowI b) 0 b.length] [] (.tup [.pm [.rsl (rowI b) 0 b.length] 0 0 0,.int .i64 ((setB b b.length:Nat):Int),.int .i64 0]) [⟨true,0,0,true,[],false⟩],false=false,Vl Try.prog (.clos 61 [] []) [.pm [.rsl (rowI b) 0 b.length] 0 0 0,.int .i64 ((setB b b.length:Nat):Int)] [⟨true,0,0,true,[],false⟩] (.rsl (Qo (z36_1 b)) 0 ((z36_1 b).length)) [⟨true,0,0,true,(Qk (XH b 1024 1024 (Int.toNat ((setB b b.length:Nat):Int)) [])),false⟩]])
 (hr:AvLe (.tup [.rsl (Qo (z36_1 b)) 0 ((z36_1 b).length),.int .i64 0]) res):G Try.prog E [.code (Qa Try.prog 36)] ⟨[.rsl (rowI b) 0 b.length]++unds (Try.f36.ntmps - 1),[]⟩ :=
 Qb (n:=400) (evs:=[.lent [] (.tup [.pm [.rsl (rowI b) 0 b.length] 0 0 0,.int .i64 ((setB b b.length:Nat):Int),.int .i64 0]) [⟨true,0,0,true,[],false⟩],.b false,.lent [0] (.rsl (Qo (z36_1 b)) 0 ((z36_1 b).length)) [⟨true,0,0,true,(Qk (XH b 1024 1024 (Int.toNat ((setB b b.length:Nat):Int)) [])),false⟩]]) (obs:=_) hE Try.func36 Qf (by kernel_rfl) ho hr
theorem p36_start_1 (b:(List Int)) {E:Env} {res:AV} (hE:Qe Try.prog 36 res E) (ho:AllP [Vl Try.prog (.clos 60 [] []) [.rsl (rowI b) 0 b.length] [] (.tup [.nilPtr,.int .i64 0,.int .i64 (QI b)]) [],((QI b) != 0)=true])
 (hr:AvLe (.tup [.nilSl,.int .i64 (QI b)]) res):G Try.prog E [.code (Qa Try.prog 36)] ⟨[.rsl (rowI b) 0 b.length]++unds (Try.f36.ntmps - 1),[]⟩ :=
 Qb (n:=400) (evs:=[.lent [] (.tup [.nilPtr,.int .i64 0,.int .i64 (QI b)]) [],.b true]) (obs:=_) hE Try.func36 Qf (by kernel_rfl) ho hr
theorem f36W (b:(List Int)) {E:Env} {rv:((List Pay) × Int)} (hE:Qe Try.prog 36 (.tup [.rsl (Qo rv.1) 0 rv.1.length,.int .i64 rv.2]) E)
 (h:((QI b=0→((b.length≤9223372036854775807)∧((Yi b ((setB b b.length:Nat):Int)∧totN b (Int.toNat ((setB b b.length:Nat):Int))=0)∧rv=((QQ b 1024 (Int.toNat ((setB b b.length:Nat):Int))),0))))∧(¬ (QI b=0)→((b.length≤9223372036854775807)∧((¬ ((QI b)=0)→rv=(([]:List Pay),(QI b)))∧((QI b)=0→False)))))):G Try.prog E [.code (Qa Try.prog 36)] ⟨[.rsl (rowI b) 0 b.length]++unds (Try.f36.ntmps - 1),[]⟩:=by
 rcases bft (decide (QI b=0)) with hc0 | hc0
 · have h:=h.1 (odt hc0)
   obtain ⟨h1,h⟩:=h
   obtain ⟨h2,h⟩:=h
   exact p36_start_0 b hE ⟨(Xk Try.func60 (by kernel_rfl) f60b (parted_fine b h1 (odt hc0))),rfl,(Xk Try.func61 (by kernel_rfl) f61b (settle_okI b ((setB b b.length:Nat):Int) h2)),trivial⟩ (AvLe.of_eq (by rw [h]; try rfl))
 · have h:=h.2 (odf hc0)
   obtain ⟨h1,h⟩:=h
   rcases bft ((QI b) != 0) with hc1 | hc1
   · have h:=h.1 (bneT hc1)
     exact p36_start_1 b hE ⟨(Xk Try.func60 (by kernel_rfl) f60b (parted_err b h1 (odf hc0))),hc1,trivial⟩ (by rw [h]; exact (tup_le ⟨Va,⟨AvLe.of_eq rfl,trivial⟩⟩))
   · have h:=h.2 (bneF hc1)
     exact h.elim
theorem YJ (b:List Int) (h:b.length≤9223372036854775807):Pure Try.prog 36 [.rsl (rowI b) 0 b.length] (.tup [.rsl (Qo (Qy b).1) 0 (Qy b).1.length,.int .i64 (Qy b).2]):=Qr Try.func36 f36b fun E hE=>by
 refine f36W b (rv:=Qy b) hE ⟨fun e=>⟨h,⟨?_,?_⟩,?_⟩,fun e=>⟨h,fun _=>?_,fun h=>absurd h e⟩⟩
 · exact setB_in (WI e).1
 · rw [Int.toNat_natCast]; exact yc (WI e).2
 · rw [Int.toNat_natCast,Qy,if_pos e]
 · rw [Qy,if_neg e]
theorem f34b:Try.f34.body=some (Qa Try.prog 34):=by kernel_rfl
theorem u34 {a c k:List AV} {r:AV} (h:Pure Try.prog 34 (a++c++k) r):Qg Try.prog (.clos 34 a k) c r:=Ql Try.func34 (by kernel_rfl) f34b h
theorem p34_start_0 (b:(List Int)) {E:Env} {res:AV} (hE:Qe Try.prog 34 res E) (ho:AllP [Qg Try.prog (.clos 36 [] []) [.rsl (rowI b) 0 b.length] (.tup [.rsl (Qo ((Qy b).1)) 0 (((Qy b).1).length),.int .i64 ((Qy b).2)])])
 (hr:AvLe (.tup [.int .i64 ((((Qy b).1).length:Nat):Int),.int .i64 ((Qy b).2)]) res):G Try.prog E [.code (Qa Try.prog 34)] ⟨[.rsl (rowI b) 0 b.length]++unds (Try.f34.ntmps - 1),[]⟩ :=
 Qb (n:=400) (evs:=[.v (.tup [.rsl (Qo ((Qy b).1)) 0 (((Qy b).1).length),.int .i64 ((Qy b).2)])]) (obs:=_) hE Try.func34 Qf (by kernel_rfl) ho hr
theorem f34W (b:(List Int)) {E:Env} {rv:(Int × Int)} (hE:Qe Try.prog 34 (.tup [.int .i64 rv.1,.int .i64 rv.2]) E)
 (h:((b.length≤9223372036854775807)∧rv=(((((Qy b).1).length:Nat):Int),(Qy b).2))):G Try.prog E [.code (Qa Try.prog 34)] ⟨[.rsl (rowI b) 0 b.length]++unds (Try.f34.ntmps - 1),[]⟩:=by
 obtain ⟨h1,h⟩:=h
 exact p34_start_0 b hE ⟨(u36 (YJ b h1)),trivial⟩ (AvLe.of_eq (by rw [h]; try rfl))
theorem VB (b:List Int) (h:b.length≤9223372036854775807):Pure Try.prog 34 [.rsl (rowI b) 0 b.length] (.tup [.int .i64 (fewK b).1,.int .i64 (fewK b).2]):=Qr Try.func34 f34b fun E hE=>f34W b (rv:=fewK b) hE ⟨h,rfl⟩
end Go.Proofs.Ytmdbebbibecidaa
namespace Go.Proofs.Ytmdbebbibecidaa
open Go Ax
open Go.Proofs
/-! ### the members of a set -/
def memS (n S:Nat):List Nat:=(List.range n).filter fun i=>S.testBit i
def vB (b:List Int):Nat→Int:=fun i=>b.getD i 0
theorem Xr {n S i:Nat}:i ∈ memS n S ↔ i<n∧S.testBit i=true:=by
 unfold memS; rw [List.mem_filter,List.mem_range]
theorem XZ {L:List Nat} (h:L.Nodup) (P:Nat→Bool):(L.filter P).Nodup:=List.Pairwise.filter P h
theorem memS_nodup {n S:Nat}:(memS n S).Nodup:=XZ List.nodup_range _
theorem Vs {n:Nat}:memS n 0=[]:=List.filter_eq_nil_iff.2 fun i _=>by simp
theorem sm_app {v:Nat→Int} {a b:List Nat}:sm v (a++b)=sm v a+sm v b:=by unfold sm; rw [List.map_append,List.sum_append]
theorem totP_sm {b:List Int} {S:Nat}:∀ n,totP b S n=sm (vB b) (memS n S)
 | 0=>rfl
 | n+1=>by
  have ih:=totP_sm (b:=b) (S:=S) n
  unfold memS at ih ⊢
  rw [totP,List.range_succ,List.filter_append,sm_app,ih]
  cases hs:S.testBit n <;> simp [hs,sm,vB]
theorem qU {b:List Int} {S:Nat}:totN b S=sm (vB b) (memS b.length S):=totP_sm _
theorem memS_filter {n S:Nat} {P:Nat→Bool}:(memS n S).filter P=memS n (Wm n fun i=>S.testBit i && P i):=by
 unfold memS
 refine filt fun i hi=>?_
 rw [Vu,decide_eq_true (List.mem_range.1 hi),Bool.true_and]
theorem memS_part {n S x:Nat} (h:x &&& S=x):(memS n S).filter (fun i=>x.testBit i)=memS n x:=by
 unfold memS
 refine filt fun i _=>?_
 have:(x.testBit i && S.testBit i)=x.testBit i:=by rw [← Nat.testBit_and,h]
 rw [Bool.and_comm]; exact this
theorem Vt {n S x:Nat}:(memS n S).filter (fun i=>!x.testBit i)=memS n (without S x):=by
 unfold memS
 refine filt fun i _=>?_
 rw [Xa]
theorem part_ne {n S x:Nat} (h:x<2 ^ n) (h0:0<x):∃ i,i<n∧x.testBit i=true:=by
 apply Classical.byContradiction
 intro hc
 have:x=0:=Nat.eq_of_testBit_eq fun i=>by
  rw [Nat.zero_testBit]
  by_cases hi:i<n
  · cases hb:x.testBit i with
    | false=>rfl
    | true=>exact absurd ⟨i,hi,hb⟩ hc
  · exact Nat.testBit_lt_two_pow (Nat.lt_of_lt_of_le h (Nat.pow_le_pow_right (by omega) (by omega)))
 omega
/-- The program finds the greatest number of groups. -/
theorem most_is {b:List Int} (hl:b.length≤10):∀ (S:Nat),S<2 ^ b.length→totN b S=0→Wk (vB b) (memS b.length S) (Int.toNat (QZ b S)):=by
 intro S
 induction S using Nat.strongRecOn with
 | ind S ih =>
  intro hS ht
  by_cases h0:S=0
  · subst h0
    rw [Vs]
    intro j
    exact ⟨fun h=>by have:=grp_nil h; omega,fun h=>by
     have:j=0:=by rw [VQ] at h; simpa using h
     subst this; exact YQ _ _⟩
  have hS2:=YX hl hS
  have hin:∀ x ∈ Qt b S,x &&& S=x∧0<x∧totN b x=0∧without S x<S∧x≤S:=fun x hx=>by
   have hp:=QW hx
   have hw:=QA hp.1
   exact ⟨hp.1,hp.2.1,hp.2.2.2,by omega,by omega⟩
  have IH:∀ x ∈ Qt b S,Wk (vB b) (memS b.length (without S x)) (Int.toNat (QZ b (without S x))):=fun x hx=>by
   obtain ⟨a1,a2,a3,a4,a5⟩:=hin x hx
   exact ih _ a4 (by omega) (Vd a1 ht a3)
  have hself:S ∈ Qt b S:=WM (Nat.and_self S) (by omega) (lowP_self h0 hS2) ht
  obtain ⟨m1,m2,m3⟩:=Wv (v:=fun x=>1+QZ b (without S x)) (l:=Qt b S) (a:=0)
  rw [← Wu h0] at m1 m2 m3
  have mb:=fun x=>(YN (b:=b) x).1
  have hs:sm (vB b) (memS b.length S)=0:=by rw [← qU]; exact ht
  intro j
  constructor
  · intro hg
    cases j with
    | zero=>omega
    | succ j =>
     obtain ⟨i0,h1,h2,h3,h4⟩:=low_of h0 hS2
     have hi0:i0<b.length:=by
      apply Classical.byContradiction
      intro hn
      rw [Nat.testBit_lt_two_pow (Nat.lt_of_lt_of_le hS (Nat.pow_le_pow_right (by omega) (by omega)))] at h2
      cases h2
     obtain ⟨P,p1,p2,p3⟩:=grp_take hs (Xr.2 ⟨hi0,h2⟩) hg
     have hx1:(Wm b.length fun i=>S.testBit i && P i) &&& S=Wm b.length fun i=>S.testBit i && P i:=by
      refine Nat.eq_of_testBit_eq fun i=>?_
      rw [Nat.testBit_and,Vu]
      cases S.testBit i <;> simp
     rw [memS_filter,← qU] at p2
     have hrest:(memS b.length S).filter (fun i=>!P i)=memS b.length (without S (Wm b.length fun i=>S.testBit i && P i)):=by
      rw [← Vt]
      refine List.filter_congr fun i hi=>?_
      have:=Xr.1 hi
      rw [Vu,decide_eq_true this.1,this.2]; simp
     rw [hrest] at p3
     generalize hx:(Wm b.length fun i=>S.testBit i && P i)=x at hx1 p2 p3
     have hxi:x.testBit i0=true:=by rw [← hx,Vu,decide_eq_true hi0,h2,p1]; rfl
     have hx0:0<x:=by
      rcases Nat.eq_zero_or_pos x with h | h
      · rw [h,Nat.zero_testBit] at hxi; cases hxi
      · exact h
     have hxS:=@Nat.and_le_right x S
     have hxp:x ∈ Qt b S:=WM hx1 hx0 (by rw [lowP_iff hS2 (by omega) h1 h4]; exact hxi) p2
     have a:=(IH x hxp j).1 p3
     have c:=m2 x hxp
     have d:=mb (without S x)
     omega
  · intro hj
    refine Grp.le ?_ hj
    rcases m3 with m3 | ⟨x,hx,m3⟩
    · rw [m3]; exact YQ _ _
    · obtain ⟨a1,a2,a3,a4,a5⟩:=hin x hx
      have g:=(IH x hx _).2 (Nat.le_refl _)
      have d:=mb (without S x)
      have e:Int.toNat (QZ b S)=Int.toNat (QZ b (without S x))+1:=by omega
      rw [e]
      rw [← Vt] at g
      obtain ⟨i,hi,hxi⟩:=part_ne (n:=b.length) (S:=S) (x:=x) (by omega) a2
      have hSi:S.testBit i=true:=by
       have:(x.testBit i && S.testBit i)=x.testBit i:=by rw [← Nat.testBit_and,a1]
       rw [hxi,Bool.true_and] at this; exact this
      exact grp_add (P:=fun i=>x.testBit i) ⟨i,Xr.2 ⟨hi,hSi⟩,hxi⟩ (by rw [memS_part a1,← qU]; exact a3) g
/-! ### groups under other names -/
def Lab (v:Nat→Int) (L:List Nat) (k:Nat) (c:Nat→Nat):Prop:=∀ j,1≤j→j≤k→(∃ i ∈ L,c i=j)∧sm v (L.filter fun i=>c i == j)=0
theorem Grp.lab {v:Nat→Int} {L:List Nat} {k:Nat} (h:Grp v L k):∃ c,Lab v L k c:=h
def swp (a b x:Nat):Nat:=if x=a then b else if x=b then a else x
theorem Ve {a b x:Nat}:swp a b (swp a b x)=x:=by
 unfold swp
 by_cases h1:x=a
 · subst h1
   by_cases h2:b=x
   · subst h2; simp
   · rw [if_pos rfl,if_neg h2,if_pos rfl]
 · rw [if_neg h1]
   by_cases h2:x=b
   · subst h2; rw [if_pos rfl,if_pos rfl]
   · rw [if_neg h2,if_neg h1,if_neg h2]
theorem qW {a b x k:Nat} (ha:1≤a∧a≤k) (hb:1≤b∧b≤k) (hx:1≤x∧x≤k):1≤swp a b x∧swp a b x≤k:=by
 unfold swp; split
 · exact hb
 · split
   · exact ha
   · exact hx
theorem Lab.swap {v:Nat→Int} {L:List Nat} {k a b:Nat} {c:Nat→Nat} (h:Lab v L k c) (ha:1≤a∧a≤k) (hb:1≤b∧b≤k):Lab v L k fun i=>swp a b (c i):=by
 intro j h1 h2
 obtain ⟨⟨i,hi,hc⟩,hs⟩:=h (swp a b j) (qW ha hb ⟨h1,h2⟩).1 (qW ha hb ⟨h1,h2⟩).2
 refine ⟨⟨i,hi,by show swp a b (c i)=j; rw [hc]; exact Ve⟩,?_⟩
 rw [← hs]
 congr 1
 refine List.filter_congr fun x _=>?_
 show (swp a b (c x) == j)=_
 by_cases he:c x=swp a b j
 · rw [he,Ve]; simp
 · have:¬ swp a b (c x)=j:=fun h=>he (by rw [← h]; exact Ve.symm)
   rw [beq_eq_false_iff_ne.2 he,beq_eq_false_iff_ne.2 this]
theorem Lab.le {v:Nat→Int} {L:List Nat} {k j:Nat} {c:Nat→Nat} (h:Lab v L k c) (hj:j≤k):Lab v L j c:=fun i a b=>h i a (by omega)
/-- One group is given up. -/
theorem Lab.drop {v:Nat→Int} {L:List Nat} {k a:Nat} {c:Nat→Nat} (h:Lab v L (k+1) c) (ha:1≤a∧a≤k+1):∃ c',Lab v L k c'∧∀ i,c i=a→c' i=k+1 :=
 ⟨_,(h.swap ha (b:=k+1) ⟨by omega,by omega⟩).le (by omega),fun i hi=>by show swp a (k+1) (c i)=k+1; rw [hi]; simp [swp]⟩
theorem sm_zero {v:Nat→Int}:∀ {L:List Nat},(∀ i ∈ L,v i=0)→sm v L=0
 | [],_=>rfl
 | i :: L,h=>by
  have:=sm_zero (v:=v) (L:=L) fun j hj=>h j (by simp [hj])
  unfold sm at *
  rw [List.map_cons,List.sum_cons,this,h i (by simp)]; rfl
theorem sm_cong {v w:Nat→Int}:∀ {L:List Nat},(∀ i ∈ L,v i=w i)→sm v L=sm w L
 | [],_=>rfl
 | i :: L,h=>by
  have:=sm_cong (v:=v) (w:=w) (L:=L) fun j hj=>h j (by simp [hj])
  unfold sm at *
  rw [List.map_cons,List.sum_cons,List.map_cons,List.sum_cons,this,h i (by simp)]
/-- One without a balance is left out. -/
theorem grp_out {v:Nat→Int} {L:List Nat} {i0 k:Nat} (hv:v i0=0) (h:Grp v L (k+1)):Grp v (L.filter fun i=>i != i0) k:=by
 obtain ⟨c,h⟩:=h.lab
 have same:∀ (d:Nat→Nat) (j:Nat),sm v ((L.filter fun i=>i != i0).filter fun i=>d i == j)=sm v (L.filter fun i=>d i == j):=fun d j=>by
  rw [Yj v (fun i=>i == i0) (L.filter fun i=>d i == j)]
  have e1:sm v ((L.filter fun i=>d i == j).filter fun i=>i == i0)=0:=sm_zero fun i hi=>by
   have:=(List.mem_filter.1 hi).2
   rw [eq_of_beq this]; exact hv
  rw [e1,Int.zero_add,filt (R:=fun i=>i != i0 && d i == j) (fun i _=>rfl),filt (R:=fun i=>i != i0 && d i == j) (fun i _=>by cases d i == j <;> cases h:i == i0 <;> simp [bne,h])]
 have keep:∀ (d:Nat→Nat) (j:Nat),(∃ i ∈ L,d i=j)→d i0 ≠ j→∃ i ∈ L.filter fun i=>i != i0,d i=j:=fun d j ⟨i,hi,hd⟩ hne =>
  ⟨i,List.mem_filter.2 ⟨hi,by simp; rintro rfl; exact hne hd⟩,hd⟩
 by_cases ha:1≤c i0∧c i0≤k+1
 · obtain ⟨c',hc',hk⟩:=h.drop ha
   have e0:=hk i0 rfl
   refine ⟨c',fun j h1 h2=>?_⟩
   obtain ⟨q1,q2⟩:=hc' j h1 h2
   exact ⟨keep c' j q1 (by omega),by rw [same]; exact q2⟩
 · refine ⟨c,fun j h1 h2=>?_⟩
   obtain ⟨q1,q2⟩:=h j h1 (by omega)
   exact ⟨keep c j q1 (by omega),by rw [same]; exact q2⟩
/-- All without a balance are left out. -/
theorem grp_outs {v:Nat→Int}:∀ (n:Nat) {L:List Nat} {k:Nat},L.Nodup→L.length≤n→Grp v L k→Grp v (L.filter fun i=>decide (v i ≠ 0)) (k - (L.length - (L.filter fun i=>decide (v i ≠ 0)).length))
 | n,L,k,hn,hl,h=>by
  by_cases hz:∃ i ∈ L,v i=0
  · obtain ⟨i,hi,hv⟩:=hz
    cases n with
    | zero =>
     have:L=[]:=List.eq_nil_of_length_eq_zero (by omega)
     subst this; simp at hi
    | succ n =>
     have hlen:(L.filter fun x=>x != i).length+1=L.length:=by
      have:=List.length_erase_of_mem hi
      rw [hn.erase_eq_filter] at this
      have h0:0<L.length:=List.length_pos_iff.2 fun e=>by subst e; simp at hi
      omega
     have e:(L.filter fun x=>x != i).filter (fun x=>decide (v x ≠ 0))=L.filter fun x=>decide (v x ≠ 0):=filt fun x _=>by
      by_cases hx:x=i
      · subst hx; simp [hv]
      · simp [hx]
     cases k with
     | zero=>rw [Nat.zero_sub]; exact YQ _ _
     | succ k =>
      have ih:=grp_outs n (XZ hn _) (by omega) (grp_out hv h)
      rw [e] at ih
      refine ih.le ?_
      have:=List.length_filter_le (fun x=>decide (v x ≠ 0)) (L.filter fun x=>x != i)
      rw [e] at this
      omega
  · have e:L.filter (fun i=>decide (v i ≠ 0))=L:=List.filter_eq_self.2 fun i hi=>decide_eq_true fun h0=>hz ⟨i,hi,h0⟩
    rw [e,Nat.sub_self,Nat.sub_zero]; exact h
theorem WS (P:Nat→Bool):∀ L:List Nat,L.length=(L.filter P).length+(L.filter fun i=>!P i).length
 | []=>rfl
 | i :: L=>by
  have ih:=WS P L
  cases h:P i <;> simp [List.filter_cons,h] <;> omega
/-- Groups of people none of whom has 0 are of two at least. -/
theorem grp_two {v:Nat→Int}:∀ {k:Nat} {L:List Nat},(∀ i ∈ L,v i ≠ 0)→Grp v L k→2*k≤L.length
 | 0,L,_,_=>by omega
 | k+1,L,hv,h=>by
  obtain ⟨c,h⟩:=h
  obtain ⟨⟨i,hi,hc⟩,hs⟩:=h (k+1) (by omega) (by omega)
  have h2:2≤(L.filter fun i=>c i == k+1).length:=by
   have hm:i ∈ L.filter fun i=>c i == k+1:=List.mem_filter.2 ⟨hi,by simpa using hc⟩
   match hf:L.filter (fun i=>c i == k+1) with
   | []=>rw [hf] at hm; simp at hm
   | [x] =>
    rw [hf] at hs
    have hx:x ∈ L.filter fun i=>c i == k+1:=by rw [hf]; simp
    have:=hv x (List.mem_filter.1 hx).1
    unfold sm at hs
    simp at hs
    exact absurd hs this
   | x :: y :: r=>simp only [List.length_cons]; omega
  have hr:Grp v (L.filter fun i=>!(c i == k+1)) k:=⟨c,fun j h1 h2=>by
   obtain ⟨⟨x,hx,hcx⟩,hz⟩:=h j h1 (by omega)
   refine ⟨⟨x,List.mem_filter.2 ⟨hx,by simp; omega⟩,hcx⟩,?_⟩
   rw [← hz,filt (R:=fun i=>c i == j)]
   intro y _
   by_cases hy:c y=j
   · have:¬ c y=k+1:=by omega
     simp [hy]; omega
   · simp [hy]⟩
  have ih:=grp_two (fun i hi=>hv i (List.mem_filter.1 hi).1) hr
  have hlen:=WS (fun i=>c i == k+1) L
  omega
/-! ### payments -/
theorem sm_upd {v:Nat→Int} {a:Nat} {e:Int}:∀ {L:List Nat},L.Nodup→sm (fun i=>if i=a then v i+e else v i) L=sm v L+if a ∈ L then e else 0
 | [],_=>by simp [sm]
 | x :: L,h=>by
  obtain ⟨h1,h2⟩:=List.nodup_cons.1 h
  have ih:=sm_upd (v:=v) (a:=a) (e:=e) h2
  unfold sm at *
  rw [List.map_cons,List.sum_cons,List.map_cons,List.sum_cons,ih]
  by_cases hx:x=a
  · subst hx
    rw [if_pos rfl,if_neg h1,if_pos (by simp)]; omega
  · have:(a ∈ x :: L) ↔ a ∈ L:=by
     rw [List.mem_cons]
     exact ⟨fun h=>h.resolve_left fun e=>hx e.symm,.inr⟩
    rw [if_neg hx]
    by_cases ha:a ∈ L
    · rw [if_pos ha,if_pos (this.2 ha)]; omega
    · rw [if_neg ha,if_neg (fun h=>ha (this.1 h))]; omega
/-- A payment of c from one to the other costs one group at the most. -/
theorem grp_pay {v:Nat→Int} {L:List Nat} {p q:Nat} {c:Int} {k:Nat} (hL:L.Nodup) (hp:p ∈ L) (hq:q ∈ L) (hpq:p ≠ q)
 (h:Grp (fun i=>(if i=q then (if i=p then v i+c else v i)+(0 - c) else if i=p then v i+c else v i)) L (k+1)):Grp v L k:=by
 have hs:∀ (P:Nat→Bool),sm (fun i=>(if i=q then (if i=p then v i+c else v i)+(0 - c) else if i=p then v i+c else v i)) (L.filter P)=sm v (L.filter P)+(if P p=true then c else 0)+(if P q=true then 0 - c else 0):=fun P=>by
  rw [sm_upd (v:=fun i=>if i=p then v i+c else v i) (XZ hL _),sm_upd (XZ hL _)]
  have e1:(p ∈ L.filter P) ↔ P p=true:=by rw [List.mem_filter]; exact ⟨fun h=>h.2,fun h=>⟨hp,h⟩⟩
  have e2:(q ∈ L.filter P) ↔ P q=true:=by rw [List.mem_filter]; exact ⟨fun h=>h.2,fun h=>⟨hq,h⟩⟩
  simp only [e1,e2]
 obtain ⟨d,h⟩:=h.lab
 -- the group that one of them is in is given up
 have give:∀ (a:Nat),(1≤a∧a≤k+1)→(∀ j,1≤j→j≤k+1→j ≠ a→d p ≠ j∧d q ≠ j)→Grp v L k:=fun a ha hno=>by
  obtain ⟨d',h1,-⟩:∃ c',Lab _ L k c'∧∀ i,d i=a→c' i=k+1:=h.drop ha
  obtain ⟨d'',h2⟩:∃ c':Nat→Nat,c'=fun i=>swp a (k+1) (d i):=⟨_,rfl⟩
  refine ⟨d'',fun j j1 j2=>?_⟩
  obtain ⟨q1,q2⟩:=(h.swap ha (b:=k+1) ⟨by omega,by omega⟩) j j1 (by omega)
  rw [h2]
  refine ⟨q1,?_⟩
  have hne:∀ x,(x=p ∨ x=q)→(swp a (k+1) (d x) == j)=false:=fun x hx=>by
   refine beq_eq_false_iff_ne.2 fun he=>?_
   have hr:=qW ha (⟨by omega,by omega⟩:1≤k+1∧k+1≤k+1) ⟨j1,by omega⟩
   have hdx:d x=swp a (k+1) j:=by rw [← he,Ve]
   have hna:swp a (k+1) j ≠ a:=fun h=>by
    have:j=swp a (k+1) a:=by
     have e:=congrArg (swp a (k+1)) h
     rw [Ve] at e; exact e
    rw [this] at j2
    simp only [swp,if_true] at j2
    omega
   have:=hno _ hr.1 hr.2 hna
   rcases hx with rfl | rfl
   · exact this.1 hdx
   · exact this.2 hdx
  rw [hs,hne p (.inl rfl),hne q (.inr rfl)] at q2
  simpa using q2
 by_cases hP:1≤d p∧d p≤k+1
 · by_cases hQ:1≤d q∧d q≤k+1
   · by_cases he:d p=d q
     · -- both in one group
       refine ⟨d,fun j j1 j2=>?_⟩
       obtain ⟨q1,q2⟩:=h j j1 (by omega)
       refine ⟨q1,?_⟩
       rw [hs,he] at q2
       cases hb:d q == j <;> rw [hb] at q2 <;> simp at q2 <;> omega
     · -- two groups become one
       have hsw:=h.swap hQ (b:=k+1) ⟨by omega,by omega⟩
       have hqk:swp (d q) (k+1) (d q)=k+1:=by simp [swp]
       have hpa:swp (d q) (k+1) (d p) ≠ k+1:=fun e=>he (by
        have:=congrArg (swp (d q) (k+1)) (e.trans hqk.symm)
        rw [Ve,Ve] at this; exact this)
       have hpr:=qW hQ (⟨by omega,by omega⟩:1≤k+1∧k+1≤k+1) hP
       generalize hd2:(fun i=>swp (d q) (k+1) (d i))=d2 at hsw
       have e1:d2 q=k+1:=by rw [← hd2]; exact hqk
       have e2:d2 p ≠ k+1:=by rw [← hd2]; exact hpa
       have e3:1≤d2 p∧d2 p≤k+1:=by rw [← hd2]; exact hpr
       refine ⟨fun i=>if d2 i=k+1 then d2 p else d2 i,fun j j1 j2=>?_⟩
       obtain ⟨⟨i,hi,hc⟩,q2⟩:=hsw j j1 (by omega)
       refine ⟨⟨i,hi,by simp only; rw [if_neg (by omega)]; exact hc⟩,?_⟩
       rw [hs] at q2
       by_cases hj:j=d2 p
       · obtain ⟨-,q3⟩:=hsw (k+1) (by omega) (by omega)
         rw [hs,e1] at q3
         rw [show (d2 p == k+1)=false from beq_eq_false_iff_ne.2 e2] at q3
         rw [e1,← hj] at q2
         rw [show (k+1 == j)=false from beq_eq_false_iff_ne.2 (by omega)] at q2
         rw [Yj v (fun i=>d2 i == j),filt (R:=fun i=>d2 i == j),filt (R:=fun i=>d2 i == k+1)]
         · simp at q2 q3; omega
         · intro x _
           show ((if d2 x=k+1 then d2 p else d2 x) == j && !(d2 x == j))=(d2 x == k+1)
           by_cases hx:d2 x=k+1
           · rw [if_pos hx,hx,← hj,show (k+1 == j)=false from beq_eq_false_iff_ne.2 (by omega)]; simp
           · rw [if_neg hx,beq_eq_false_iff_ne.2 hx]; simp
         · intro x _
           show ((if d2 x=k+1 then d2 p else d2 x) == j && (d2 x == j))=(d2 x == j)
           by_cases hx:d2 x=k+1
           · rw [if_pos hx,hx,show (k+1 == j)=false from beq_eq_false_iff_ne.2 (by omega)]; simp
           · rw [if_neg hx]; simp
       · rw [e1,show (k+1 == j)=false from beq_eq_false_iff_ne.2 (by omega),show (d2 p == j)=false from beq_eq_false_iff_ne.2 (fun h=>hj h.symm)] at q2
         have:L.filter (fun i=>(if d2 i=k+1 then d2 p else d2 i) == j)=L.filter fun i=>d2 i == j:=List.filter_congr fun x _=>by
          by_cases hx:d2 x=k+1
          · rw [if_pos hx,hx,show (k+1 == j)=false from beq_eq_false_iff_ne.2 (by omega)]
            exact beq_eq_false_iff_ne.2 fun h=>hj h.symm
          · rw [if_neg hx]
         rw [this]
         simpa using q2
   · exact give (d p) hP fun j j1 j2 hj=>⟨fun h=>hj h.symm,fun h=>hQ (by omega)⟩
 · by_cases hQ:1≤d q∧d q≤k+1
   · exact give (d q) hQ fun j j1 j2 hj=>⟨fun h=>hP (by omega),fun h=>hj h.symm⟩
   · exact give (k+1) ⟨by omega,by omega⟩ fun j j1 j2 hj=>⟨fun h=>hP (by omega),fun h=>hQ (by omega)⟩
end Go.Proofs.Ytmdbebbibecidaa
namespace Go.Proofs.Ytmdbebbibecidaa
open Go Ax
open Go.Proofs
theorem yo {l:List Int} {a i:Nat} {e:Int} (h:a<l.length):(l.set a e).getD i 0=if i=a then e else l.getD i 0:=by
 by_cases hi:i=a
 · subst hi; rw [if_pos rfl,List.getD,List.getElem?_set_self h]; rfl
 · rw [if_neg hi,List.getD,List.getElem?_set_ne (fun h=>hi h.symm)]; rfl
theorem payDo_len {v:List Int} {x:Pay}:(yf v x).length=v.length:=by unfold yf; simp
theorem VM {n:Int}:∀ {a b:List Pay} {v:List Int},XE n (a++b) v=(XE n a v).bind (XE n b)
 | [],b,v=>rfl
 | x :: a,b,v=>by
  rw [List.cons_append,XE,XE]
  split
  · exact VM
  · rfl
theorem payOk_of {n:Int} {x:Pay} (h:payOk n x=true):(0≤x.frm∧x.frm≤n - 1)∧(0≤x.to∧x.to≤n - 1)∧x.frm ≠ x.to∧1≤x.c∧x.c≤100000000000:=by
 simp only [payOk,Bool.and_eq_true,Bool.not_eq_true',decide_eq_false_iff_not] at h
 obtain ⟨h1,h2,h3,h4⟩:=h
 exact ⟨Qu.1 h1,Qu.1 h2,h3,Qu.1 h4⟩
theorem of_payOk {n:Int} {x:Pay} (h1:0≤x.frm∧x.frm≤n - 1) (h2:0≤x.to∧x.to≤n - 1) (h3:x.frm ≠ x.to) (h4:1≤x.c∧x.c≤100000000000):payOk n x=true:=by
 simp only [payOk,Bool.and_eq_true,Bool.not_eq_true',decide_eq_false_iff_not]
 exact ⟨Qu.2 h1,Qu.2 h2,h3,Qu.2 h4⟩
theorem WF {v:List Int} {x:Pay} (h1:Int.toNat x.frm<v.length) (h2:Int.toNat x.to<v.length) (i:Nat):(yf v x).getD i 0 =
 if i=Int.toNat x.to then (if Int.toNat x.to=Int.toNat x.frm then v.getD (Int.toNat x.frm) 0+x.c else v.getD (Int.toNat x.to) 0) - x.c else if i=Int.toNat x.frm then v.getD (Int.toNat x.frm) 0+x.c else v.getD i 0:=by
 unfold yf
 rw [yo (by simpa using h2),yo h1,yo h1]
theorem Grp.cong {v w:Nat→Int} {L:List Nat} {k:Nat} (h:∀ i ∈ L,v i=w i) (hg:Grp v L k):Grp w L k:=by
 obtain ⟨c,hg⟩:=hg
 refine ⟨c,fun j h1 h2=>⟨(hg j h1 h2).1,?_⟩⟩
 rw [← (hg j h1 h2).2]
 exact (sm_cong fun i hi=>h i (List.mem_filter.1 hi).1).symm
/-- Payments that settle: there are groups. -/
theorem pay_grp:∀ {l:List Pay} {b v:List Int},XE (b.length:Int) l b=some v→(∀ i,i<b.length→v.getD i 0=0)→Grp (vB b) (List.range b.length) (b.length - l.length)
 | [],b,v,h,hz=>by
  simp only [XE,Option.some.injEq] at h
  subst h
  refine ⟨fun i=>i+1,fun j h1 h2=>⟨⟨j - 1,List.mem_range.2 (by simp at h2; omega),by show j - 1+1=j; omega⟩,sm_zero fun i hi=>hz i (List.mem_range.1 (List.mem_filter.1 hi).1)⟩⟩
 | x :: l,b,v,h,hz=>by
  rw [XE] at h
  split at h
  · rename_i hp
    obtain ⟨h1,h2,h3,h4⟩:=payOk_of hp
    have hl:(yf b x).length=b.length:=payDo_len
    have ih:=pay_grp (l:=l) (b:=yf b x) (v:=v) (by rw [hl]; exact h) (by rw [hl]; exact hz)
    rw [hl] at ih
    cases hk:b.length - l.length with
    | zero=>rw [List.length_cons,show b.length - (l.length+1)=0 by omega]; exact YQ _ _
    | succ k =>
     rw [hk] at ih
     rw [List.length_cons,show b.length - (l.length+1)=k by omega]
     refine grp_pay (p:=Int.toNat x.frm) (q:=Int.toNat x.to) (c:=x.c) List.nodup_range (List.mem_range.2 (by omega)) (List.mem_range.2 (by omega)) (by omega) (ih.cong fun i hi=>?_)
     unfold vB
     rw [WF (by omega) (by omega),if_neg (show ¬ Int.toNat x.to=Int.toNat x.frm by omega)]
     by_cases e1:i=Int.toNat x.to
     · rw [if_pos e1,if_pos e1,if_neg (by omega),e1]; omega
     · rw [if_neg e1,if_neg e1]
       by_cases e2:i=Int.toNat x.frm
       · rw [if_pos e2,if_pos e2,e2]
       · rw [if_neg e2,if_neg e2]
  · cases h
def yz (b:List Int):Nat:=(memS b.length (setB b b.length)).length
theorem WN {b:List Int}:memS b.length (setB b b.length)=(List.range b.length).filter fun i=>decide (vB b i ≠ 0):=by
 unfold memS
 refine List.filter_congr fun i hi=>?_
 rw [Vp,decide_eq_true (List.mem_range.1 hi),Bool.true_and]; rfl
/-- Payments that settle are at least so many. -/
theorem pay_least {b:List Int} {l:List Pay} {v:List Int} (hl:b.length≤10) (ht:totN b (setB b b.length)=0) (h:XE (b.length:Int) l b=some v) (hz:∀ i,i<b.length→v.getD i 0=0):yz b≤l.length+Int.toNat (QZ b (setB b b.length)):=by
 have h1:=grp_outs (List.range b.length).length List.nodup_range (Nat.le_refl _) (pay_grp h hz)
 have h2:=most_is hl (setB b b.length) Vg ht
 rw [WN] at h2
 have h3:=(h2 _).1 h1
 have h4:((List.range b.length).filter fun i=>decide (vB b i ≠ 0)).length≤(List.range b.length).length:=List.length_filter_le _ _
 rw [List.length_range] at h3 h4
 unfold yz
 rw [WN]
 omega
/-! ### chains -/
theorem Wy {b:List Int} {S:Nat}:∀ {i:Nat},(∀ j,j<i→S.testBit j=false)→totP b S i=0
 | 0,_=>rfl
 | i+1,h=>by rw [totP,Wy fun j hj=>h j (by omega),h i (by omega)]; simp
theorem qQ {b v:List Int} {S:Nat} (hl:b.length≤10) (hb:∀ x ∈ b,-10000000000≤x∧x≤10000000000) (hv:v.length=b.length) (hag:∀ j,j<b.length→S.testBit j=true→v.getD j 0=b.getD j 0) :
 ∀ i,i≤b.length→∃ v',XE (b.length:Int) (chP b S i).2.2 v=some v'∧v'.length=b.length ∧
  (∀ j,j<b.length→v'.getD j 0=if j<i∧S.testBit j=true then (if (j:Int)=(chP b S i).2.1 then totP b S i else 0) else v.getD j 0) ∧
  (((chP b S i).2.1=-1∧∀ j,j<i→S.testBit j=false) ∨ ∃ k,k<i∧S.testBit k=true∧(chP b S i).2.1=(k:Int))
 | 0,_=>⟨v,rfl,hv,fun j _=>by rw [if_neg (by omega)],.inl ⟨rfl,fun j hj=>by omega⟩⟩
 | i+1,hi=>by
  obtain ⟨v',p1,p2,p3,p4⟩:=qQ hl hb hv hag i (by omega)
  have hg:b[i]?=some b[i]:=List.getElem?_eq_getElem (by omega)
  have hgd:b.getD i 0=b[i]:=by rw [List.getD,hg]; rfl
  rw [yw hg]
  have hd:=yy (b:=b) (S:=S) i (by omega)
  have hbd:=VE (S:=S) hb i (by omega)
  cases ht:S.testBit i with
  | false =>
   rw [Wh,if_neg (by rw [ht]; simp)]
   refine ⟨v',p1,p2,fun j hj=>?_,?_⟩
   · rw [p3 j hj]
     have e:totP b S (i+1)=totP b S i:=by rw [totP,ht]; simp
     rw [e]
     by_cases hj2:j=i
     · subst hj2; rw [if_neg (by omega),if_neg (by rw [ht]; simp)]
     · by_cases hc:j<i∧S.testBit j=true
       · rw [if_pos hc,if_pos (show j<i+1∧S.testBit j=true from ⟨by omega,hc.2⟩)]
       · rw [if_neg hc,if_neg (fun h=>hc ⟨by omega,h.2⟩)]
   · rcases p4 with ⟨q1,q2⟩ | ⟨k,q1,q2,q3⟩
     · exact .inl ⟨q1,fun j hj=>by
        by_cases hj2:j=i
        · subst hj2; exact ht
        · exact q2 j (by omega)⟩
     · exact .inr ⟨k,by omega,q2,q3⟩
  | true =>
   rw [Wh,if_pos ht]
   have et:totP b S (i+1)=totP b S i+b[i]:=by rw [Yv hg,ht]; simp
   have vi:v'.getD i 0=b[i]:=by rw [p3 i (by omega),if_neg (by omega),hag i (by omega) ht,hgd]
   simp only
   rw [et]
   by_cases h0:totP b S i=0
   · rw [hd,h0,if_neg (by omega),if_neg (by omega)]
     refine ⟨v',p1,p2,fun j hj=>?_,.inr ⟨i,by omega,ht,rfl⟩⟩
     rw [p3 j hj,h0]
     by_cases hj2:j=i
     · subst hj2; rw [if_neg (by omega),if_pos ⟨by omega,ht⟩,if_pos rfl,hag j hj ht,hgd]; omega
     · by_cases hc:j<i∧S.testBit j=true
       · rw [if_pos hc,if_pos (show j<i+1∧S.testBit j=true from ⟨by omega,hc.2⟩),if_neg (show ¬ (j:Int)=(i:Int) by omega)]; split <;> rfl
       · rw [if_neg hc,if_neg (fun h=>hc ⟨by omega,h.2⟩)]
   · obtain ⟨k,k1,k2,k3⟩:∃ k,k<i∧S.testBit k=true∧(chP b S i).2.1=(k:Int):=by
      rcases p4 with ⟨q1,q2⟩ | q
      · exact absurd (Wy q2) h0
      · exact q
     have vk:v'.getD k 0=totP b S i:=by rw [p3 k (by omega),if_pos ⟨k1,k2⟩,if_pos k3.symm]
     have fin:∀ (x:Pay),payOk (b.length:Int) x=true→(∀ j,j<b.length→(yf v' x).getD j 0=if j=i then totP b S i+b[i] else if j=k then 0 else v'.getD j 0) →
      ∃ v'',XE (b.length:Int) ((chP b S i).2.2++[x]) v=some v''∧v''.length=b.length ∧
       (∀ j,j<b.length→v''.getD j 0=if j<i+1∧S.testBit j=true then (if (j:Int)=(i:Int) then totP b S i+b[i] else 0) else v.getD j 0) ∧
       (((i:Int)=-1∧∀ j,j<i+1→S.testBit j=false) ∨ ∃ k,k<i+1∧S.testBit k=true∧(i:Int)=(k:Int)):=fun x hx hd2=>by
      refine ⟨yf v' x,by rw [VM,p1]; show XE _ [x] v'=_; rw [XE,if_pos hx]; rfl,by rw [payDo_len,p2],fun j hj=>?_,.inr ⟨i,by omega,ht,rfl⟩⟩
      rw [hd2 j hj]
      by_cases hj2:j=i
      · subst hj2; rw [if_pos rfl,if_pos ⟨by omega,ht⟩,if_pos rfl]
      · rw [if_neg hj2]
        by_cases hj3:j=k
        · subst hj3; rw [if_pos rfl,if_pos ⟨by omega,k2⟩,if_neg (by omega)]
        · rw [if_neg hj3,p3 j hj]
          by_cases hc:j<i∧S.testBit j=true
          · rw [if_pos hc,if_pos (show j<i+1∧S.testBit j=true from ⟨by omega,hc.2⟩),if_neg (by omega),if_neg (by omega)]
          · rw [if_neg hc,if_neg (fun h=>hc ⟨by omega,h.2⟩)]
     rw [hd,k3]
     by_cases hneg:totP b S i<0
     · rw [if_pos hneg]
       refine fin ⟨(k:Int),(i:Int),0 - totP b S i⟩ (of_payOk ⟨by simp,by simp only; omega⟩ ⟨by simp,by simp only; omega⟩ (by simp only; omega) ⟨by simp only; omega,by simp only; omega⟩) fun j hj=>?_
       rw [WF (by simp only [Int.toNat_natCast]; omega) (by simp only [Int.toNat_natCast]; omega)]
       simp only [Int.toNat_natCast]
       rw [if_neg (show ¬ i=k by omega),vi,vk]
       by_cases e1:j=i
       · rw [if_pos e1,if_pos e1]; omega
       · rw [if_neg e1,if_neg e1]
         by_cases e2:j=k
         · rw [if_pos e2,if_pos e2]; omega
         · rw [if_neg e2,if_neg e2]
     · rw [if_neg hneg,if_pos (by omega)]
       refine fin ⟨(i:Int),(k:Int),totP b S i⟩ (of_payOk ⟨by simp,by simp only; omega⟩ ⟨by simp,by simp only; omega⟩ (by simp only; omega) ⟨by simp only; omega,by simp only; omega⟩) fun j hj=>?_
       rw [WF (by simp only [Int.toNat_natCast]; omega) (by simp only [Int.toNat_natCast]; omega)]
       simp only [Int.toNat_natCast]
       rw [if_neg (show ¬ k=i by omega),vi,vk]
       by_cases e1:j=i
       · rw [if_neg (by omega),if_pos e1,if_pos e1]; omega
       · rw [if_neg e1]
         by_cases e2:j=k
         · rw [if_pos e2,if_pos e2]; omega
         · rw [if_neg e2,if_neg e1,if_neg e2]
theorem qj {b:List Int} {S:Nat}:∀ i,i≤b.length→(chP b S i).2.2.length≤(memS i S).length - 1
 | 0,_=>by simp [chP]
 | i+1,hi=>by
  have ih:=qj (b:=b) (S:=S) i (by omega)
  have hg:b[i]?=some b[i]:=List.getElem?_eq_getElem (by omega)
  have hd:=yy (b:=b) (S:=S) i (by omega)
  rw [yw hg,Wh]
  have hm:memS (i+1) S=memS i S++if S.testBit i=true then [i] else []:=by
   unfold memS
   rw [List.range_succ,List.filter_append]
   cases h:S.testBit i <;> simp [h]
  rw [hm,List.length_append]
  split
  · rename_i ht
    have hpos:totP b S i ≠ 0→1≤(memS i S).length:=fun h=>by
     rcases Nat.eq_zero_or_pos (memS i S).length with h0 | h0
     · refine absurd ?_ h
       have:memS i S=[]:=List.eq_nil_of_length_eq_zero h0
       exact Wy fun j hj=>by
        cases hb:S.testBit j with
        | false=>rfl
        | true=>have:=Xr.2 ⟨hj,hb⟩; rw [‹memS i S=[]›] at this; simp at this
     · exact h0
    simp only
    rw [hd]
    split
    · rename_i h; have:=hpos (by omega); simp; omega
    · split
      · rename_i h; have:=hpos (by omega); simp; omega
      · simp; omega
  · simp; omega
/-- Settle's payments for a set. -/
theorem qy {b:List Int}:∀ {n S:Nat} {v:List Int},S<n→Yi b (S:Int)→totN b S=0→v.length=b.length→(∀ j,j<b.length→S.testBit j=true→v.getD j 0=b.getD j 0) →
 (∃ v',XE (b.length:Int) (QQ b n S) v=some v'∧v'.length=b.length∧∀ j,j<b.length→v'.getD j 0=if S.testBit j=true then 0 else v.getD j 0)∧(QQ b n S).length+Int.toNat (QZ b S)≤(memS b.length S).length
 | 0,S,v,h,_,_,_,_=>by omega
 | n+1,S,v,h,hin,ht,hv,hag=>by
  rw [QQ]
  by_cases h0:S=0
  · subst h0
    rw [if_pos rfl]
    exact ⟨⟨v,rfl,hv,fun j _=>by simp⟩,by simp [VQ,Vs]⟩
  rw [if_neg h0]
  obtain ⟨x,x1,x2,x3⟩:=WD hin h0 ht
  rw [x1]
  simp only
  have hp:=QW x2
  have hw:=QA hp.1
  obtain ⟨x',y1,y2,y3,y4⟩:=part_in hin x2
  have:x=x':=by omega
  subst this
  have bit:∀ j,x.testBit j=true→S.testBit j=true:=fun j hj=>by
   have:(x.testBit j && S.testBit j)=x.testBit j:=by rw [← Nat.testBit_and,hp.1]
   rw [hj,Bool.true_and] at this; exact this
  obtain ⟨v1,q1,q2,q3,q4⟩:=qQ (S:=x) y3 y4 hv (fun j hj hb=>hag j hj (bit j hb)) b.length (Nat.le_refl _)
  have hx0:totP b x b.length=0:=hp.2.2.2
  have q5:∀ j,j<b.length→v1.getD j 0=if x.testBit j=true then 0 else v.getD j 0:=fun j hj=>by
   rw [q3 j hj,hx0]
   by_cases hb:x.testBit j=true
   · rw [if_pos ⟨hj,hb⟩,if_pos hb]; split <;> rfl
   · rw [if_neg (fun h=>hb h.2),if_neg hb]
  obtain ⟨⟨v2,r1,r2,r3⟩,r4⟩:=qy (b:=b) (n:=n) (S:=without S x) (v:=v1) (by omega) (YL hin) (Vd hp.1 ht hp.2.2.2) q2 (fun j hj hb=>by
   rw [Xa,Bool.and_eq_true,Bool.not_eq_true'] at hb
   rw [q5 j hj,if_neg (by rw [hb.2]; simp)]; exact hag j hj hb.1)
  refine ⟨⟨v2,?_,r2,fun j hj=>?_⟩,?_⟩
  · show XE _ ((chP b x b.length).2.2++_) v=_
    rw [VM,q1]; exact r1
  · rw [r3 j hj,q5 j hj,Xa]
    cases hx:x.testBit j with
    | true=>rw [bit j hx]; simp
    | false=>simp
  · have c1:=qj (b:=b) (S:=x) b.length (Nat.le_refl _)
    have c2:=WS (fun i=>x.testBit i) (memS b.length S)
    rw [memS_part hp.1,Vt] at c2
    obtain ⟨i,i1,i2⟩:=part_ne (S:=S) y2 hp.2.1
    have c3:1≤(memS b.length x).length:=List.length_pos_iff.2 fun e=>by
     have:=Xr.2 ⟨i1,i2⟩
     rw [e] at this; simp at this
    have c4:=(YN (b:=b) (without S x)).1
    rw [List.length_append]
    show (chP b x b.length).2.2.length+_+_≤_
    omega
end Go.Proofs.Ytmdbebbibecidaa
namespace Go.Proofs.Ytmdbebbibecidaa
open Go Ax
open Go.Proofs
/-! ### people by their places -/
theorem map_getD {L:List Nat}:(List.range L.length).map (fun i=>L.getD i 0)=L:=by
 refine List.ext_getElem (by simp) fun i h1 h2=>?_
 simp [h2]
theorem map_getDI {L:List Int}:(List.range L.length).map (fun i=>L.getD i 0)=L:=by
 refine List.ext_getElem (by simp) fun i h1 h2=>?_
 simp [h2]
theorem sm_map {v:Nat→Int} {f:Nat→Nat} {L:List Nat}:sm v (L.map f)=sm (fun i=>v (f i)) L:=by
 unfold sm; rw [List.map_map]; rfl
theorem lab_map {v:Nat→Int} {L:List Nat} {c c':Nat→Nat} {k:Nat} (hc:∀ i,i<L.length→c' i=c (L.getD i 0)):Lab v L k c ↔ Lab (vB (L.map v)) (List.range L.length) k c':=by
 have hv:∀ i,i<L.length→vB (L.map v) i=v (L.getD i 0):=fun i hi=>by
  unfold vB
  have h1:L[i]?=some L[i]:=List.getElem?_eq_getElem hi
  rw [List.getD,List.getD,List.getElem?_map,h1]; rfl
 have hs:∀ j,sm v (L.filter fun i=>c i == j)=sm (vB (L.map v)) ((List.range L.length).filter fun i=>c' i == j):=fun j=>by
  have e:L.filter (fun i=>c i == j)=((List.range L.length).filter fun i=>c' i == j).map fun i=>L.getD i 0:=by
   have:(List.range L.length).filter (fun i=>c' i == j)=(List.range L.length).filter ((fun i=>c i == j) ∘ fun i=>L.getD i 0):=List.filter_congr fun i hi=>by
    show _=(c (L.getD i 0) == j)
    rw [hc i (List.mem_range.1 hi)]
   rw [this,← List.filter_map,map_getD]
  rw [e,sm_map]
  exact (sm_cong fun i hi=>hv i (List.mem_range.1 (List.mem_filter.1 hi).1)).symm
 have he:∀ j,(∃ i ∈ L,c i=j) ↔ ∃ i ∈ List.range L.length,c' i=j:=fun j=>by
  constructor
  · rintro ⟨x,hx,hj⟩
    obtain ⟨i,hi,rfl⟩:=List.getElem_of_mem hx
    exact ⟨i,List.mem_range.2 hi,by rw [hc i hi,List.getD,List.getElem?_eq_getElem hi]; exact hj⟩
  · rintro ⟨i,hi,hj⟩
    have hi:=List.mem_range.1 hi
    refine ⟨L[i],List.getElem_mem hi,?_⟩
    rw [hc i hi,List.getD,List.getElem?_eq_getElem hi] at hj; exact hj
 exact ⟨fun h j h1 h2=>⟨(he j).1 (h j h1 h2).1,by rw [← hs]; exact (h j h1 h2).2⟩,fun h j h1 h2=>⟨(he j).2 (h j h1 h2).1,by rw [hs]; exact (h j h1 h2).2⟩⟩
theorem grp_map {v:Nat→Int} {L:List Nat} {k:Nat} (hn:L.Nodup):Grp v L k ↔ Grp (vB (L.map v)) (List.range L.length) k:=by
 constructor
 · rintro ⟨c,h⟩
   exact ⟨fun i=>c (L.getD i 0),(lab_map fun i _=>rfl).1 h⟩
 · rintro ⟨c,h⟩
   refine ⟨fun x=>c (L.idxOf x),(lab_map fun i hi=>?_).2 h⟩
   rw [List.getD,List.getElem?_eq_getElem hi]
   show c i=c (L.idxOf L[i])
   rw [hn.idxOf_getElem i hi]
/-- The balances that are not 0. -/
def nzL (b:List Int):List Int:=b.filter fun x=>decide (x ≠ 0)
theorem nz_map {b:List Int}:(memS b.length (setB b b.length)).map (vB b)=nzL b:=by
 rw [WN]
 unfold nzL
 have h1:(List.range b.length).map (vB b)=b:=map_getDI
 rw [show (fun i=>decide (vB b i ≠ 0))=(fun x:Int=>decide (x ≠ 0)) ∘ vB b from rfl,← List.filter_map,h1]
theorem nz_len {b:List Int}:(nzL b).length=yz b:=by rw [← nz_map,List.length_map]; rfl
/-! ### one after the other -/
def dF (l:List Int):Nat→Nat→Nat
 | 0,_=>0
 | f+1,S=>if S=0 then 0 else ((memS l.length S).foldl (fun a i=>Nat.max a (dF l f (S - 2 ^ i))) 0)+(if totN l S=0 then 1 else 0)
def dN (l:List Int) (S:Nat):Nat:=dF l (S+1) S
theorem Yz {S i:Nat} (h:S.testBit i=true):1≤2 ^ i∧2 ^ i≤S:=⟨Nat.one_le_two_pow,Nat.ge_two_pow_of_testBit h⟩
theorem dF_eq {l:List Int}:∀ {f S:Nat},S<f→dF l f S=dN l S
 | 0,S,h=>by omega
 | f+1,S,h=>by
  rw [dN,dF,dF]
  split
  · rfl
  · congr 1
    refine YG fun i hi a=>?_
    have:=Yz (Xr.1 hi).2
    rw [dF_eq (f:=f) (S:=S - 2 ^ i) (by omega),dF_eq (f:=S) (S:=S - 2 ^ i) (by omega)]
theorem dN_eq {l:List Int} {S:Nat} (h0:S ≠ 0):dN l S=((memS l.length S).foldl (fun a i=>Nat.max a (dN l (S - 2 ^ i))) 0)+(if totN l S=0 then 1 else 0):=by
 rw [dN,dF,if_neg h0]
 congr 1
 refine YG fun i hi a=>?_
 have:=Yz (Xr.1 hi).2
 rw [dF_eq (by omega)]
theorem WY {v:Nat→Nat}:∀ {l:List Nat} {a:Nat},a≤l.foldl (fun a x=>Nat.max a (v x)) a∧(∀ x ∈ l,v x≤l.foldl (fun a x=>Nat.max a (v x)) a)∧(l.foldl (fun a x=>Nat.max a (v x)) a=a ∨ ∃ x ∈ l,l.foldl (fun a x=>Nat.max a (v x)) a=v x)
 | [],a=>⟨Nat.le_refl _,fun x hx=>by simp at hx,.inl rfl⟩
 | x :: l,a=>by
  obtain ⟨h1,h2,h3⟩:=WY (v:=v) (l:=l) (a:=Nat.max a (v x))
  rw [List.foldl_cons]
  have hm:a≤Nat.max a (v x)∧v x≤Nat.max a (v x)∧(Nat.max a (v x)=a ∨ Nat.max a (v x)=v x):=by
   have:=Nat.max_def (n:=a) (m:=v x)
   show a≤max a (v x)∧v x≤max a (v x)∧(max a (v x)=a ∨ max a (v x)=v x)
   omega
  refine ⟨by omega,fun y hy=>?_,?_⟩
  · rcases List.mem_cons.1 hy with rfl | hy
    · omega
    · exact h2 y hy
  · rcases h3 with h3 | ⟨y,hy,h3⟩
    · rcases hm.2.2 with h4 | h4
      · exact .inl (by omega)
      · exact .inr ⟨x,by simp,by omega⟩
    · exact .inr ⟨y,by simp [hy],h3⟩
theorem sub_pow {S i:Nat} (h:S.testBit i=true):S - 2 ^ i=without S (2 ^ i):=by
 have e:2 ^ i &&& S=2 ^ i:=by
  refine Nat.eq_of_testBit_eq fun j=>?_
  rw [Nat.testBit_and,Nat.testBit_two_pow]
  by_cases hj:i=j
  · subst hj; simp [h]
  · simp [hj]
 have:=QA e
 omega
theorem memS_out {n S i:Nat} (h:S.testBit i=true):memS n (S - 2 ^ i)=(memS n S).filter fun x=>x != i:=by
 rw [sub_pow h,← Vt]
 refine List.filter_congr fun x _=>?_
 rw [Nat.testBit_two_pow]
 by_cases hx:i=x
 · subst hx; simp
 · rw [decide_eq_false hx]
   simp only [Bool.not_false]
   exact (bne_iff_ne.2 fun h=>hx h.symm).symm
theorem d_is {l:List Int}:∀ (S:Nat),S<2 ^ l.length→Wk (vB l) (memS l.length S) (dN l S):=by
 intro S
 induction S using Nat.strongRecOn with
 | ind S ih =>
  intro hS
  by_cases h0:S=0
  · subst h0
    rw [Vs]
    intro j
    exact ⟨fun h=>by have:=grp_nil h; omega,fun h=>by
     have:j=0:=by have e:dN l 0=0:=rfl; omega
     subst this; exact YQ _ _⟩
  obtain ⟨m1,m2,m3⟩:=WY (v:=fun i=>dN l (S - 2 ^ i)) (l:=memS l.length S) (a:=0)
  have he:=dN_eq (l:=l) h0
  generalize hM:(memS l.length S).foldl (fun a i=>Nat.max a (dN l (S - 2 ^ i))) 0=M at m1 m2 m3 he
  have IH:∀ i ∈ memS l.length S,Wk (vB l) ((memS l.length S).filter fun x=>x != i) (dN l (S - 2 ^ i)):=fun i hi=>by
   have hb:=(Xr.1 hi).2
   have:=Yz hb
   have:=ih (S - 2 ^ i) (by omega) (by omega)
   rw [memS_out hb] at this; exact this
  rw [qU] at he
  intro j
  constructor
  · intro hg
    rcases Nat.eq_zero_or_pos j with hj | hj
    · omega
    rcases grp_red hj hg with ⟨i,hi,h1⟩ | ⟨hs,i,hi,h1⟩
    · have a:=(IH i hi j).1 h1
      have c:=m2 i hi
      omega
    · have a:=(IH i hi _).1 h1
      have c:=m2 i hi
      rw [if_pos hs] at he
      omega
  · intro hj
    refine Grp.le ?_ hj
    rw [he]
    have hM':∃ i ∈ memS l.length S,Grp (vB l) ((memS l.length S).filter fun x=>x != i) M:=by
     rcases m3 with m3 | ⟨i,hi,m3⟩
     · obtain ⟨i,h1,h2⟩:=part_ne (S:=S) hS (by omega)
       exact ⟨i,Xr.2 ⟨h1,h2⟩,by rw [m3]; exact YQ _ _⟩
     · exact ⟨i,hi,by rw [m3]; exact (IH i hi _).2 (Nat.le_refl _)⟩
    obtain ⟨i,hi,hg⟩:=hM'
    split
    · rename_i hs; exact grp_up hs hi hg
    · exact hg.mono
theorem memS_full {n:Nat}:memS n (2 ^ n - 1)=List.range n:=by
 unfold memS
 refine List.filter_eq_self.2 fun i hi=>?_
 rw [Nat.testBit_two_pow_sub_one]
 exact decide_eq_true (List.mem_range.1 hi)
/-- Both find as many groups. -/
theorem most_same {b:List Int} (hl:b.length≤10) (ht:totN b (setB b b.length)=0):Int.toNat (QZ b (setB b b.length))=dN (nzL b) (2 ^ (nzL b).length - 1):=by
 have h1:=most_is hl (setB b b.length) Vg ht
 have h2:=d_is (l:=nzL b) (2 ^ (nzL b).length - 1) (by have:=Nat.one_le_two_pow (n:=(nzL b).length); omega)
 rw [memS_full] at h2
 refine Wk.eq h1 fun j=>?_
 rw [grp_map memS_nodup,nz_map,show (memS b.length (setB b b.length)).length=(nzL b).length from nz_len.symm]
 exact h2 j
theorem dN_le {l:List Int}:∀ (S:Nat),dN l S≤S:=by
 intro S
 induction S using Nat.strongRecOn with
 | ind S ih =>
  by_cases h0:S=0
  · subst h0; exact Nat.le_refl _
  · rw [dN_eq h0]
    obtain ⟨m1,m2,m3⟩:=WY (v:=fun i=>dN l (S - 2 ^ i)) (l:=memS l.length S) (a:=0)
    rcases m3 with m3 | ⟨i,hi,m3⟩
    · rw [m3]; split <;> omega
    · have hp:=Yz (Xr.1 hi).2
      have:=ih (S - 2 ^ i) (by omega)
      rw [m3]; split <;> omega
/-! ### how many payments -/
theorem few_of {b:List Int} (he:QI b=0):(QQ b 1024 (setB b b.length)).length+Int.toNat (QZ b (setB b b.length))=yz b∧2*Int.toNat (QZ b (setB b b.length))≤yz b∧(1≤yz b→1≤Int.toNat (QZ b (setB b b.length))) ∧
 ∃ v,XE (b.length:Int) (QQ b 1024 (setB b b.length)) b=some v∧v.length=b.length∧∀ j,j<b.length→v.getD j 0=0:=by
 obtain ⟨h1,h2⟩:=WI he
 have hin:=setB_in h1
 have ht:=yc h2
 have hl:=(bal_in h1).1
 have hS:setB b b.length<1024:=YX hl Vg
 obtain ⟨⟨v,q1,q2,q3⟩,q4⟩:=qy (n:=1024) hS hin ht rfl (fun j _ _=>rfl)
 have hz:∀ j,j<b.length→v.getD j 0=0:=fun j hj=>by
  rw [q3 j hj]
  split
  · rfl
  · rename_i h
    rw [Vp,decide_eq_true hj,Bool.true_and] at h
    simpa using h
 have lo:=pay_least hl ht q1 hz
 have hm:=most_is hl (setB b b.length) Vg ht
 have hg:=(hm _).2 (Nat.le_refl _)
 have hv:∀ i ∈ memS b.length (setB b b.length),vB b i ≠ 0:=fun i hi=>by
  have:=(Xr.1 hi).2
  rw [Vp,Bool.and_eq_true] at this
  exact of_decide_eq_true this.2
 refine ⟨by unfold yz at *; omega,grp_two hv hg,fun hc=>?_,v,q1,q2,hz⟩
 have hS0:setB b b.length ≠ 0:=fun e=>by
  unfold yz at hc
  rw [e,Vs] at hc
  simp at hc
 obtain ⟨x,x1,x2,x3⟩:=WD hin hS0 ht
 have:=(YN (b:=b) (without (setB b b.length) x)).1
 omega
end Go.Proofs.Ytmdbebbibecidaa
namespace Go.Proofs.Ytmdbebbibecidaa
open Go Ax
open Go.Proofs
/-- What the reference has so far in its table at a set: the members up to one. -/
def dP (l:List Int) (S i:Nat):Nat:=(memS i S).foldl (fun a x=>Nat.max a (dN l (S - 2 ^ x))) 0
theorem memS_succ {S i:Nat}:memS (i+1) S=memS i S++if S.testBit i=true then [i] else []:=by
 unfold memS
 rw [List.range_succ,List.filter_append]
 cases h:S.testBit i <;> simp [h]
theorem dP_succ {l:List Int} {S i:Nat}:dP l S (i+1)=if S.testBit i=true then Nat.max (dP l S i) (dN l (S - 2 ^ i)) else dP l S i:=by
 unfold dP
 rw [memS_succ]
 split
 · rw [List.foldl_append]; rfl
 · rw [List.append_nil]
theorem dN_dP {l:List Int} {S:Nat} (h0:S ≠ 0):dN l S=dP l S l.length+if totN l S=0 then 1 else 0:=dN_eq h0
theorem dP_le {l:List Int} {S:Nat} (h0:S ≠ 0):∀ i,dP l S i≤S
 | 0=>by simp [dP,memS]
 | i+1=>by
  rw [dP_succ]
  split
  · have h1:=dP_le (l:=l) h0 i
    have h2:=dN_le (l:=l) (S - 2 ^ i)
    exact Nat.max_le.2 ⟨h1,Nat.le_trans h2 (Nat.sub_le _ _)⟩
  · exact dP_le h0 i
/-- The table: what lies before a set is right,behind it is 0. -/
structure TabOk (l:List Int) (v:List Int) (S:Nat) (x:Nat):Prop where
 len:v.length=2 ^ l.length
 lo:∀ s,s<S→v[s]?=some ((dN l s:Nat):Int)
 at_:S<2 ^ l.length→v[S]?=some (x:Int)
 hi:∀ s,S<s→s<2 ^ l.length→v[s]?=some 0
theorem TabOk.set {l v:List Int} {S x y:Nat} (h:TabOk l v S x) (hS:S<2 ^ l.length):TabOk l (v.set S (y:Int)) S y:=by
 have hl:=h.len
 refine ⟨by rw [List.length_set]; exact hl,fun s hs=>?_,fun _=>List.getElem?_set_self (by omega),fun s hs h2=>?_⟩
 · rw [List.getElem?_set_ne (by omega)]; exact h.lo s hs
 · rw [List.getElem?_set_ne (by omega)]; exact h.hi s hs h2
theorem TabOk.next {l v:List Int} {S:Nat} (h:TabOk l v S (dN l S)) (hS:S<2 ^ l.length):TabOk l v (S+1) 0:=by
 refine ⟨h.len,fun s hs=>?_,fun h2=>h.hi _ (by omega) h2,fun s hs h2=>h.hi s (by omega) h2⟩
 by_cases e:s=S
 · subst e; exact h.at_ hS
 · exact h.lo s (by omega)
theorem nz_take {b:List Int} {i:Nat} {e:Int} (h:b[i]?=some e):nzL (b.take (i+1))=if e=0 then nzL (b.take i) else nzL (b.take i)++[e]:=by
 unfold nzL
 rw [List.take_add_one,h,List.filter_append]
 by_cases h0:e=0
 · rw [if_pos h0]; simp [h0]
 · rw [if_neg h0]; simp [h0]
theorem inR_u64 {n:Nat} (h:n<9223372036854775808):InR .u64 (n:Int):=by
 show (0:Int)≤_∧_≤(18446744073709551615:Int)
 omega
theorem f35b:Try.f35.body=some (Qa Try.prog 35):=by kernel_rfl
theorem u35 {a c k:List AV} {r:AV} (h:Pure Try.prog 35 (a++c++k) r):Qg Try.prog (.clos 35 a k) c r:=Ql Try.func35 (by kernel_rfl) f35b h
def f35K0 (P:Program):List Item:=kAt 400 [.code (Qa P 35)] [.b false,.b false,.stop]
def f35S0 (b:(List Int)) (v0:List Int) (i:Nat) (g0:Nat):St:=⟨([.rsl (rowI b) 0 b.length,J,J,J,.sl 0 g0 0 v0.length 1,.int .i64 (i:Int)]++Js 90),[⟨true,g0,1,true,(rowI v0),true⟩]⟩
def f35G0 (E:Env) (b:(List Int)) (v0:List Int) (i:Nat):Prop:=∀ g0:Nat,G Try.prog E (f35K0 Try.prog) (f35S0 b v0 i g0)
def f35K1 (P:Program):List Item:=kAt 400 [.code (Qa P 35)] [.b false,.b false,.b false,.stop]
def f35S1 (b:(List Int)) (v0:List Int) (v1:List Int) (set:Nat) (g0:Nat) (g1:Nat):St:=⟨([J,J,J,J,.sl 0 g0 0 v0.length 1,J,.sl 1 g1 0 v1.length 1,.int .i64 (set:Int)]++Js 88),[⟨true,g0,1,true,(rowI v0),true⟩,⟨true,g1,1,true,(rowI v1),true⟩]⟩
def f35G1 (E:Env) (b:(List Int)) (v0:List Int) (v1:List Int) (set:Nat):Prop:=∀ g0 g1:Nat,G Try.prog E (f35K1 Try.prog) (f35S1 b v0 v1 set g0 g1)
def f35K2 (P:Program):List Item:=kAt 400 [.code (Qa P 35)] [.b false,.b false,.b false,.b true,.stop]
def f35S2 (b:(List Int)) (v0:List Int) (v1:List Int) (sum:Int) (i:Nat) (set:Nat) (g0:Nat) (g1:Nat):St:=⟨([J,J,J,J,.sl 0 g0 0 v0.length 1,J,.sl 1 g1 0 v1.length 1,.int .i64 (set:Int),.int .i64 sum,.int .i64 (i:Int)]++Js 86),[⟨true,g0,1,true,(rowI v0),true⟩,⟨true,g1,1,true,(rowI v1),true⟩]⟩
def f35G2 (E:Env) (b:(List Int)) (v0:List Int) (v1:List Int) (sum:Int) (i:Nat) (set:Nat):Prop:=∀ g0 g1:Nat,G Try.prog E (f35K2 Try.prog) (f35S2 b v0 v1 sum i set g0 g1)
theorem p35_start_0 (b:(List Int)) {E:Env} {res:AV} (hE:Qe Try.prog 35 res E) (ho:AllP [Qg Try.prog (.clos 55 [] []) [.rsl (rowI b) 0 b.length] (.bool (balB b)),(!(balB b))=true])
 (hr:AvLe (.tup [.int .i64 0,.int .i64 1]) res):G Try.prog E [.code (Qa Try.prog 35)] ⟨[.rsl (rowI b) 0 b.length]++unds (Try.f35.ntmps - 1),[]⟩ :=
 Qb (n:=400) (evs:=[.v (.bool (balB b)),.b true]) (obs:=_) hE Try.func35 Qf (by kernel_rfl) ho hr
theorem p35_start_1 (b:(List Int)) {E:Env} {res:AV} (hE:Qe Try.prog 35 res E) (ho:AllP [Qg Try.prog (.clos 55 [] []) [.rsl (rowI b) 0 b.length] (.bool (balB b)),(!(balB b))=false,Qg Try.prog (.clos 21 [] []) [.rsl (rowI b) 0 b.length] (.int .i64 (sumI b)),((sumI b) != 0)=true])
 (hr:AvLe (.tup [.int .i64 0,.int .i64 110]) res):G Try.prog E [.code (Qa Try.prog 35)] ⟨[.rsl (rowI b) 0 b.length]++unds (Try.f35.ntmps - 1),[]⟩ :=
 Qb (n:=400) (evs:=[.v (.bool (balB b)),.b false,.v (.int .i64 (sumI b)),.b true]) (obs:=_) hE Try.func35 Qf (by kernel_rfl) ho hr
theorem p35_start_2 (b:(List Int)) {E:Env} {rv:AV} (hE:Qe Try.prog 35 rv E) (ho:AllP [Qg Try.prog (.clos 55 [] []) [.rsl (rowI b) 0 b.length] (.bool (balB b)),(!(balB b))=false,Qg Try.prog (.clos 21 [] []) [.rsl (rowI b) 0 b.length] (.int .i64 (sumI b)),((sumI b) != 0)=false])
 (hg:G Try.prog E (f35K0 Try.prog) ⟨([.rsl (rowI b) 0 b.length,J,J,J,.sl 0 0 0 0 1,.int .i64 0]++Js 90),[⟨true,0,1,true,[],true⟩]⟩):G Try.prog E [.code (Qa Try.prog 35)] ⟨[.rsl (rowI b) 0 b.length]++unds (Try.f35.ntmps - 1),[]⟩ :=
 Qd (n:=400) (ds:=[(4,1)]) (cs:=[]) (live:=[0,4,5]) (m:=1) (evs:=[.v (.bool (balB b)),.b false,.v (.int .i64 (sumI b)),.b false,.stop]) (obs:=_) hE.2.1 (hE.nogh _) Qf (by kernel_rfl) ho hg
theorem f35W (b:(List Int)) {E:Env} {rv:(Int × Int)} (hE:Qe Try.prog 35 (.tup [.int .i64 rv.1,.int .i64 rv.2]) E)
 (h:((b.length≤9223372036854775807)∧(((balB b)=false→rv=(0,1))∧((balB b)=true→((qu b)∧((¬ ((sumI b)=0)→rv=(0,110))∧((sumI b)=0→f35G0 E b ([]) 0))))))):G Try.prog E [.code (Qa Try.prog 35)] ⟨[.rsl (rowI b) 0 b.length]++unds (Try.f35.ntmps - 1),[]⟩:=by
 obtain ⟨h1,h⟩:=h
 rcases bft (!(balB b)) with hc0 | hc0
 · have h:=h.1 (bnT hc0)
   exact p35_start_0 b hE ⟨(u55 (YH b h1)),hc0,trivial⟩ (AvLe.of_eq (by rw [h]; try rfl))
 · have h:=h.2 (bnF hc0)
   obtain ⟨h2,h⟩:=h
   rcases bft ((sumI b) != 0) with hc1 | hc1
   · have h:=h.1 (bneT hc1)
     exact p35_start_1 b hE ⟨(u55 (YH b h1)),hc0,(u21 (sumR_ok b h2)),hc1,trivial⟩ (AvLe.of_eq (by rw [h]; try rfl))
   · have h:=h.2 (bneF hc1)
     exact p35_start_2 b hE ⟨(u55 (YH b h1)),hc0,(u21 (sumR_ok b h2)),hc1,trivial⟩ (h 0)
theorem p35_0_0 (b:(List Int)) (v0:List Int) (i:Nat) (g0:Nat) (e:Int) {E:Env} {rv:AV} (hE:Qe Try.prog 35 rv E) (ho:AllP [(decide ((i:Int)<(b.length:Int)))=true,0≤(i:Int)∧(i:Int)<(b.length:Int),((rowI b).drop (0+(Int.toNat (i:Int))*1)).take 1=[.int .i64 e],(e != 0)=true,0≤(i:Int)∧(i:Int)<(b.length:Int),((rowI b).drop (0+(Int.toNat (i:Int))*1)).take 1=[.int .i64 e],g0=g0,(0+(v0.length*1))=(rowI v0).length,(v0.length+1)≤2147483648,0=0,InR .i64 ((i:Int)+1)])
 (hg:G Try.prog E (f35K0 Try.prog) ⟨([.rsl (rowI b) 0 b.length,J,J,J,.sl 0 (g0+1) 0 (v0.length+1) 1,.int .i64 ((i:Int)+1)]++Js 90),[⟨true,(g0+1),1,true,((rowI v0)++[.int .i64 e]),true⟩]⟩):G Try.prog E (f35K0 Try.prog) (f35S0 b v0 i g0) :=
 Qd (n:=400) (ds:=[]) (cs:=[]) (live:=[0,4,5]) (m:=1) (evs:=[.b true,.ld (.int .i64 e),.b true,.ld (.int .i64 e),.stop]) (obs:=_) hE.2.1 (hE.nogh _) Qf (by kernel_rfl) ho hg
theorem p35_0_1 (b:(List Int)) (v0:List Int) (i:Nat) (g0:Nat) (e:Int) {E:Env} {rv:AV} (hE:Qe Try.prog 35 rv E) (ho:AllP [(decide ((i:Int)<(b.length:Int)))=true,0≤(i:Int)∧(i:Int)<(b.length:Int),((rowI b).drop (0+(Int.toNat (i:Int))*1)).take 1=[.int .i64 e],(e != 0)=false,InR .i64 ((i:Int)+1)])
 (hg:G Try.prog E (f35K0 Try.prog) ⟨([.rsl (rowI b) 0 b.length,J,J,J,.sl 0 g0 0 v0.length 1,.int .i64 ((i:Int)+1)]++Js 90),[⟨true,g0,1,true,(rowI v0),true⟩]⟩):G Try.prog E (f35K0 Try.prog) (f35S0 b v0 i g0) :=
 Qd (n:=400) (ds:=[]) (cs:=[]) (live:=[0,4,5]) (m:=1) (evs:=[.b true,.ld (.int .i64 e),.b false,.stop]) (obs:=_) hE.2.1 (hE.nogh _) Qf (by kernel_rfl) ho hg
theorem p35_0_2 (b:(List Int)) (v0:List Int) (i:Nat) (g0:Nat) {E:Env} {rv:AV} (hE:Qe Try.prog 35 rv E) (ho:AllP [(decide ((i:Int)<(b.length:Int)))=false,g0=g0,InR .u64 (v0.length:Int),InR .i64 (1*2 ^ (Int.toNat (v0.length:Int))),(0:Int)≤(v0.length:Int)∧(v0.length:Int)≤((IntKind.bits .i64:Nat):Int),(0:Int)≤(1*2 ^ (Int.toNat (v0.length:Int)))∧((1*2 ^ (Int.toNat (v0.length:Int))):Int)≤(1*2 ^ (Int.toNat (v0.length:Int)))∧((1*2 ^ (Int.toNat (v0.length:Int))):Int)≤2147483648])
 (hg:G Try.prog E (f35K1 Try.prog) ⟨([J,J,J,J,.sl 0 g0 0 v0.length 1,J,.sl 1 0 0 (Int.toNat (1*2 ^ (Int.toNat (v0.length:Int)))) 1,.int .i64 1]++Js 88),[⟨true,g0,1,true,(rowI v0),true⟩,⟨true,0,1,true,((List.replicate (Int.toNat (1*2 ^ (Int.toNat (v0.length:Int)))) ([.int .i64 0]:List AV)).flatten),true⟩]⟩):G Try.prog E (f35K0 Try.prog) (f35S0 b v0 i g0) :=
 Qd (n:=400) (ds:=[]) (cs:=[]) (live:=[4,6,7]) (m:=2) (evs:=[.b false,.stop]) (obs:=_) hE.2.1 (hE.nogh _) Qf (by kernel_rfl) ho hg
theorem f35W0 (b:(List Int)) (v0:List Int) (i:Nat) {E:Env} {rv:(Int × Int)} (hE:Qe Try.prog 35 (.tup [.int .i64 rv.1,.int .i64 rv.2]) E)
 (h:(((i:Int)<(b.length:Int)→(∃ e:Int,b[i]?=some e∧((¬ (e=0)→((v0.length+1)≤2147483648∧((I6 ((i:Int)+1))∧f35G0 E b (v0++[e]) (i+1))))∧(e=0→((I6 ((i:Int)+1))∧f35G0 E b v0 (i+1))))))∧(¬ ((i:Int)<(b.length:Int))→(InR .u64 (v0.length:Int)∧((I6 ((1*2 ^ (Int.toNat (v0.length:Int)):Int)))∧(((0:Int)≤(v0.length:Int)∧(v0.length:Int)≤((IntKind.bits .i64:Nat):Int))∧(((0:Int)≤(1*2 ^ (Int.toNat (v0.length:Int)))∧((1*2 ^ (Int.toNat (v0.length:Int))):Int)≤2147483648)∧f35G1 E b v0 (List.replicate (Int.toNat (1*2 ^ (Int.toNat (v0.length:Int)))) (0:Int)) 1))))))):f35G0 E b v0 i:=by
 intro g0
 rcases bft (decide ((i:Int)<(b.length:Int))) with hc0 | hc0
 · have h:=h.1 (odt hc0)
   obtain ⟨e,h1,h⟩:=h
   rcases bft (e != 0) with hc1 | hc1
   · have h:=h.1 (bneT hc1)
     obtain ⟨h2,h⟩:=h
     obtain ⟨q11_2,h⟩:=h
     refine p35_0_0 b v0 i g0 e hE ⟨hc0,(Qv h1),(rp cI 1 0 1 h1),hc1,(Qv h1),(rp cI 1 0 1 h1),rfl,(by have hx:=Yd cI (s:=1) (fun _=>rfl) v0; simp only [rowI] at hx ⊢; rw [hx]; simp),h2,rfl,q11_2,trivial⟩ ?_
     rw [(show rowI v0++[.int .i64 e]=rowI (v0++[e]) from (VJ cI v0 [e]).symm)]; rw [(show (v0.length+1)=(v0++[e]).length from by simp)]; exact (h (g0+1))
   · have h:=h.2 (bneF hc1)
     obtain ⟨q5_2,h⟩:=h
     exact p35_0_1 b v0 i g0 e hE ⟨hc0,(Qv h1),(rp cI 1 0 1 h1),hc1,q5_2,trivial⟩ (h g0)
 · have h:=h.2 (odf hc0)
   obtain ⟨q2_1,h⟩:=h
   obtain ⟨q3_1,h⟩:=h
   obtain ⟨q4_1,h⟩:=h
   obtain ⟨h1,h⟩:=h
   refine p35_0_2 b v0 i g0 hE ⟨hc0,rfl,q2_1,q3_1,q4_1,⟨h1.1,by omega,h1.2⟩,trivial⟩ ?_
   have h:=(h g0 0)
   simp only [f35G1,f35S1,List.length_set,List.length_replicate] at h
   rw [(show (List.replicate (Int.toNat (1*2 ^ (Int.toNat (v0.length:Int)))) ([.int .i64 0]:List AV)).flatten=rowI (List.replicate (Int.toNat (1*2 ^ (Int.toNat (v0.length:Int)))) (0:Int)) from row_rep cI _ _)]
   exact h
theorem p35_1_0 (b:(List Int)) (v0:List Int) (v1:List Int) (set:Nat) (g0:Nat) (g1:Nat) {E:Env} {rv:AV} (hE:Qe Try.prog 35 rv E) (ho:AllP [g1=g1,(decide ((set:Int)<(v1.length:Int)))=true])
 (hg:G Try.prog E (f35K2 Try.prog) ⟨([J,J,J,J,.sl 0 g0 0 v0.length 1,J,.sl 1 g1 0 v1.length 1,.int .i64 (set:Int),.int .i64 0,.int .i64 0]++Js 86),[⟨true,g0,1,true,(rowI v0),true⟩,⟨true,g1,1,true,(rowI v1),true⟩]⟩):G Try.prog E (f35K1 Try.prog) (f35S1 b v0 v1 set g0 g1) :=
 Qd (n:=400) (ds:=[]) (cs:=[]) (live:=[4,6,7,8,9]) (m:=2) (evs:=[.b true,.stop]) (obs:=_) hE.2.1 (hE.nogh _) Qf (by kernel_rfl) ho hg
theorem p35_1_1 (b:(List Int)) (v0:List Int) (v1:List Int) (set:Nat) (g0:Nat) (g1:Nat) (e:Int) {E:Env} {res:AV} (hE:Qe Try.prog 35 res E) (ho:AllP [g1=g1,(decide ((set:Int)<(v1.length:Int)))=false,g0=g0,g1=g1,InR .i64 ((v1.length:Int) - 1),0≤((v1.length:Int) - 1)∧((v1.length:Int) - 1)<(v1.length:Int),g1=g1,g1=g1,((rowI v1).drop (0+(Int.toNat ((v1.length:Int) - 1))*1)).take 1=[.int .i64 e],InR .i64 ((v0.length:Int) - e)])
 (hr:AvLe (.tup [.int .i64 ((v0.length:Int) - e),.int .i64 0]) res):G Try.prog E (f35K1 Try.prog) (f35S1 b v0 v1 set g0 g1) :=
 Qb (n:=400) (evs:=[.b false,.ld (.int .i64 e)]) (obs:=_) hE Try.func35 Qf (by kernel_rfl) ho hr
theorem f35W1 (b:(List Int)) (v0:List Int) (v1:List Int) (set:Nat) {E:Env} {rv:(Int × Int)} (hE:Qe Try.prog 35 (.tup [.int .i64 rv.1,.int .i64 rv.2]) E)
 (h:(((set:Int)<(v1.length:Int)→f35G2 E b v0 v1 0 0 set)∧(¬ ((set:Int)<(v1.length:Int))→((I6 ((v1.length:Int) - 1))∧(0≤((v1.length:Int) - 1)∧(∃ e:Int,v1[Int.toNat ((v1.length:Int) - 1)]?=some e∧((I6 ((v0.length:Int) - e))∧rv=(((v0.length:Int) - e),0)))))))):f35G1 E b v0 v1 set:=by
 intro g0 g1
 rcases bft (decide ((set:Int)<(v1.length:Int))) with hc0 | hc0
 · have h:=h.1 (odt hc0)
   exact p35_1_0 b v0 v1 set g0 g1 hE ⟨rfl,hc0,trivial⟩ (h g0 g1)
 · have h:=h.2 (odf hc0)
   obtain ⟨q4_1,h⟩:=h
   obtain ⟨h2,h⟩:=h
   obtain ⟨e,h1,h⟩:=h
   obtain ⟨q10_1,h⟩:=h
   exact p35_1_1 b v0 v1 set g0 g1 e hE ⟨rfl,hc0,rfl,rfl,q4_1,(Xm h2 h1),rfl,rfl,(rp cI 1 0 1 h1),q10_1,trivial⟩ (AvLe.of_eq (by rw [h]; try rfl))
theorem p35_2_0 (b:(List Int)) (v0:List Int) (v1:List Int) (sum:Int) (i:Nat) (set:Nat) (g0:Nat) (g1:Nat) (e:Int) (e1:Int) (e2:Int) {E:Env} {rv:AV} (hE:Qe Try.prog 35 rv E) (ho:AllP [g0=g0,(decide ((i:Int)<(v0.length:Int)))=true,InR .u64 (i:Int),(0:Int)≤(i:Int)∧(i:Int)≤((IntKind.bits .i64:Nat):Int),((bits .and .i64 ((set:Int) / 2 ^ (Int.toNat (i:Int))) 1) == 1)=true,0≤(i:Int)∧(i:Int)<(v0.length:Int),g0=g0,g0=g0,((rowI v0).drop (0+(Int.toNat (i:Int))*1)).take 1=[.int .i64 e],InR .i64 (sum+e),0≤(set:Int)∧(set:Int)<(v1.length:Int),g1=g1,g1=g1,((rowI v1).drop (0+(Int.toNat (set:Int))*1)).take 1=[.int .i64 e1],InR .u64 (i:Int),InR .i64 (1*2 ^ (Int.toNat (i:Int))),(0:Int)≤(i:Int)∧(i:Int)≤((IntKind.bits .i64:Nat):Int),InR .i64 ((set:Int) - (1*2 ^ (Int.toNat (i:Int)))),0≤((set:Int) - (1*2 ^ (Int.toNat (i:Int))))∧((set:Int) - (1*2 ^ (Int.toNat (i:Int))))<(v1.length:Int),g1=g1,g1=g1,((rowI v1).drop (0+(Int.toNat ((set:Int) - (1*2 ^ (Int.toNat (i:Int)))))*1)).take 1=[.int .i64 e2],0≤(set:Int)∧(set:Int)<(v1.length:Int),g1=g1,((0+(Int.toNat (set:Int))*1)+1)≤(rowI v1).length,g1=g1,InR .i64 ((i:Int)+1)])
 (hg:G Try.prog E (f35K2 Try.prog) ⟨([J,J,J,J,.sl 0 g0 0 v0.length 1,J,.sl 1 g1 0 v1.length 1,.int .i64 (set:Int),.int .i64 (sum+e),.int .i64 ((i:Int)+1)]++Js 86),[⟨true,g0,1,true,(rowI v0),true⟩,⟨true,g1,1,true,(QY (rowI v1) (0+(Int.toNat (set:Int))*1) [.int .i64 (iMax e1 e2)]),true⟩]⟩):G Try.prog E (f35K2 Try.prog) (f35S2 b v0 v1 sum i set g0 g1) :=
 Qd (n:=400) (ds:=[]) (cs:=[]) (live:=[4,6,7,8,9]) (m:=2) (evs:=[.b true,.b true,.ld (.int .i64 e),.ld (.int .i64 e1),.ld (.int .i64 e2),.stop]) (obs:=_) hE.2.1 (hE.nogh _) Qf (by kernel_rfl) ho hg
theorem p35_2_1 (b:(List Int)) (v0:List Int) (v1:List Int) (sum:Int) (i:Nat) (set:Nat) (g0:Nat) (g1:Nat) {E:Env} {rv:AV} (hE:Qe Try.prog 35 rv E) (ho:AllP [g0=g0,(decide ((i:Int)<(v0.length:Int)))=true,InR .u64 (i:Int),(0:Int)≤(i:Int)∧(i:Int)≤((IntKind.bits .i64:Nat):Int),((bits .and .i64 ((set:Int) / 2 ^ (Int.toNat (i:Int))) 1) == 1)=false,InR .i64 ((i:Int)+1)])
 (hg:G Try.prog E (f35K2 Try.prog) ⟨([J,J,J,J,.sl 0 g0 0 v0.length 1,J,.sl 1 g1 0 v1.length 1,.int .i64 (set:Int),.int .i64 sum,.int .i64 ((i:Int)+1)]++Js 86),[⟨true,g0,1,true,(rowI v0),true⟩,⟨true,g1,1,true,(rowI v1),true⟩]⟩):G Try.prog E (f35K2 Try.prog) (f35S2 b v0 v1 sum i set g0 g1) :=
 Qd (n:=400) (ds:=[]) (cs:=[]) (live:=[4,6,7,8,9]) (m:=2) (evs:=[.b true,.b false,.stop]) (obs:=_) hE.2.1 (hE.nogh _) Qf (by kernel_rfl) ho hg
theorem p35_2_2 (b:(List Int)) (v0:List Int) (v1:List Int) (sum:Int) (i:Nat) (set:Nat) (g0:Nat) (g1:Nat) (e:Int) {E:Env} {rv:AV} (hE:Qe Try.prog 35 rv E) (ho:AllP [g0=g0,(decide ((i:Int)<(v0.length:Int)))=false,(sum == 0)=true,0≤(set:Int)∧(set:Int)<(v1.length:Int),g1=g1,g1=g1,((rowI v1).drop (0+(Int.toNat (set:Int))*1)).take 1=[.int .i64 e],InR .i64 (e+1),0≤(set:Int)∧(set:Int)<(v1.length:Int),g1=g1,((0+(Int.toNat (set:Int))*1)+1)≤(rowI v1).length,g1=g1,InR .i64 ((set:Int)+1)])
 (hg:G Try.prog E (f35K1 Try.prog) ⟨([J,J,J,J,.sl 0 g0 0 v0.length 1,J,.sl 1 g1 0 v1.length 1,.int .i64 ((set:Int)+1)]++Js 88),[⟨true,g0,1,true,(rowI v0),true⟩,⟨true,g1,1,true,(QY (rowI v1) (0+(Int.toNat (set:Int))*1) [.int .i64 (e+1)]),true⟩]⟩):G Try.prog E (f35K2 Try.prog) (f35S2 b v0 v1 sum i set g0 g1) :=
 Qd (n:=400) (ds:=[]) (cs:=[]) (live:=[4,6,7]) (m:=2) (evs:=[.b false,.b true,.ld (.int .i64 e),.stop]) (obs:=_) hE.2.1 (hE.nogh _) Qf (by kernel_rfl) ho hg
theorem p35_2_3 (b:(List Int)) (v0:List Int) (v1:List Int) (sum:Int) (i:Nat) (set:Nat) (g0:Nat) (g1:Nat) {E:Env} {rv:AV} (hE:Qe Try.prog 35 rv E) (ho:AllP [g0=g0,(decide ((i:Int)<(v0.length:Int)))=false,(sum == 0)=false,InR .i64 ((set:Int)+1)])
 (hg:G Try.prog E (f35K1 Try.prog) ⟨([J,J,J,J,.sl 0 g0 0 v0.length 1,J,.sl 1 g1 0 v1.length 1,.int .i64 ((set:Int)+1)]++Js 88),[⟨true,g0,1,true,(rowI v0),true⟩,⟨true,g1,1,true,(rowI v1),true⟩]⟩):G Try.prog E (f35K2 Try.prog) (f35S2 b v0 v1 sum i set g0 g1) :=
 Qd (n:=400) (ds:=[]) (cs:=[]) (live:=[4,6,7]) (m:=2) (evs:=[.b false,.b false,.stop]) (obs:=_) hE.2.1 (hE.nogh _) Qf (by kernel_rfl) ho hg
theorem f35W2 (b:(List Int)) (v0:List Int) (v1:List Int) (sum:Int) (i:Nat) (set:Nat) {E:Env} {rv:(Int × Int)} (hE:Qe Try.prog 35 (.tup [.int .i64 rv.1,.int .i64 rv.2]) E)
 (h:(((i:Int)<(v0.length:Int)→(InR .u64 (i:Int)∧(((0:Int)≤(i:Int)∧(i:Int)≤((IntKind.bits .i64:Nat):Int))∧(((bits .and .i64 ((set:Int) / 2 ^ (Int.toNat (i:Int))) 1)=1→(∃ e:Int,v0[i]?=some e∧((I6 (sum+e))∧(∃ e1:Int,v1[set]?=some e1∧(InR .u64 (i:Int)∧((I6 ((1*2 ^ (Int.toNat (i:Int)):Int)))∧(((0:Int)≤(i:Int)∧(i:Int)≤((IntKind.bits .i64:Nat):Int))∧((I6 (((set:Int) - (1*2 ^ (Int.toNat (i:Int))):Int)))∧(0≤((set:Int) - (1*2 ^ (Int.toNat (i:Int))))∧(∃ e2:Int,v1[Int.toNat ((set:Int) - (1*2 ^ (Int.toNat (i:Int))))]?=some e2∧((I6 ((i:Int)+1))∧f35G2 E b v0 (v1.set set (iMax e1 e2)) (sum+e) (i+1) set)))))))))))∧(¬ ((bits .and .i64 ((set:Int) / 2 ^ (Int.toNat (i:Int))) 1)=1)→((I6 ((i:Int)+1))∧f35G2 E b v0 v1 sum (i+1) set))))))∧(¬ ((i:Int)<(v0.length:Int))→((sum=0→(∃ e:Int,v1[set]?=some e∧((I6 (e+1))∧((I6 ((set:Int)+1))∧f35G1 E b v0 (v1.set set (e+1)) (set+1)))))∧(¬ (sum=0)→((I6 ((set:Int)+1))∧f35G1 E b v0 v1 (set+1))))))):f35G2 E b v0 v1 sum i set:=by
 intro g0 g1
 rcases bft (decide ((i:Int)<(v0.length:Int))) with hc0 | hc0
 · have h:=h.1 (odt hc0)
   obtain ⟨q2_1,h⟩:=h
   obtain ⟨q3_1,h⟩:=h
   rcases bft ((bits .and .i64 ((set:Int) / 2 ^ (Int.toNat (i:Int))) 1) == 1) with hc1 | hc1
   · have h:=h.1 (eq_of_beq hc1)
     obtain ⟨e,h1,h⟩:=h
     obtain ⟨q10_2,h⟩:=h
     obtain ⟨e1,h2,h⟩:=h
     obtain ⟨q16_2,h⟩:=h
     obtain ⟨q17_2,h⟩:=h
     obtain ⟨q18_2,h⟩:=h
     obtain ⟨q19_2,h⟩:=h
     obtain ⟨h4,h⟩:=h
     obtain ⟨e2,h3,h⟩:=h
     obtain ⟨q29_2,h⟩:=h
     refine p35_2_0 b v0 v1 sum i set g0 g1 e e1 e2 hE ⟨rfl,hc0,q2_1,q3_1,hc1,(Qv h1),rfl,rfl,(rp cI 1 0 1 h1),q10_2,(Qv h2),rfl,rfl,(rp cI 1 0 1 h2),q16_2,q17_2,q18_2,q19_2,(Xm h4 h3),rfl,rfl,(rp cI 1 0 1 h3),(Qv h2),rfl,(rf cI 1 0 1 h2),rfl,q29_2,trivial⟩ ?_
     have h:=(h g0 g1)
     simp only [f35S2,List.length_set] at h
     rw [(show QY (rowI v1) (0+(Int.toNat (set:Int))*1) [.int .i64 (iMax e1 e2)]=rowI (v1.set set (iMax e1 e2)) from Yk cI (s:=1) (k:=0) (fun _=>rfl) h2 rfl (by first | decide | simp))]
     exact h
   · have h:=h.2 (ne_of_beq_false hc1)
     obtain ⟨q5_2,h⟩:=h
     exact p35_2_1 b v0 v1 sum i set g0 g1 hE ⟨rfl,hc0,q2_1,q3_1,hc1,q5_2,trivial⟩ (h g0 g1)
 · have h:=h.2 (odf hc0)
   rcases bft (sum == 0) with hc1 | hc1
   · have h:=h.1 (eq_of_beq hc1)
     obtain ⟨e,h1,h⟩:=h
     obtain ⟨q8_2,h⟩:=h
     obtain ⟨q13_2,h⟩:=h
     refine p35_2_2 b v0 v1 sum i set g0 g1 e hE ⟨rfl,hc0,hc1,(Qv h1),rfl,rfl,(rp cI 1 0 1 h1),q8_2,(Qv h1),rfl,(rf cI 1 0 1 h1),rfl,q13_2,trivial⟩ ?_
     have h:=(h g0 g1)
     simp only [f35S1,List.length_set] at h
     rw [(show QY (rowI v1) (0+(Int.toNat (set:Int))*1) [.int .i64 (e+1)]=rowI (v1.set set (e+1)) from Yk cI (s:=1) (k:=0) (fun _=>rfl) h1 rfl (by first | decide | simp))]
     exact h
   · have h:=h.2 (ne_of_beq_false hc1)
     obtain ⟨q3_2,h⟩:=h
     exact p35_2_3 b v0 v1 sum i set g0 g1 hE ⟨rfl,hc0,hc1,q3_2,trivial⟩ (h g0 g1)
theorem YU (b:List Int) (h:b.length≤9223372036854775807):Pure Try.prog 35 [.rsl (rowI b) 0 b.length] (.tup [.int .i64 (fewK b).1,.int .i64 (fewK b).2]):=Qr Try.func35 f35b fun E hE=>by
 refine f35W b (rv:=fewK b) hE ⟨h,fun e=>?_,fun e=>⟨sumOk_bal e,fun e2=>?_,fun e2=>?_⟩⟩
 · have e1:QI b=1:=by rw [QI,if_pos e]
   rw [fewK,Qy,if_neg (by rw [e1]; omega),e1]; rfl
 · have e1:QI b=110:=by rw [QI,if_neg (by rw [e]; simp),if_neg e2]
   rw [fewK,Qy,if_neg (by rw [e1]; omega),e1]; rfl
 have he:QI b=0:=by rw [QI,if_neg (by rw [e]; simp),if_pos e2]
 obtain ⟨k1,k2,k3,-⟩:=few_of he
 have ht:=yc e2
 have hl:=(bal_in e).1
 have hms:=most_same hl ht
 have hbl:=(bal_in e).2
 have hnl:(nzL b).length≤b.length:=List.length_filter_le _ _
 have hnb:∀ x ∈ nzL b,-10000000000≤x∧x≤10000000000:=fun x hx=>hbl x (by unfold nzL at hx; exact (List.mem_filter.1 hx).1)
 have hp10:2 ^ (nzL b).length≤2 ^ 10:=pow_le (by omega)
 have hp1:=Nat.one_le_two_pow (n:=(nzL b).length)
 have hfew:fewK b=(((yz b:Nat):Int) - ((dN (nzL b) (2 ^ (nzL b).length - 1):Nat):Int),0):=by
  rw [fewK,Qy,if_pos he]
  rw [← hms,← k1]
  simp
 have hnc:=nz_len (b:=b)
 generalize hN:nzL b=N at *
 -- the table
 have tab:∀ (d S:Nat) (v:List Int),S+d=2 ^ N.length→1≤S→TabOk N v S 0→f35G1 E b N v S:=by
  intro d
  induction d with
  | zero =>
   intro S v hd hS hv
   have hvl:=hv.len
   have hg:=hv.lo (2 ^ N.length - 1) (by omega)
   have hd1:=dN_le (l:=N) (2 ^ N.length - 1)
   refine f35W1 b N v S (rv:=fewK b) hE ⟨fun h=>by omega,fun _=>⟨by omega,by omega,((dN N (2 ^ N.length - 1):Nat):Int),?_,?_,?_⟩⟩
   · rw [show Int.toNat ((v.length:Int) - 1)=2 ^ N.length - 1 by omega]; exact hg
   · omega
   · rw [hfew,hnc]
  | succ d ih =>
   intro S v hd hS hv
   refine f35W1 b N v S (rv:=fewK b) hE ⟨fun _=>?_,fun h=>by have:=hv.len; omega⟩
   have inner:∀ (d' i:Nat) (v:List Int),i+d'=N.length→TabOk N v S (dP N S i)→f35G2 E b N v (totP N S i) i S:=by
    intro d'
    induction d' with
    | zero =>
     intro i v hd' hv
     have:i=N.length:=by omega
     subst this
     have hS2:S<2 ^ N.length:=by omega
     have hdl:=dP_le (l:=N) (S:=S) (by omega) N.length
     have hdn:=dN_dP (l:=N) (S:=S) (by omega)
     refine f35W2 b N v _ _ S (rv:=fewK b) hE ⟨fun h=>by omega,fun _=>⟨fun hz=>⟨_,hv.at_ hS2,by omega,by omega,?_⟩,fun hz=>⟨by omega,?_⟩⟩⟩
     · have e1:((dP N S N.length:Nat):Int)+1=((dN N S:Nat):Int):=by
        rw [hdn,if_pos (show totN N S=0 from hz)]; omega
       rw [e1]
       exact ih (S+1) _ (by omega) (by omega) ((hv.set hS2).next hS2)
     · have e1:dP N S N.length=dN N S:=by
        rw [hdn,if_neg (show ¬ totN N S=0 from hz),Nat.add_zero]
       rw [e1] at hv
       exact ih (S+1) _ (by omega) (by omega) (hv.next hS2)
    | succ d' ih2 =>
     intro i v hd' hv
     have hi:N[i]?=some N[i]:=List.getElem?_eq_getElem (by omega)
     have hx:=hnb _ (List.mem_of_getElem? hi)
     have hS2:S<2 ^ N.length:=by omega
     have p1:=VE (b:=N) (S:=S) hnb i (by omega)
     have es:totP N S (i+1)=totP N S i+N[i]*(if S.testBit i then 1 else 0):=Yv hi
     have hpi:2 ^ i≤2 ^ 9:=pow_le (by omega)
     have hdl:=dP_le (l:=N) (S:=S) (by omega) i
     refine f35W2 b N v _ _ S (rv:=fewK b) hE ⟨fun _=>⟨inR_u64 (by omega),⟨by omega,by simp [IntKind.bits]; omega⟩,?_⟩,fun h=>by omega⟩
     rw [bit_nat (by omega)]
     cases hb:S.testBit i with
     | true =>
      have hpw:=Yz hb
      have hdd:=dN_le (l:=N) (S - 2 ^ i)
      have e3:(S:Int) - 1*2 ^ (Int.toNat (i:Int))=((S - 2 ^ i:Nat):Int):=by rw [Yl]; omega
      refine ⟨fun _=>⟨N[i],hi,by omega,_,hv.at_ hS2,inR_u64 (by omega),by rw [Yl]; omega,⟨by omega,by simp [IntKind.bits]; omega⟩,by rw [e3]; omega,by rw [e3]; omega,((dN N (S - 2 ^ i):Nat):Int),?_,by omega,?_⟩,fun h=>absurd rfl h⟩
      · rw [e3,Int.toNat_natCast]; exact hv.lo _ (by omega)
      · have e4:iMax ((dP N S i:Nat):Int) ((dN N (S - 2 ^ i):Nat):Int)=((dP N S (i+1):Nat):Int):=by
         rw [dP_succ,if_pos hb]
         show iMax _ _=((max _ _:Nat):Int)
         unfold iMax; split <;> omega
        rw [e4,show totP N S i+N[i]=totP N S (i+1) by rw [es,hb]; simp]
        exact ih2 (i+1) _ (by omega) (hv.set hS2)
     | false =>
      refine ⟨fun h=>absurd h (by simp),fun _=>⟨by omega,?_⟩⟩
      have e4:dP N S i=dP N S (i+1):=by rw [dP_succ,hb]; rfl
      rw [show totP N S i=totP N S (i+1) by rw [es,hb]; simp]
      rw [e4] at hv
      exact ih2 (i+1) _ (by omega) hv
   exact inner N.length 0 v (by omega) hv
 -- who is not settled
 have key:∀ (d i:Nat),i+d=b.length→f35G0 E b (nzL (b.take i)) i:=by
  intro d
  induction d with
  | zero =>
   intro i hd
   have et:b.take i=b:=List.take_of_length_le (by omega)
   rw [et,hN]
   refine f35W0 b _ i (rv:=fewK b) hE ⟨fun h=>by omega,fun _=>⟨inR_u64 (by omega),by rw [Yl]; omega,⟨by omega,by simp [IntKind.bits]; omega⟩,by rw [Yl]; omega,?_⟩⟩
   rw [Yl,Int.toNat_natCast]
   have hz:∀ s,s<2 ^ N.length→(List.replicate (2 ^ N.length) (0:Int))[s]?=some 0:=fun s hs=>by rw [List.getElem?_replicate,if_pos hs]
   refine tab (2 ^ N.length - 1) 1 _ (by omega) (by omega) ⟨by simp,fun s hs=>?_,fun h=>hz _ h,fun s _ h=>hz s h⟩
   have:s=0:=by omega
   subst this
   exact hz 0 (by omega)
  | succ d ih =>
   intro i hd
   have hi:b[i]?=some b[i]:=List.getElem?_eq_getElem (by omega)
   have hln:(nzL (b.take i)).length≤(b.take i).length:=List.length_filter_le _ _
   rw [List.length_take] at hln
   have nx:=ih (i+1) (by omega)
   rw [nz_take hi] at nx
   refine f35W0 b _ i (rv:=fewK b) hE ⟨fun _=>⟨_,hi,fun h0=>⟨by omega,by omega,?_⟩,fun h0=>⟨by omega,?_⟩⟩,fun h=>by omega⟩
   · rw [if_neg h0] at nx; exact nx
   · rw [if_pos h0] at nx; exact nx
 exact key b.length 0 (by omega)
theorem f13b:Try.f13.body=some (Qa Try.prog 13):=by kernel_rfl
abbrev YV (b:(List Int)):AV:=.tup [.int .i64 ((fewK b).1),.int .i64 ((fewK b).2)]
abbrev z13_2 (b:(List Int)):AV:=.tup [.rsl (Qo ((Qy b).1)) 0 (((Qy b).1).length),.int .i64 ((Qy b).2)]
theorem p13_start_0 (b:(List Int)) {E:Env} {res:AV} (hE:Qe Try.prog 13 res E) (ho:AllP [Qg Try.prog (.clos 34 [] []) [.rsl (rowI b) 0 b.length] (YV b),Qg Try.prog (.clos 35 [] []) [.rsl (rowI b) 0 b.length] (YV b),Qg Try.prog (.clos 36 [] []) [.rsl (rowI b) 0 b.length] (z13_2 b),((fewK b).1 == (fewK b).1)=true,((fewK b).2 == (fewK b).2)=true,((fewK b).2 == (Qy b).2)=true,Qg Try.prog (.clos 20 [] []) [] (.bool true)])
 (hr:AvLe (.bool true) res):G Try.prog E [.code (Qa Try.prog 13)] ⟨[.rsl (rowI b) 0 b.length]++unds (Try.f13.ntmps - 1),[]⟩ :=
 Qb (n:=400) (evs:=[.v (YV b),.v (YV b),.v (z13_2 b),.b true,.b true,.b true,.v (.bool true)]) (obs:=_) hE Try.func13 Qf (by kernel_rfl) ho hr
theorem p13_start_1 (b:(List Int)) {E:Env} {res:AV} (hE:Qe Try.prog 13 res E) (ho:AllP [Qg Try.prog (.clos 34 [] []) [.rsl (rowI b) 0 b.length] (YV b),Qg Try.prog (.clos 35 [] []) [.rsl (rowI b) 0 b.length] (YV b),Qg Try.prog (.clos 36 [] []) [.rsl (rowI b) 0 b.length] (z13_2 b),((fewK b).1 == (fewK b).1)=true,((fewK b).2 == (fewK b).2)=true,((fewK b).2 == (Qy b).2)=false])
 (hr:AvLe (.bool false) res):G Try.prog E [.code (Qa Try.prog 13)] ⟨[.rsl (rowI b) 0 b.length]++unds (Try.f13.ntmps - 1),[]⟩ :=
 Qb (n:=400) (evs:=[.v (YV b),.v (YV b),.v (z13_2 b),.b true,.b true,.b false]) (obs:=_) hE Try.func13 Qf (by kernel_rfl) ho hr
theorem p13_start_2 (b:(List Int)) {E:Env} {res:AV} (hE:Qe Try.prog 13 res E) (ho:AllP [Qg Try.prog (.clos 34 [] []) [.rsl (rowI b) 0 b.length] (YV b),Qg Try.prog (.clos 35 [] []) [.rsl (rowI b) 0 b.length] (YV b),Qg Try.prog (.clos 36 [] []) [.rsl (rowI b) 0 b.length] (z13_2 b),((fewK b).1 == (fewK b).1)=true,((fewK b).2 == (fewK b).2)=false,false=false])
 (hr:AvLe (.bool false) res):G Try.prog E [.code (Qa Try.prog 13)] ⟨[.rsl (rowI b) 0 b.length]++unds (Try.f13.ntmps - 1),[]⟩ :=
 Qb (n:=400) (evs:=[.v (YV b),.v (YV b),.v (z13_2 b),.b true,.b false,.b false]) (obs:=_) hE Try.func13 Qf (by kernel_rfl) ho hr
theorem p13_start_3 (b:(List Int)) {E:Env} {res:AV} (hE:Qe Try.prog 13 res E) (ho:AllP [Qg Try.prog (.clos 34 [] []) [.rsl (rowI b) 0 b.length] (YV b),Qg Try.prog (.clos 35 [] []) [.rsl (rowI b) 0 b.length] (YV b),Qg Try.prog (.clos 36 [] []) [.rsl (rowI b) 0 b.length] (z13_2 b),((fewK b).1 == (fewK b).1)=false,false=false,false=false])
 (hr:AvLe (.bool false) res):G Try.prog E [.code (Qa Try.prog 13)] ⟨[.rsl (rowI b) 0 b.length]++unds (Try.f13.ntmps - 1),[]⟩ :=
 Qb (n:=400) (evs:=[.v (YV b),.v (YV b),.v (z13_2 b),.b false,.b false,.b false]) (obs:=_) hE Try.func13 Qf (by kernel_rfl) ho hr
theorem f13W (b:(List Int)) {E:Env} {rv:Bool} (hE:Qe Try.prog 13 (.bool rv) E)
 (h:((b.length≤9223372036854775807)∧((b.length≤9223372036854775807)∧((b.length≤9223372036854775807)∧(((fewK b).1=(fewK b).1→(((fewK b).2=(fewK b).2→(((fewK b).2=(Qy b).2→rv=true)∧(¬ ((fewK b).2=(Qy b).2)→rv=false)))∧(¬ ((fewK b).2=(fewK b).2)→rv=false)))∧(¬ ((fewK b).1=(fewK b).1)→rv=false)))))):G Try.prog E [.code (Qa Try.prog 13)] ⟨[.rsl (rowI b) 0 b.length]++unds (Try.f13.ntmps - 1),[]⟩:=by
 obtain ⟨h1,h⟩:=h
 obtain ⟨h2,h⟩:=h
 obtain ⟨h3,h⟩:=h
 rcases bft ((fewK b).1 == (fewK b).1) with hc0 | hc0
 · have h:=h.1 (eq_of_beq hc0)
   rcases bft ((fewK b).2 == (fewK b).2) with hc1 | hc1
   · have h:=h.1 (eq_of_beq hc1)
     rcases bft ((fewK b).2 == (Qy b).2) with hc2 | hc2
     · have h:=h.1 (eq_of_beq hc2)
       exact p13_start_0 b hE ⟨(u34 (VB b h1)),(u35 (YU b h2)),(u36 (YJ b h3)),hc0,hc1,hc2,(u20 (works_ok )),trivial⟩ (AvLe.of_eq (by rw [h]; try rfl))
     · have h:=h.2 (ne_of_beq_false hc2)
       exact p13_start_1 b hE ⟨(u34 (VB b h1)),(u35 (YU b h2)),(u36 (YJ b h3)),hc0,hc1,hc2,trivial⟩ (AvLe.of_eq (by rw [h]; try rfl))
   · have h:=h.2 (ne_of_beq_false hc1)
     exact p13_start_2 b hE ⟨(u34 (VB b h1)),(u35 (YU b h2)),(u36 (YJ b h3)),hc0,hc1,rfl,trivial⟩ (AvLe.of_eq (by rw [h]; try rfl))
 · have h:=h.2 (ne_of_beq_false hc0)
   exact p13_start_3 b hE ⟨(u34 (VB b h1)),(u35 (YU b h2)),(u36 (YJ b h3)),hc0,rfl,rfl,trivial⟩ (AvLe.of_eq (by rw [h]; try rfl))
theorem law13_ok (b:List Int) (h:b.length≤9223372036854775807):Pure Try.prog 13 [.rsl (rowI b) 0 b.length] (.bool true):=Qr Try.func13 f13b fun E hE =>
 f13W b (rv:=true) hE ⟨h,h,h,fun _=>⟨fun _=>⟨fun _=>rfl,fun h=>absurd rfl h⟩,fun h=>absurd rfl h⟩,fun h=>absurd rfl h⟩
end Go.Proofs.Ytmdbebbibecidaa