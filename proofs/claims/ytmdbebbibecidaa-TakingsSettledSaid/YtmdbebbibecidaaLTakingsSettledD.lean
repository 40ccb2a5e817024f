/- A part of the proof: several texts, one behind the other. -/
import Derived.Test.YtmdbebbibecidaaLTakingsSettledC
set_option linter.unusedVariables false
set_option linter.unusedSimpArgs false
set_option maxRecDepth 100000
namespace Go.Proofs.Ytmdbebbibecidaa
open Go Ax
open Go.Proofs
/-- Those whose balance is not 0. -/
def setB (b:List Int):Nat→Nat
 | 0=>0
 | i+1=>if b.getD i 0=0 then setB b i else setB b i ||| 2 ^ i
theorem YR {b:List Int}:∀ {n i:Nat},(setB b n).testBit i=(decide (i<n) && decide (b.getD i 0 ≠ 0))
 | 0,i=>by simp [setB]
 | n+1,i=>by
  have ih:=YR (b:=b) (n:=n) (i:=i)
  rw [setB]
  by_cases hi:i=n
  · subst hi
    split
    · rename_i h; rw [ih,decide_eq_false (show ¬ (b.getD i 0 ≠ 0) by simpa using h)]; simp
    · rename_i h; rw [Nat.testBit_or,ih,Nat.testBit_two_pow_self,decide_eq_true h]; simp
  · have e:decide (i<n+1)=decide (i<n):=decide_eq_decide.2 (by omega)
    split
    · rw [ih,e]
    · rw [Nat.testBit_or,ih,Nat.testBit_two_pow_of_ne (fun h=>hi h.symm),Bool.or_false,e]
theorem VC {b:List Int}:∀ {n:Nat},setB b n<2 ^ n
 | 0=>by simp [setB]
 | n+1=>by
  have ih:=VC (b:=b) (n:=n)
  have h2:2 ^ (n+1)=2*2 ^ n:=by rw [Nat.pow_succ,Nat.mul_comm]
  rw [setB]
  split
  · omega
  · exact Nat.or_lt_two_pow (by omega) (by omega)
theorem totP_setB {b:List Int}:∀ {i:Nat},i≤b.length→totP b (setB b b.length) i=(b.take i).sum
 | 0,_=>by simp [totP]
 | i+1,h=>by
  have ih:=totP_setB (b:=b) (i:=i) (by omega)
  have hi:b[i]?=some b[i]:=List.getElem?_eq_getElem (by omega)
  rw [Vo hi,ih,List.take_add_one,hi,List.sum_append,YR]
  have hd:b.getD i 0=b[i]:=by rw [List.getD,hi]; rfl
  rw [hd,decide_eq_true (show i<b.length by omega)]
  by_cases h0:b[i]=0
  · simp [h0]
  · simp [h0]
/-- The errors of balances that are to be settled. -/
def QP (b:List Int):Int:=if balB b=false then 1 else if sumI b=0 then 0 else 110
def Qh (b:List Int):List Pay × Int:=if QP b=0 then (QM b 1024 (setB b b.length),0) else ([],QP b)
def fewK (b:List Int):Int × Int:=((((Qh b).1.length:Nat):Int),(Qh b).2)
theorem pow_cast (i:Nat):(1:Int)*2 ^ (Int.toNat (i:Int))=((2 ^ i:Nat):Int):=by
 rw [Int.one_mul,Int.toNat_natCast,Int.natCast_pow]; rfl
theorem pow_le {i n:Nat} (h:i≤n):2 ^ i≤2 ^ n:=Nat.pow_le_pow_right (by omega) h
theorem sumOk_abs2 {B:Int} (hB0:0≤B) (hB:B≤1000000000000000) {u:List Int} (hu:u.length≤1000) (hx:∀ x ∈ u,-B≤x∧x≤B):SumOk u:=by
 refine ⟨by omega,fun k hk=>?_⟩
 have:∀ {w:List Int},(∀ x ∈ w,-B≤x∧x≤B)→-B*(w.length:Int)≤w.sum∧w.sum≤B*(w.length:Int):=by
  intro w
  induction w with
  | nil=>simp
  | cons y w ih =>
   intro hw
   have:=ih fun x hx=>hw x (by simp [hx])
   have:=hw y (by simp)
   simp only [List.sum_cons,List.length_cons,Int.natCast_add,Int.mul_add] at *; omega
 have h3:=this (w:=u.take k) fun x hx'=>hx x (List.mem_of_mem_take hx')
 have h4:((u.take k).length:Int)≤1000:=by rw [List.length_take]; omega
 have h5:B*((u.take k).length:Int)≤1000000000000000*1000:=Int.mul_le_mul hB h4 (by omega) (by omega)
 have h6:=Int.neg_mul B ((u.take k).length:Int)
 omega
theorem sumOk_bal {b:List Int} (h:balB b=true):SumOk b:=by
 have hb:=bal_of h
 exact sumOk_abs2 (B:=10000000000) (by omega) (by omega) (by omega) hb.2
theorem f60b:Try.f60.body=some (Qa Try.prog 60):=by kernel_rfl
def f60K0 (P:Program):List Item:=kAt 400 [.code (Qa P 60)] [.b false,.b false,.stop]
def f60S0 (b:(List Int)) (set:Int) (i:Nat):St:=⟨([.rsl (rowI b) 0 b.length,J,J,.int .i64 set]++jj 9 ([.rsl (rowI b) 0 b.length,.int .i64 (b.length:Int),.int .i64 (i:Int)]++Js 16)),[]⟩
def f60G0 (E:Env) (b:(List Int)) (set:Int) (i:Nat):Prop:=G Try.prog E (f60K0 Try.prog) (f60S0 b set i )
theorem p60_start_0 (b:(List Int)) {E:Env} {res:AV} {bs2:List Blk} (hE:LentE Try.prog 60 [] res bs2 E) (ho:AllP [Qf Try.prog (.clos 52 [] []) [.rsl (rowI b) 0 b.length] (.bool (balB b)),(!(balB b))=true])
 (hr:(.tup [.nilPtr,.int .i64 0,.int .i64 1])=res) (hb:[]=bs2):G Try.prog E [.code (Qa Try.prog 60)] ⟨[.rsl (rowI b) 0 b.length]++unds (Try.f60.ntmps - 1),[]⟩ :=
 Xo (n:=400) (live:=[2,3,4]) (m:=0) (evs:=[.v (.bool (balB b)),.b true]) (obs:=_) hE (hE.nogh0 _) Try.func60 Qg (by kernel_rfl) ho hr hb
theorem p60_start_1 (b:(List Int)) {E:Env} {res:AV} {bs2:List Blk} (hE:LentE Try.prog 60 [] res bs2 E) (ho:AllP [Qf Try.prog (.clos 52 [] []) [.rsl (rowI b) 0 b.length] (.bool (balB b)),(!(balB b))=false,Qf Try.prog (.clos 50 [] []) [.rsl (rowI b) 0 b.length] (.int .i64 (sumI b)),((sumI b) != 0)=true])
 (hr:(.tup [.nilPtr,.int .i64 0,.int .i64 110])=res) (hb:[]=bs2):G Try.prog E [.code (Qa Try.prog 60)] ⟨[.rsl (rowI b) 0 b.length]++unds (Try.f60.ntmps - 1),[]⟩ :=
 Xo (n:=400) (live:=[2,3,4]) (m:=0) (evs:=[.v (.bool (balB b)),.b false,.v (.int .i64 (sumI b)),.b true]) (obs:=_) hE (hE.nogh0 _) Try.func60 Qg (by kernel_rfl) ho hr hb
theorem p60_start_2 (b:(List Int)) {E:Env} {rv:AV} {bs2:List Blk} (hE:LentE Try.prog 60 [] rv bs2 E) (ho:AllP [Qf Try.prog (.clos 52 [] []) [.rsl (rowI b) 0 b.length] (.bool (balB b)),(!(balB b))=false,Qf Try.prog (.clos 50 [] []) [.rsl (rowI b) 0 b.length] (.int .i64 (sumI b)),((sumI b) != 0)=false])
 (hg:G Try.prog E (f60K0 Try.prog) ⟨([.rsl (rowI b) 0 b.length,J,J,.int .i64 0]++jj 9 ([.rsl (rowI b) 0 b.length,.int .i64 (b.length:Int),.int .i64 0]++Js 16)),[]⟩):G Try.prog E [.code (Qa Try.prog 60)] ⟨[.rsl (rowI b) 0 b.length]++unds (Try.f60.ntmps - 1),[]⟩ :=
 Qe (n:=400) (ds:=[]) (cs:=[]) (live:=[0,3,13,14,15]) (m:=0) (evs:=[.v (.bool (balB b)),.b false,.v (.int .i64 (sumI b)),.b false,.stop]) (obs:=_) hE.kind (hE.nogh0 _) Qg (by kernel_rfl) ho hg
theorem f60W (b:(List Int)) {E:Env} {res:AV} {bs2:List Blk} (hE:LentE Try.prog 60 [] res bs2 E)
 (h:((b.length≤9223372036854775807)∧(((balB b)=false→((.tup [.nilPtr,.int .i64 0,.int .i64 1])=res∧[]=bs2))∧((balB b)=true→((SumOk b)∧((¬ ((sumI b)=0)→((.tup [.nilPtr,.int .i64 0,.int .i64 110])=res∧[]=bs2))∧((sumI b)=0→f60G0 E b 0 0))))))):G Try.prog E [.code (Qa Try.prog 60)] ⟨[.rsl (rowI b) 0 b.length]++unds (Try.f60.ntmps - 1),[]⟩:=by
 obtain ⟨h1,h⟩:=h
 rcases bft (!(balB b)) with hc0 | hc0
 · have h:=h.1 (bnT hc0)
   exact p60_start_0 b hE ⟨(u52 (XD b h1)),hc0,trivial⟩ h.1 h.2
 · have h:=h.2 (bnF hc0)
   obtain ⟨h2,h⟩:=h
   rcases bft ((sumI b) != 0) with hc1 | hc1
   · have h:=h.1 (bneT hc1)
     exact p60_start_1 b hE ⟨(u52 (XD b h1)),hc0,(u50 (sum_ok b h2)),hc1,trivial⟩ h.1 h.2
   · have h:=h.2 (bneF hc1)
     exact p60_start_2 b hE ⟨(u52 (XD b h1)),hc0,(u50 (sum_ok b h2)),hc1,trivial⟩ h
theorem p60_0_0 (b:(List Int)) (set:Int) (i:Nat) (e:Int) {E:Env} {rv:AV} {bs2:List Blk} (hE:LentE Try.prog 60 [] rv bs2 E) (ho:AllP [(decide ((i:Int)<(b.length:Int)))=true,0≤(i:Int)∧(i:Int)<(b.length:Int),((rowI b).drop (0+(Int.toNat (i:Int))*1)).take 1=[.int .i64 e],(e != 0)=true,InR .i64 (1*2 ^ (Int.toNat (i:Int))),(0:Int)≤(i:Int)∧(i:Int)≤((IntKind.bits .i64:Nat):Int),InR .i64 ((i:Int)+1)])
 (hg:G Try.prog E (f60K0 Try.prog) ⟨([.rsl (rowI b) 0 b.length,J,J,.int .i64 (bits .or .i64 set (1*2 ^ (Int.toNat (i:Int))))]++jj 9 ([.rsl (rowI b) 0 b.length,.int .i64 (b.length:Int),.int .i64 ((i:Int)+1)]++Js 16)),[]⟩):G Try.prog E (f60K0 Try.prog) (f60S0 b set i ) :=
 Qe (n:=400) (ds:=[]) (cs:=[]) (live:=[0,3,13,14,15]) (m:=0) (evs:=[.b true,.ld (.int .i64 e),.b true,.stop]) (obs:=_) hE.kind (hE.nogh0 _) Qg (by kernel_rfl) ho hg
theorem p60_0_1 (b:(List Int)) (set:Int) (i:Nat) (e:Int) {E:Env} {rv:AV} {bs2:List Blk} (hE:LentE Try.prog 60 [] rv bs2 E) (ho:AllP [(decide ((i:Int)<(b.length:Int)))=true,0≤(i:Int)∧(i:Int)<(b.length:Int),((rowI b).drop (0+(Int.toNat (i:Int))*1)).take 1=[.int .i64 e],(e != 0)=false,InR .i64 ((i:Int)+1)])
 (hg:G Try.prog E (f60K0 Try.prog) ⟨([.rsl (rowI b) 0 b.length,J,J,.int .i64 set]++jj 9 ([.rsl (rowI b) 0 b.length,.int .i64 (b.length:Int),.int .i64 ((i:Int)+1)]++Js 16)),[]⟩):G Try.prog E (f60K0 Try.prog) (f60S0 b set i ) :=
 Qe (n:=400) (ds:=[]) (cs:=[]) (live:=[0,3,13,14,15]) (m:=0) (evs:=[.b true,.ld (.int .i64 e),.b false,.stop]) (obs:=_) hE.kind (hE.nogh0 _) Qg (by kernel_rfl) ho hg
theorem p60_0_2 (b:(List Int)) (set:Int) (i:Nat) {E:Env} {res:AV} {bs2:List Blk} (hE:LentE Try.prog 60 [] res bs2 E) (ho:AllP [(decide ((i:Int)<(b.length:Int)))=false])
 (hr:(.tup [.pm [.rsl (rowI b) 0 b.length] 0 0 0,.int .i64 set,.int .i64 0])=res) (hb:[⟨true,0,0,true,[],false⟩]=bs2):G Try.prog E (f60K0 Try.prog) (f60S0 b set i ) :=
 Xo (n:=400) (live:=[2,3,4]) (m:=1) (evs:=[.b false,.vn .nilFunc]) (obs:=_) hE (hE.nogh0 _) Try.func60 Qg (by kernel_rfl) ho hr hb
theorem f60W0 (b:(List Int)) (set:Int) (i:Nat) {E:Env} {res:AV} {bs2:List Blk} (hE:LentE Try.prog 60 [] res bs2 E)
 (h:(((i:Int)<(b.length:Int)→(∃ e:Int,b[i]?=some e∧((¬ (e=0)→((I6 ((1*2 ^ (Int.toNat (i:Int)):Int)))∧(((0:Int)≤(i:Int)∧(i:Int)≤((IntKind.bits .i64:Nat):Int))∧((I6 ((i:Int)+1))∧f60G0 E b (bits .or .i64 set (1*2 ^ (Int.toNat (i:Int)))) (i+1)))))∧(e=0→((I6 ((i:Int)+1))∧f60G0 E b set (i+1))))))∧(¬ ((i:Int)<(b.length:Int))→((.tup [.pm [.rsl (rowI b) 0 b.length] 0 0 0,.int .i64 set,.int .i64 0])=res∧[⟨true,0,0,true,[],false⟩]=bs2)))):f60G0 E b set i:=by
 rcases bft (decide ((i:Int)<(b.length:Int))) with hc0 | hc0
 · have h:=h.1 (odt hc0)
   obtain ⟨e,h1,h⟩:=h
   rcases bft (e != 0) with hc1 | hc1
   · have h:=h.1 (bneT hc1)
     obtain ⟨q5_2,h⟩:=h
     obtain ⟨q6_2,h⟩:=h
     obtain ⟨q7_2,h⟩:=h
     exact p60_0_0 b set i e hE ⟨hc0,(Qy h1),(rp cI 1 0 1 h1),hc1,q5_2,q6_2,q7_2,trivial⟩ h
   · have h:=h.2 (bneF hc1)
     obtain ⟨q5_2,h⟩:=h
     exact p60_0_1 b set i e hE ⟨hc0,(Qy h1),(rp cI 1 0 1 h1),hc1,q5_2,trivial⟩ h
 · have h:=h.2 (odf hc0)
   exact p60_0_2 b set i hE ⟨hc0,trivial⟩ h.1 h.2
theorem Yb {b:List Int} (h:QP b=0):balB b=true∧sumI b=0:=by
 unfold QP at h
 split at h
 · cases h
 · rename_i h1
   split at h
   · rename_i h2; exact ⟨by simpa using h1,h2⟩
   · cases h
theorem bal_in {b:List Int} (h:balB b=true):b.length≤10∧∀ x ∈ b,-10000000000≤x∧x≤10000000000:=by
 have hb:=bal_of h
 exact ⟨by omega,hb.2⟩
theorem setB_in {b:List Int} (h:balB b=true):Yq b ((setB b b.length:Nat):Int):=⟨_,rfl,VC,bal_in h⟩
theorem yn {b:List Int} (h:sumI b=0):totN b (setB b b.length)=0:=by
 unfold totN
 rw [totP_setB (Nat.le_refl _),List.take_length]; exact h
theorem WH (b:List Int) (h:b.length≤9223372036854775807) {res:AV} {bs2:List Blk} (h1:QP b ≠ 0→(.tup [.nilPtr,.int .i64 0,.int .i64 (QP b)])=res∧[]=bs2)
 (h2:QP b=0→(.tup [.pm [.rsl (rowI b) 0 b.length] 0 0 0,.int .i64 ((setB b b.length:Nat):Int),.int .i64 0])=res∧[⟨true,0,0,true,[],false⟩]=bs2):Lent Try.prog 60 [.rsl (rowI b) 0 b.length] [] res bs2:=lent_of0 Try.func60 f60b fun E hE=>by
 refine f60W b hE ⟨h,fun e=>?_,fun e=>⟨?_,fun e2=>?_,fun e2=>?_⟩⟩
 · have e1:QP b=1:=by rw [QP,if_pos e]
   have:=h1 (by rw [e1]; omega)
   rw [e1] at this; exact this
 · exact sumOk_bal e
 · have e1:QP b=110:=by rw [QP,if_neg (by rw [e]; simp),if_neg e2]
   have:=h1 (by rw [e1]; omega)
   rw [e1] at this; exact this
 · have e1:QP b=0:=by rw [QP,if_neg (by rw [e]; simp),if_pos e2]
   have hr:=h2 e1
   have hb:=bal_of e
   have key:∀ (d i:Nat),i+d=b.length→f60G0 E b ((setB b i:Nat):Int) i:=by
    intro d
    induction d with
    | zero =>
     intro i hd
     have:i=b.length:=by omega
     subst this
     exact f60W0 b _ _ hE ⟨fun h=>by omega,fun _=>hr⟩
    | succ d ih =>
     intro i hd
     have hi:b[i]?=some b[i]:=List.getElem?_eq_getElem (by omega)
     have hd':b.getD i 0=b[i]:=by rw [List.getD,hi]; rfl
     have nx:=ih (i+1) (by omega)
     rw [setB,hd'] at nx
     have hp:2 ^ i≤2 ^ 9:=pow_le (by omega)
     have hp2:2 ^ i≤2 ^ 10:=pow_le (by omega)
     have hs:setB b i<2 ^ i:=VC
     refine f60W0 b _ _ hE ⟨fun _=>⟨b[i],hi,fun h0=>⟨?_,⟨by omega,by simp [IntKind.bits]; omega⟩,by omega,?_⟩,fun h0=>⟨by omega,?_⟩⟩,fun h=>by omega⟩
     · rw [pow_cast]; omega
     · rw [pow_cast,or_nat (by omega) (by omega)]
       rw [if_neg h0] at nx
       exact nx
     · rw [if_pos h0] at nx; exact nx
   exact key b.length 0 (by omega)
theorem parted_fine (b:List Int) (h:b.length≤9223372036854775807) (he:QP b=0):Lent Try.prog 60 [.rsl (rowI b) 0 b.length] [] (.tup [.pm [.rsl (rowI b) 0 b.length] 0 0 0,.int .i64 ((setB b b.length:Nat):Int),.int .i64 0]) [⟨true,0,0,true,[],false⟩]:=WH b h (fun h=>absurd he h) fun _=>⟨rfl,rfl⟩
theorem parted_err (b:List Int) (h:b.length≤9223372036854775807) (he:¬ QP b=0):Lent Try.prog 60 [.rsl (rowI b) 0 b.length] [] (.tup [.nilPtr,.int .i64 0,.int .i64 (QP b)]) []:=WH b h (fun _=>⟨rfl,rfl⟩) fun h=>absurd h he
theorem settle_okI (b:List Int) (st:Int) (h:Yq b st∧totN b (Int.toNat st)=0):Lent Try.prog 61 [.pm [.rsl (rowI b) 0 b.length] 0 0 0,.int .i64 st] [⟨true,0,0,true,[],false⟩]
 (.rsl (Qk (QM b 1024 (Int.toNat st))) 0 (QM b 1024 (Int.toNat st)).length) [⟨true,0,0,true,Qm (XM b 1024 1024 (Int.toNat st) []),false⟩]:=by
 obtain ⟨⟨S,rfl,h2⟩,h3⟩:=h
 rw [Int.toNat_natCast] at h3 ⊢
 exact settle_ok b S ⟨S,rfl,h2⟩ h3
theorem f36b:Try.f36.body=some (Qa Try.prog 36):=by kernel_rfl
theorem u36 {a c k:List AV} {r:AV} (h:Pure Try.prog 36 (a++c++k) r):Qf Try.prog (.clos 36 a k) c r:=Qn Try.func36 (by kernel_rfl) f36b h
abbrev z36_1 (b:(List Int)):=QM b 1024 (Int.toNat ((setB b b.length:Nat):Int))
theorem p36_start_0 (b:(List Int)) {E:Env} {res:AV} (hE:Qd Try.prog 36 res E) (ho:AllP [YZ Try.prog (.clos 60 [] []) [.rsl (rowI b) 0 b.length] [] (.tup [.pm [.rsl (rowI b) 0 b.length] 0 0 0,.int .i64 ((setB b b.length:Nat):Int),.int .i64 0]) [⟨true,0,0,true,[],false⟩],false=false,YZ Try.prog (.clos 61 [] []) [.pm [.rsl (rowI b) 0 b.length] 0 0 0,.int .i64 ((setB b b.length:Nat):Int)] [⟨true,0,0,true,[],false⟩] (.rsl (Qk (z36_1 b)) 0 ((z36_1 b).length)) [⟨true,0,0,true,(Qm (XM b 1024 1024 (Int.toNat ((setB b b.length:Nat):Int)) [])),false⟩]])
 (hr:AvLe (.tup [.rsl (Qk (z36_1 b)) 0 ((z36_1 b).length),.int .i64 0]) res):G Try.prog E [.code (Qa Try.prog 36)] ⟨[.rsl (rowI b) 0 b.length]++unds (Try.f36.ntmps - 1),[]⟩ :=
 Qb (n:=400) (evs:=[.lent [] (.tup [.pm [.rsl (rowI b) 0 b.length] 0 0 0,.int .i64 ((setB b b.length:Nat):Int),.int .i64 0]) [⟨true,0,0,true,[],false⟩],.b false,.lent [0] (.rsl (Qk (z36_1 b)) 0 ((z36_1 b).length)) [⟨true,0,0,true,(Qm (XM b 1024 1024 (Int.toNat ((setB b b.length:Nat):Int)) [])),false⟩]]) (obs:=_) hE Try.func36 Qg (by kernel_rfl) ho hr
theorem p36_start_1 (b:(List Int)) {E:Env} {res:AV} (hE:Qd Try.prog 36 res E) (ho:AllP [YZ Try.prog (.clos 60 [] []) [.rsl (rowI b) 0 b.length] [] (.tup [.nilPtr,.int .i64 0,.int .i64 (QP b)]) [],((QP b) != 0)=true])
 (hr:AvLe (.tup [.nilSl,.int .i64 (QP b)]) res):G Try.prog E [.code (Qa Try.prog 36)] ⟨[.rsl (rowI b) 0 b.length]++unds (Try.f36.ntmps - 1),[]⟩ :=
 Qb (n:=400) (evs:=[.lent [] (.tup [.nilPtr,.int .i64 0,.int .i64 (QP b)]) [],.b true]) (obs:=_) hE Try.func36 Qg (by kernel_rfl) ho hr
theorem f36W (b:(List Int)) {E:Env} {rv:((List Pay) × Int)} (hE:Qd Try.prog 36 (.tup [.rsl (Qk rv.1) 0 rv.1.length,.int .i64 rv.2]) E)
 (h:((QP b=0→((b.length≤9223372036854775807)∧((Yq b ((setB b b.length:Nat):Int)∧totN b (Int.toNat ((setB b b.length:Nat):Int))=0)∧rv=((QM b 1024 (Int.toNat ((setB b b.length:Nat):Int))),0))))∧(¬ (QP b=0)→((b.length≤9223372036854775807)∧((¬ ((QP b)=0)→rv=(([]:List Pay),(QP b)))∧((QP b)=0→False)))))):G Try.prog E [.code (Qa Try.prog 36)] ⟨[.rsl (rowI b) 0 b.length]++unds (Try.f36.ntmps - 1),[]⟩:=by
 rcases bft (decide (QP b=0)) with hc0 | hc0
 · have h:=h.1 (odt hc0)
   obtain ⟨h1,h⟩:=h
   obtain ⟨h2,h⟩:=h
   exact p36_start_0 b hE ⟨(Xj Try.func60 (by kernel_rfl) f60b (parted_fine b h1 (odt hc0))),rfl,(Xj Try.func61 (by kernel_rfl) f61b (settle_okI b ((setB b b.length:Nat):Int) h2)),trivial⟩ (AvLe.of_eq (by rw [h]; try rfl))
 · have h:=h.2 (odf hc0)
   obtain ⟨h1,h⟩:=h
   rcases bft ((QP b) != 0) with hc1 | hc1
   · have h:=h.1 (bneT hc1)
     exact p36_start_1 b hE ⟨(Xj Try.func60 (by kernel_rfl) f60b (parted_err b h1 (odf hc0))),hc1,trivial⟩ (by rw [h]; exact (YA ⟨XQ,⟨AvLe.of_eq rfl,trivial⟩⟩))
   · have h:=h.2 (bneF hc1)
     exact h.elim
theorem Yp (b:List Int) (h:b.length≤9223372036854775807):Pure Try.prog 36 [.rsl (rowI b) 0 b.length] (.tup [.rsl (Qk (Qh b).1) 0 (Qh b).1.length,.int .i64 (Qh b).2]):=Qt Try.func36 f36b fun E hE=>by
 refine f36W b (rv:=Qh b) hE ⟨fun e=>⟨h,⟨?_,?_⟩,?_⟩,fun e=>⟨h,fun _=>?_,fun h=>absurd h e⟩⟩
 · exact setB_in (Yb e).1
 · rw [Int.toNat_natCast]; exact yn (Yb e).2
 · rw [Int.toNat_natCast,Qh,if_pos e]
 · rw [Qh,if_neg e]
theorem f34b:Try.f34.body=some (Qa Try.prog 34):=by kernel_rfl
theorem u34 {a c k:List AV} {r:AV} (h:Pure Try.prog 34 (a++c++k) r):Qf Try.prog (.clos 34 a k) c r:=Qn Try.func34 (by kernel_rfl) f34b h
theorem p34_start_0 (b:(List Int)) {E:Env} {res:AV} (hE:Qd Try.prog 34 res E) (ho:AllP [Qf Try.prog (.clos 36 [] []) [.rsl (rowI b) 0 b.length] (.tup [.rsl (Qk ((Qh b).1)) 0 (((Qh b).1).length),.int .i64 ((Qh b).2)])])
 (hr:AvLe (.tup [.int .i64 ((((Qh b).1).length:Nat):Int),.int .i64 ((Qh b).2)]) res):G Try.prog E [.code (Qa Try.prog 34)] ⟨[.rsl (rowI b) 0 b.length]++unds (Try.f34.ntmps - 1),[]⟩ :=
 Qb (n:=400) (evs:=[.v (.tup [.rsl (Qk ((Qh b).1)) 0 (((Qh b).1).length),.int .i64 ((Qh b).2)])]) (obs:=_) hE Try.func34 Qg (by kernel_rfl) ho hr
theorem f34W (b:(List Int)) {E:Env} {rv:(Int × Int)} (hE:Qd Try.prog 34 (.tup [.int .i64 rv.1,.int .i64 rv.2]) E)
 (h:((b.length≤9223372036854775807)∧rv=(((((Qh b).1).length:Nat):Int),(Qh b).2))):G Try.prog E [.code (Qa Try.prog 34)] ⟨[.rsl (rowI b) 0 b.length]++unds (Try.f34.ntmps - 1),[]⟩:=by
 obtain ⟨h1,h⟩:=h
 exact p34_start_0 b hE ⟨(u36 (Yp b h1)),trivial⟩ (AvLe.of_eq (by rw [h]; try rfl))
theorem YM (b:List Int) (h:b.length≤9223372036854775807):Pure Try.prog 34 [.rsl (rowI b) 0 b.length] (.tup [.int .i64 (fewK b).1,.int .i64 (fewK b).2]):=Qt Try.func34 f34b fun E hE=>f34W b (rv:=fewK b) hE ⟨h,rfl⟩
end Go.Proofs.Ytmdbebbibecidaa
namespace Go.Proofs.Ytmdbebbibecidaa
open Go Ax
open Go.Proofs
/-! ### the members of a set -/
def memS (n S:Nat):List Nat:=(List.range n).filter fun i=>S.testBit i
def vB (b:List Int):Nat→Int:=fun i=>b.getD i 0
theorem YT {n S i:Nat}:i ∈ memS n S ↔ i<n∧S.testBit i=true:=by
 unfold memS; rw [List.mem_filter,List.mem_range]
theorem YH {L:List Nat} (h:L.Nodup) (P:Nat→Bool):(L.filter P).Nodup:=List.Pairwise.filter P h
theorem WN {n:Nat}:memS n 0=[]:=List.filter_eq_nil_iff.2 fun i _=>by simp
theorem sm_app {v:Nat→Int} {a b:List Nat}:sm v (a++b)=sm v a+sm v b:=by unfold sm; rw [List.map_append,List.sum_append]
theorem totP_sm {b:List Int} {S:Nat}:∀ n,totP b S n=sm (vB b) (memS n S)
 | 0=>rfl
 | n+1=>by
  have ih:=totP_sm (b:=b) (S:=S) n
  unfold memS at ih ⊢
  rw [totP,List.range_succ,List.filter_append,sm_app,ih]
  cases hs:S.testBit n <;> simp [hs,sm,vB]
theorem totN_sm {b:List Int} {S:Nat}:totN b S=sm (vB b) (memS b.length S):=totP_sm _
theorem memS_filter {n S:Nat} {P:Nat→Bool}:(memS n S).filter P=memS n (Wi n fun i=>S.testBit i && P i):=by
 unfold memS
 refine filt fun i hi=>?_
 rw [Vs,decide_eq_true (List.mem_range.1 hi),Bool.true_and]
theorem memS_part {n S x:Nat} (h:x &&& S=x):(memS n S).filter (fun i=>x.testBit i)=memS n x:=by
 unfold memS
 refine filt fun i _=>?_
 have:(x.testBit i && S.testBit i)=x.testBit i:=by rw [← Nat.testBit_and,h]
 rw [Bool.and_comm]; exact this
theorem WO {n S x:Nat}:(memS n S).filter (fun i=>!x.testBit i)=memS n (without S x):=by
 unfold memS
 refine filt fun i _=>?_
 rw [Xe]
theorem part_ne {n S x:Nat} (h:x<2 ^ n) (h0:0<x):∃ i,i<n∧x.testBit i=true:=by
 apply Classical.byContradiction
 intro hc
 have:x=0:=Nat.eq_of_testBit_eq fun i=>by
  rw [Nat.zero_testBit]
  by_cases hi:i<n
  · cases hb:x.testBit i with
    | false=>rfl
    | true=>exact absurd ⟨i,hi,hb⟩ hc
  · exact Nat.testBit_lt_two_pow (Nat.lt_of_lt_of_le h (Nat.pow_le_pow_right (by omega) (by omega)))
 omega
/-- The program finds the greatest number of groups. -/
theorem most_is {b:List Int} (hl:b.length≤10):∀ (S:Nat),S<2 ^ b.length→totN b S=0→IsMost (vB b) (memS b.length S) (Int.toNat (Xd b S)):=by
 intro S
 induction S using Nat.strongRecOn with
 | ind S ih =>
  intro hS ht
  by_cases h0:S=0
  · subst h0
    rw [WN]
    intro j
    exact ⟨fun h=>by have:=grp_nil h; omega,fun h=>by
     have:j=0:=by rw [VL] at h; simpa using h
     subst this; exact Ws _ _⟩
  have hS2:=Vb hl hS
  have hin:∀ x ∈ Qw b S,x &&& S=x∧0<x∧totN b x=0∧without S x<S∧x≤S:=fun x hx=>by
   have hp:=Xa hx
   have hw:=QK hp.1
   exact ⟨hp.1,hp.2.1,hp.2.2.2,by omega,by omega⟩
  have IH:∀ x ∈ Qw b S,IsMost (vB b) (memS b.length (without S x)) (Int.toNat (Xd b (without S x))):=fun x hx=>by
   obtain ⟨a1,a2,a3,a4,a5⟩:=hin x hx
   exact ih _ a4 (by omega) (Vg a1 ht a3)
  have hself:S ∈ Qw b S:=WM (Nat.and_self S) (by omega) (lowP_self h0 hS2) ht
  obtain ⟨m1,m2,m3⟩:=Wt (v:=fun x=>1+Xd b (without S x)) (l:=Qw b S) (a:=0)
  rw [← Wr h0] at m1 m2 m3
  have mb:=fun x=>(YS (b:=b) x).1
  have hs:sm (vB b) (memS b.length S)=0:=by rw [← totN_sm]; exact ht
  intro j
  constructor
  · intro hg
    cases j with
    | zero=>omega
    | succ j =>
     obtain ⟨i0,h1,h2,h3,h4⟩:=low_of h0 hS2
     have hi0:i0<b.length:=by
      apply Classical.byContradiction
      intro hn
      rw [Nat.testBit_lt_two_pow (Nat.lt_of_lt_of_le hS (Nat.pow_le_pow_right (by omega) (by omega)))] at h2
      cases h2
     obtain ⟨P,p1,p2,p3⟩:=grp_take hs (YT.2 ⟨hi0,h2⟩) hg
     have hx1:(Wi b.length fun i=>S.testBit i && P i) &&& S=Wi b.length fun i=>S.testBit i && P i:=by
      refine Nat.eq_of_testBit_eq fun i=>?_
      rw [Nat.testBit_and,Vs]
      cases S.testBit i <;> simp
     rw [memS_filter,← totN_sm] at p2
     have hrest:(memS b.length S).filter (fun i=>!P i)=memS b.length (without S (Wi b.length fun i=>S.testBit i && P i)):=by
      rw [← WO]
      refine List.filter_congr fun i hi=>?_
      have:=YT.1 hi
      rw [Vs,decide_eq_true this.1,this.2]; simp
     rw [hrest] at p3
     generalize hx:(Wi b.length fun i=>S.testBit i && P i)=x at hx1 p2 p3
     have hxi:x.testBit i0=true:=by rw [← hx,Vs,decide_eq_true hi0,h2,p1]; rfl
     have hx0:0<x:=by
      rcases Nat.eq_zero_or_pos x with h | h
      · rw [h,Nat.zero_testBit] at hxi; cases hxi
      · exact h
     have hxS:=@Nat.and_le_right x S
     have hxp:x ∈ Qw b S:=WM hx1 hx0 (by rw [lowP_iff hS2 (by omega) h1 h4]; exact hxi) p2
     have a:=(IH x hxp j).1 p3
     have c:=m2 x hxp
     have d:=mb (without S x)
     omega
  · intro hj
    refine Grp.le ?_ hj
    rcases m3 with m3 | ⟨x,hx,m3⟩
    · rw [m3]; exact Ws _ _
    · obtain ⟨a1,a2,a3,a4,a5⟩:=hin x hx
      have g:=(IH x hx _).2 (Nat.le_refl _)
      have d:=mb (without S x)
      have e:Int.toNat (Xd b S)=Int.toNat (Xd b (without S x))+1:=by omega
      rw [e]
      rw [← WO] at g
      obtain ⟨i,hi,hxi⟩:=part_ne (n:=b.length) (S:=S) (x:=x) (by omega) a2
      have hSi:S.testBit i=true:=by
       have:(x.testBit i && S.testBit i)=x.testBit i:=by rw [← Nat.testBit_and,a1]
       rw [hxi,Bool.true_and] at this; exact this
      exact grp_add (P:=fun i=>x.testBit i) ⟨i,YT.2 ⟨hi,hSi⟩,hxi⟩ (by rw [memS_part a1,← totN_sm]; exact a3) g
/-! ### groups under other names -/
def Lab (v:Nat→Int) (L:List Nat) (k:Nat) (c:Nat→Nat):Prop:=∀ j,1≤j→j≤k→(∃ i ∈ L,c i=j)∧sm v (L.filter fun i=>c i == j)=0
theorem Grp.lab {v:Nat→Int} {L:List Nat} {k:Nat} (h:Grp v L k):∃ c,Lab v L k c:=h
def swp (a b x:Nat):Nat:=if x=a then b else if x=b then a else x
theorem Vh {a b x:Nat}:swp a b (swp a b x)=x:=by
 unfold swp
 by_cases h1:x=a
 · subst h1
   by_cases h2:b=x
   · subst h2; simp
   · rw [if_pos rfl,if_neg h2,if_pos rfl]
 · rw [if_neg h1]
   by_cases h2:x=b
   · subst h2; rw [if_pos rfl,if_pos rfl]
   · rw [if_neg h2,if_neg h1,if_neg h2]
theorem yg {a b x k:Nat} (ha:1≤a∧a≤k) (hb:1≤b∧b≤k) (hx:1≤x∧x≤k):1≤swp a b x∧swp a b x≤k:=by
 unfold swp; split
 · exact hb
 · split
   · exact ha
   · exact hx
theorem Lab.swap {v:Nat→Int} {L:List Nat} {k a b:Nat} {c:Nat→Nat} (h:Lab v L k c) (ha:1≤a∧a≤k) (hb:1≤b∧b≤k):Lab v L k fun i=>swp a b (c i):=by
 intro j h1 h2
 obtain ⟨⟨i,hi,hc⟩,hs⟩:=h (swp a b j) (yg ha hb ⟨h1,h2⟩).1 (yg ha hb ⟨h1,h2⟩).2
 refine ⟨⟨i,hi,by show swp a b (c i)=j; rw [hc]; exact Vh⟩,?_⟩
 rw [← hs]
 congr 1
 refine List.filter_congr fun x _=>?_
 show (swp a b (c x) == j)=_
 by_cases he:c x=swp a b j
 · rw [he,Vh]; simp
 · have:¬ swp a b (c x)=j:=fun h=>he (by rw [← h]; exact Vh.symm)
   rw [beq_eq_false_iff_ne.2 he,beq_eq_false_iff_ne.2 this]
theorem Lab.le {v:Nat→Int} {L:List Nat} {k j:Nat} {c:Nat→Nat} (h:Lab v L k c) (hj:j≤k):Lab v L j c:=fun i a b=>h i a (by omega)
/-- One group is given up. -/
theorem Lab.drop {v:Nat→Int} {L:List Nat} {k a:Nat} {c:Nat→Nat} (h:Lab v L (k+1) c) (ha:1≤a∧a≤k+1):∃ c',Lab v L k c'∧∀ i,c i=a→c' i=k+1 :=
 ⟨_,(h.swap ha (b:=k+1) ⟨by omega,by omega⟩).le (by omega),fun i hi=>by show swp a (k+1) (c i)=k+1; rw [hi]; simp [swp]⟩
theorem sm_zero {v:Nat→Int}:∀ {L:List Nat},(∀ i ∈ L,v i=0)→sm v L=0
 | [],_=>rfl
 | i :: L,h=>by
  have:=sm_zero (v:=v) (L:=L) fun j hj=>h j (by simp [hj])
  unfold sm at *
  rw [List.map_cons,List.sum_cons,this,h i (by simp)]; rfl
theorem sm_cong {v w:Nat→Int}:∀ {L:List Nat},(∀ i ∈ L,v i=w i)→sm v L=sm w L
 | [],_=>rfl
 | i :: L,h=>by
  have:=sm_cong (v:=v) (w:=w) (L:=L) fun j hj=>h j (by simp [hj])
  unfold sm at *
  rw [List.map_cons,List.sum_cons,List.map_cons,List.sum_cons,this,h i (by simp)]
/-- One without a balance is left out. -/
theorem grp_out {v:Nat→Int} {L:List Nat} {i0 k:Nat} (hv:v i0=0) (h:Grp v L (k+1)):Grp v (L.filter fun i=>i != i0) k:=by
 obtain ⟨c,h⟩:=h.lab
 have same:∀ (d:Nat→Nat) (j:Nat),sm v ((L.filter fun i=>i != i0).filter fun i=>d i == j)=sm v (L.filter fun i=>d i == j):=fun d j=>by
  rw [YQ v (fun i=>i == i0) (L.filter fun i=>d i == j)]
  have e1:sm v ((L.filter fun i=>d i == j).filter fun i=>i == i0)=0:=sm_zero fun i hi=>by
   have:=(List.mem_filter.1 hi).2
   rw [eq_of_beq this]; exact hv
  rw [e1,Int.zero_add,filt (R:=fun i=>i != i0 && d i == j) (fun i _=>rfl),filt (R:=fun i=>i != i0 && d i == j) (fun i _=>by cases d i == j <;> cases h:i == i0 <;> simp [bne,h])]
 have keep:∀ (d:Nat→Nat) (j:Nat),(∃ i ∈ L,d i=j)→d i0 ≠ j→∃ i ∈ L.filter fun i=>i != i0,d i=j:=fun d j ⟨i,hi,hd⟩ hne =>
  ⟨i,List.mem_filter.2 ⟨hi,by simp; rintro rfl; exact hne hd⟩,hd⟩
 by_cases ha:1≤c i0∧c i0≤k+1
 · obtain ⟨c',hc',hk⟩:=h.drop ha
   have e0:=hk i0 rfl
   refine ⟨c',fun j h1 h2=>?_⟩
   obtain ⟨q1,q2⟩:=hc' j h1 h2
   exact ⟨keep c' j q1 (by omega),by rw [same]; exact q2⟩
 · refine ⟨c,fun j h1 h2=>?_⟩
   obtain ⟨q1,q2⟩:=h j h1 (by omega)
   exact ⟨keep c j q1 (by omega),by rw [same]; exact q2⟩
/-- All without a balance are left out. -/
theorem grp_outs {v:Nat→Int}:∀ (n:Nat) {L:List Nat} {k:Nat},L.Nodup→L.length≤n→Grp v L k→Grp v (L.filter fun i=>decide (v i ≠ 0)) (k - (L.length - (L.filter fun i=>decide (v i ≠ 0)).length))
 | n,L,k,hn,hl,h=>by
  by_cases hz:∃ i ∈ L,v i=0
  · obtain ⟨i,hi,hv⟩:=hz
    cases n with
    | zero =>
     have:L=[]:=List.eq_nil_of_length_eq_zero (by omega)
     subst this; simp at hi
    | succ n =>
     have hlen:(L.filter fun x=>x != i).length+1=L.length:=by
      have:=List.length_erase_of_mem hi
      rw [hn.erase_eq_filter] at this
      have h0:0<L.length:=List.length_pos_iff.2 fun e=>by subst e; simp at hi
      omega
     have e:(L.filter fun x=>x != i).filter (fun x=>decide (v x ≠ 0))=L.filter fun x=>decide (v x ≠ 0):=filt fun x _=>by
      by_cases hx:x=i
      · subst hx; simp [hv]
      · simp [hx]
     cases k with
     | zero=>rw [Nat.zero_sub]; exact Ws _ _
     | succ k =>
      have ih:=grp_outs n (YH hn _) (by omega) (grp_out hv h)
      rw [e] at ih
      refine ih.le ?_
      have:=List.length_filter_le (fun x=>decide (v x ≠ 0)) (L.filter fun x=>x != i)
      rw [e] at this
      omega
  · have e:L.filter (fun i=>decide (v i ≠ 0))=L:=List.filter_eq_self.2 fun i hi=>decide_eq_true fun h0=>hz ⟨i,hi,h0⟩
    rw [e,Nat.sub_self,Nat.sub_zero]; exact h
theorem WT (P:Nat→Bool):∀ L:List Nat,L.length=(L.filter P).length+(L.filter fun i=>!P i).length
 | []=>rfl
 | i :: L=>by
  have ih:=WT P L
  cases h:P i <;> simp [List.filter_cons,h] <;> omega
/-- Groups of people none of whom has 0 are of two at least. -/
theorem grp_two {v:Nat→Int}:∀ {k:Nat} {L:List Nat},(∀ i ∈ L,v i ≠ 0)→Grp v L k→2*k≤L.length
 | 0,L,_,_=>by omega
 | k+1,L,hv,h=>by
  obtain ⟨c,h⟩:=h
  obtain ⟨⟨i,hi,hc⟩,hs⟩:=h (k+1) (by omega) (by omega)
  have h2:2≤(L.filter fun i=>c i == k+1).length:=by
   have hm:i ∈ L.filter fun i=>c i == k+1:=List.mem_filter.2 ⟨hi,by simpa using hc⟩
   match hf:L.filter (fun i=>c i == k+1) with
   | []=>rw [hf] at hm; simp at hm
   | [x] =>
    rw [hf] at hs
    have hx:x ∈ L.filter fun i=>c i == k+1:=by rw [hf]; simp
    have:=hv x (List.mem_filter.1 hx).1
    unfold sm at hs
    simp at hs
    exact absurd hs this
   | x :: y :: r=>simp only [List.length_cons]; omega
  have hr:Grp v (L.filter fun i=>!(c i == k+1)) k:=⟨c,fun j h1 h2=>by
   obtain ⟨⟨x,hx,hcx⟩,hz⟩:=h j h1 (by omega)
   refine ⟨⟨x,List.mem_filter.2 ⟨hx,by simp; omega⟩,hcx⟩,?_⟩
   rw [← hz,filt (R:=fun i=>c i == j)]
   intro y _
   by_cases hy:c y=j
   · have:¬ c y=k+1:=by omega
     simp [hy]; omega
   · simp [hy]⟩
  have ih:=grp_two (fun i hi=>hv i (List.mem_filter.1 hi).1) hr
  have hlen:=WT (fun i=>c i == k+1) L
  omega
/-! ### payments -/
theorem sm_upd {v:Nat→Int} {a:Nat} {e:Int}:∀ {L:List Nat},L.Nodup→sm (fun i=>if i=a then v i+e else v i) L=sm v L+if a ∈ L then e else 0
 | [],_=>by simp [sm]
 | x :: L,h=>by
  obtain ⟨h1,h2⟩:=List.nodup_cons.1 h
  have ih:=sm_upd (v:=v) (a:=a) (e:=e) h2
  unfold sm at *
  rw [List.map_cons,List.sum_cons,List.map_cons,List.sum_cons,ih]
  by_cases hx:x=a
  · subst hx
    rw [if_pos rfl,if_neg h1,if_pos (by simp)]; omega
  · have:(a ∈ x :: L) ↔ a ∈ L:=by
     rw [List.mem_cons]
     exact ⟨fun h=>h.resolve_left fun e=>hx e.symm,.inr⟩
    rw [if_neg hx]
    by_cases ha:a ∈ L
    · rw [if_pos ha,if_pos (this.2 ha)]; omega
    · rw [if_neg ha,if_neg (fun h=>ha (this.1 h))]; omega
/-- A payment of c from one to the other costs one group at the most. -/
theorem grp_pay {v:Nat→Int} {L:List Nat} {p q:Nat} {c:Int} {k:Nat} (hL:L.Nodup) (hp:p ∈ L) (hq:q ∈ L) (hpq:p ≠ q)
 (h:Grp (fun i=>(if i=q then (if i=p then v i+c else v i)+(0 - c) else if i=p then v i+c else v i)) L (k+1)):Grp v L k:=by
 have hs:∀ (P:Nat→Bool),sm (fun i=>(if i=q then (if i=p then v i+c else v i)+(0 - c) else if i=p then v i+c else v i)) (L.filter P)=sm v (L.filter P)+(if P p=true then c else 0)+(if P q=true then 0 - c else 0):=fun P=>by
  rw [sm_upd (v:=fun i=>if i=p then v i+c else v i) (YH hL _),sm_upd (YH hL _)]
  have e1:(p ∈ L.filter P) ↔ P p=true:=by rw [List.mem_filter]; exact ⟨fun h=>h.2,fun h=>⟨hp,h⟩⟩
  have e2:(q ∈ L.filter P) ↔ P q=true:=by rw [List.mem_filter]; exact ⟨fun h=>h.2,fun h=>⟨hq,h⟩⟩
  simp only [e1,e2]
 obtain ⟨d,h⟩:=h.lab
 -- the group that one of them is in is given up
 have give:∀ (a:Nat),(1≤a∧a≤k+1)→(∀ j,1≤j→j≤k+1→j ≠ a→d p ≠ j∧d q ≠ j)→Grp v L k:=fun a ha hno=>by
  obtain ⟨d',h1,-⟩:∃ c',Lab _ L k c'∧∀ i,d i=a→c' i=k+1:=h.drop ha
  obtain ⟨d'',h2⟩:∃ c':Nat→Nat,c'=fun i=>swp a (k+1) (d i):=⟨_,rfl⟩
  refine ⟨d'',fun j j1 j2=>?_⟩
  obtain ⟨q1,q2⟩:=(h.swap ha (b:=k+1) ⟨by omega,by omega⟩) j j1 (by omega)
  rw [h2]
  refine ⟨q1,?_⟩
  have hne:∀ x,(x=p ∨ x=q)→(swp a (k+1) (d x) == j)=false:=fun x hx=>by
   refine beq_eq_false_iff_ne.2 fun he=>?_
   have hr:=yg ha (⟨by omega,by omega⟩:1≤k+1∧k+1≤k+1) ⟨j1,by omega⟩
   have hdx:d x=swp a (k+1) j:=by rw [← he,Vh]
   have hna:swp a (k+1) j ≠ a:=fun h=>by
    have:j=swp a (k+1) a:=by
     have e:=congrArg (swp a (k+1)) h
     rw [Vh] at e; exact e
    rw [this] at j2
    simp only [swp,if_true] at j2
    omega
   have:=hno _ hr.1 hr.2 hna
   rcases hx with rfl | rfl
   · exact this.1 hdx
   · exact this.2 hdx
  rw [hs,hne p (.inl rfl),hne q (.inr rfl)] at q2
  simpa using q2
 by_cases hP:1≤d p∧d p≤k+1
 · by_cases hQ:1≤d q∧d q≤k+1
   · by_cases he:d p=d q
     · -- both in one group
       refine ⟨d,fun j j1 j2=>?_⟩
       obtain ⟨q1,q2⟩:=h j j1 (by omega)
       refine ⟨q1,?_⟩
       rw [hs,he] at q2
       cases hb:d q == j <;> rw [hb] at q2 <;> simp at q2 <;> omega
     · -- two groups become one
       have hsw:=h.swap hQ (b:=k+1) ⟨by omega,by omega⟩
       have hqk:swp (d q) (k+1) (d q)=k+1:=by simp [swp]
       have hpa:swp (d q) (k+1) (d p) ≠ k+1:=fun e=>he (by
        have:=congrArg (swp (d q) (k+1)) (e.trans hqk.symm)
        rw [Vh,Vh] at this; exact this)
       have hpr:=yg hQ (⟨by omega,by omega⟩:1≤k+1∧k+1≤k+1) hP
       generalize hd2:(fun i=>swp (d q) (k+1) (d i))=d2 at hsw
       have e1:d2 q=k+1:=by rw [← hd2]; exact hqk
       have e2:d2 p ≠ k+1:=by rw [← hd2]; exact hpa
       have e3:1≤d2 p∧d2 p≤k+1:=by rw [← hd2]; exact hpr
       refine ⟨fun i=>if d2 i=k+1 then d2 p else d2 i,fun j j1 j2=>?_⟩
       obtain ⟨⟨i,hi,hc⟩,q2⟩:=hsw j j1 (by omega)
       refine ⟨⟨i,hi,by simp only; rw [if_neg (by omega)]; exact hc⟩,?_⟩
       rw [hs] at q2
       by_cases hj:j=d2 p
       · obtain ⟨-,q3⟩:=hsw (k+1) (by omega) (by omega)
         rw [hs,e1] at q3
         rw [show (d2 p == k+1)=false from beq_eq_false_iff_ne.2 e2] at q3
         rw [e1,← hj] at q2
         rw [show (k+1 == j)=false from beq_eq_false_iff_ne.2 (by omega)] at q2
         rw [YQ v (fun i=>d2 i == j),filt (R:=fun i=>d2 i == j),filt (R:=fun i=>d2 i == k+1)]
         · simp at q2 q3; omega
         · intro x _
           show ((if d2 x=k+1 then d2 p else d2 x) == j && !(d2 x == j))=(d2 x == k+1)
           by_cases hx:d2 x=k+1
           · rw [if_pos hx,hx,← hj,show (k+1 == j)=false from beq_eq_false_iff_ne.2 (by omega)]; simp
           · rw [if_neg hx,beq_eq_false_iff_ne.2 hx]; simp
         · intro x _
           show ((if d2 x=k+1 then d2 p else d2 x) == j && (d2 x == j))=(d2 x == j)
           by_cases hx:d2 x=k+1
           · rw [if_pos hx,hx,show (k+1 == j)=false from beq_eq_false_iff_ne.2 (by omega)]; simp
           · rw [if_neg hx]; simp
       · rw [e1,show (k+1 == j)=false from beq_eq_false_iff_ne.2 (by omega),show (d2 p == j)=false from beq_eq_false_iff_ne.2 (fun h=>hj h.symm)] at q2
         have:L.filter (fun i=>(if d2 i=k+1 then d2 p else d2 i) == j)=L.filter fun i=>d2 i == j:=List.filter_congr fun x _=>by
          by_cases hx:d2 x=k+1
          · rw [if_pos hx,hx,show (k+1 == j)=false from beq_eq_false_iff_ne.2 (by omega)]
            exact beq_eq_false_iff_ne.2 fun h=>hj h.symm
          · rw [if_neg hx]
         rw [this]
         simpa using q2
   · exact give (d p) hP fun j j1 j2 hj=>⟨fun h=>hj h.symm,fun h=>hQ (by omega)⟩
 · by_cases hQ:1≤d q∧d q≤k+1
   · exact give (d q) hQ fun j j1 j2 hj=>⟨fun h=>hP (by omega),fun h=>hj h.symm⟩
   · exact give (k+1) ⟨by omega,by omega⟩ fun j j1 j2 hj=>⟨fun h=>hP (by omega),fun h=>hQ (by omega)⟩
end Go.Proofs.Ytmdbebbibecidaa
namespace Go.Proofs.Ytmdbebbibecidaa
open Go Ax
open Go.Proofs
theorem yB {l:List Int} {a i:Nat} {e:Int} (h:a<l.length):(l.set a e).getD i 0=if i=a then e else l.getD i 0:=by
 by_cases hi:i=a
 · subst hi; rw [if_pos rfl,List.getD,List.getElem?_set_self h]; rfl
 · rw [if_neg hi,List.getD,List.getElem?_set_ne (fun h=>hi h.symm)]; rfl
theorem payDo_len {v:List Int} {x:Pay}:(yq v x).length=v.length:=by unfold yq; simp
theorem VH {n:Int}:∀ {a b:List Pay} {v:List Int},Xc n (a++b) v=(Xc n a v).bind (Xc n b)
 | [],b,v=>rfl
 | x :: a,b,v=>by
  rw [List.cons_append,Xc,Xc]
  split
  · exact VH
  · rfl
theorem payOk_of {n:Int} {x:Pay} (h:WF n x=true):(0≤x.frm∧x.frm≤n - 1)∧(0≤x.to∧x.to≤n - 1)∧x.frm ≠ x.to∧1≤x.c∧x.c≤100000000000:=by
 simp only [WF,Bool.and_eq_true,Bool.not_eq_true',decide_eq_false_iff_not] at h
 obtain ⟨h1,h2,h3,h4⟩:=h
 exact ⟨Qs.1 h1,Qs.1 h2,h3,Qs.1 h4⟩
theorem of_payOk {n:Int} {x:Pay} (h1:0≤x.frm∧x.frm≤n - 1) (h2:0≤x.to∧x.to≤n - 1) (h3:x.frm ≠ x.to) (h4:1≤x.c∧x.c≤100000000000):WF n x=true:=by
 simp only [WF,Bool.and_eq_true,Bool.not_eq_true',decide_eq_false_iff_not]
 exact ⟨Qs.2 h1,Qs.2 h2,h3,Qs.2 h4⟩
theorem WG {v:List Int} {x:Pay} (h1:Int.toNat x.frm<v.length) (h2:Int.toNat x.to<v.length) (i:Nat):(yq v x).getD i 0 =
 if i=Int.toNat x.to then (if Int.toNat x.to=Int.toNat x.frm then v.getD (Int.toNat x.frm) 0+x.c else v.getD (Int.toNat x.to) 0) - x.c else if i=Int.toNat x.frm then v.getD (Int.toNat x.frm) 0+x.c else v.getD i 0:=by
 unfold yq
 rw [yB (by simpa using h2),yB h1,yB h1]
theorem Grp.cong {v w:Nat→Int} {L:List Nat} {k:Nat} (h:∀ i ∈ L,v i=w i) (hg:Grp v L k):Grp w L k:=by
 obtain ⟨c,hg⟩:=hg
 refine ⟨c,fun j h1 h2=>⟨(hg j h1 h2).1,?_⟩⟩
 rw [← (hg j h1 h2).2]
 exact (sm_cong fun i hi=>h i (List.mem_filter.1 hi).1).symm
/-- Payments that settle: there are groups. -/
theorem pay_grp:∀ {l:List Pay} {b v:List Int},Xc (b.length:Int) l b=some v→(∀ i,i<b.length→v.getD i 0=0)→Grp (vB b) (List.range b.length) (b.length - l.length)
 | [],b,v,h,hz=>by
  simp only [Xc,Option.some.injEq] at h
  subst h
  refine ⟨fun i=>i+1,fun j h1 h2=>⟨⟨j - 1,List.mem_range.2 (by simp at h2; omega),by show j - 1+1=j; omega⟩,sm_zero fun i hi=>hz i (List.mem_range.1 (List.mem_filter.1 hi).1)⟩⟩
 | x :: l,b,v,h,hz=>by
  rw [Xc] at h
  split at h
  · rename_i hp
    obtain ⟨h1,h2,h3,h4⟩:=payOk_of hp
    have hl:(yq b x).length=b.length:=payDo_len
    have ih:=pay_grp (l:=l) (b:=yq b x) (v:=v) (by rw [hl]; exact h) (by rw [hl]; exact hz)
    rw [hl] at ih
    cases hk:b.length - l.length with
    | zero=>rw [List.length_cons,show b.length - (l.length+1)=0 by omega]; exact Ws _ _
    | succ k =>
     rw [hk] at ih
     rw [List.length_cons,show b.length - (l.length+1)=k by omega]
     refine grp_pay (p:=Int.toNat x.frm) (q:=Int.toNat x.to) (c:=x.c) List.nodup_range (List.mem_range.2 (by omega)) (List.mem_range.2 (by omega)) (by omega) (ih.cong fun i hi=>?_)
     unfold vB
     rw [WG (by omega) (by omega),if_neg (show ¬ Int.toNat x.to=Int.toNat x.frm by omega)]
     by_cases e1:i=Int.toNat x.to
     · rw [if_pos e1,if_pos e1,if_neg (by omega),e1]; omega
     · rw [if_neg e1,if_neg e1]
       by_cases e2:i=Int.toNat x.frm
       · rw [if_pos e2,if_pos e2,e2]
       · rw [if_neg e2,if_neg e2]
  · cases h
def yL (b:List Int):Nat:=(memS b.length (setB b b.length)).length
theorem memS_setB {b:List Int}:memS b.length (setB b b.length)=(List.range b.length).filter fun i=>decide (vB b i ≠ 0):=by
 unfold memS
 refine List.filter_congr fun i hi=>?_
 rw [YR,decide_eq_true (List.mem_range.1 hi),Bool.true_and]; rfl
/-- Payments that settle are at least so many. -/
theorem pay_least {b:List Int} {l:List Pay} {v:List Int} (hl:b.length≤10) (ht:totN b (setB b b.length)=0) (h:Xc (b.length:Int) l b=some v) (hz:∀ i,i<b.length→v.getD i 0=0):yL b≤l.length+Int.toNat (Xd b (setB b b.length)):=by
 have h1:=grp_outs (List.range b.length).length List.nodup_range (Nat.le_refl _) (pay_grp h hz)
 have h2:=most_is hl (setB b b.length) VC ht
 rw [memS_setB] at h2
 have h3:=(h2 _).1 h1
 have h4:((List.range b.length).filter fun i=>decide (vB b i ≠ 0)).length≤(List.range b.length).length:=List.length_filter_le _ _
 rw [List.length_range] at h3 h4
 unfold yL
 rw [memS_setB]
 omega
/-! ### chains -/
theorem Ww {b:List Int} {S:Nat}:∀ {i:Nat},(∀ j,j<i→S.testBit j=false)→totP b S i=0
 | 0,_=>rfl
 | i+1,h=>by rw [totP,Ww fun j hj=>h j (by omega),h i (by omega)]; simp
theorem ya {b v:List Int} {S:Nat} (hl:b.length≤10) (hb:∀ x ∈ b,-10000000000≤x∧x≤10000000000) (hv:v.length=b.length) (hag:∀ j,j<b.length→S.testBit j=true→v.getD j 0=b.getD j 0) :
 ∀ i,i≤b.length→∃ v',Xc (b.length:Int) (chP b S i).2.2 v=some v'∧v'.length=b.length ∧
  (∀ j,j<b.length→v'.getD j 0=if j<i∧S.testBit j=true then (if (j:Int)=(chP b S i).2.1 then totP b S i else 0) else v.getD j 0) ∧
  (((chP b S i).2.1=-1∧∀ j,j<i→S.testBit j=false) ∨ ∃ k,k<i∧S.testBit k=true∧(chP b S i).2.1=(k:Int))
 | 0,_=>⟨v,rfl,hv,fun j _=>by rw [if_neg (by omega)],.inl ⟨rfl,fun j hj=>by omega⟩⟩
 | i+1,hi=>by
  obtain ⟨v',p1,p2,p3,p4⟩:=ya hl hb hv hag i (by omega)
  have hg:b[i]?=some b[i]:=List.getElem?_eq_getElem (by omega)
  have hgd:b.getD i 0=b[i]:=by rw [List.getD,hg]; rfl
  rw [yI hg]
  have hd:=yK (b:=b) (S:=S) i (by omega)
  have hbd:=Wx (S:=S) hb i (by omega)
  cases ht:S.testBit i with
  | false =>
   rw [We,if_neg (by rw [ht]; simp)]
   refine ⟨v',p1,p2,fun j hj=>?_,?_⟩
   · rw [p3 j hj]
     have e:totP b S (i+1)=totP b S i:=by rw [totP,ht]; simp
     rw [e]
     by_cases hj2:j=i
     · subst hj2; rw [if_neg (by omega),if_neg (by rw [ht]; simp)]
     · by_cases hc:j<i∧S.testBit j=true
       · rw [if_pos hc,if_pos (show j<i+1∧S.testBit j=true from ⟨by omega,hc.2⟩)]
       · rw [if_neg hc,if_neg (fun h=>hc ⟨by omega,h.2⟩)]
   · rcases p4 with ⟨q1,q2⟩ | ⟨k,q1,q2,q3⟩
     · exact .inl ⟨q1,fun j hj=>by
        by_cases hj2:j=i
        · subst hj2; exact ht
        · exact q2 j (by omega)⟩
     · exact .inr ⟨k,by omega,q2,q3⟩
  | true =>
   rw [We,if_pos ht]
   have et:totP b S (i+1)=totP b S i+b[i]:=by rw [Vo hg,ht]; simp
   have vi:v'.getD i 0=b[i]:=by rw [p3 i (by omega),if_neg (by omega),hag i (by omega) ht,hgd]
   simp only
   rw [et]
   by_cases h0:totP b S i=0
   · rw [hd,h0,if_neg (by omega),if_neg (by omega)]
     refine ⟨v',p1,p2,fun j hj=>?_,.inr ⟨i,by omega,ht,rfl⟩⟩
     rw [p3 j hj,h0]
     by_cases hj2:j=i
     · subst hj2; rw [if_neg (by omega),if_pos ⟨by omega,ht⟩,if_pos rfl,hag j hj ht,hgd]; omega
     · by_cases hc:j<i∧S.testBit j=true
       · rw [if_pos hc,if_pos (show j<i+1∧S.testBit j=true from ⟨by omega,hc.2⟩),if_neg (show ¬ (j:Int)=(i:Int) by omega)]; split <;> rfl
       · rw [if_neg hc,if_neg (fun h=>hc ⟨by omega,h.2⟩)]
   · obtain ⟨k,k1,k2,k3⟩:∃ k,k<i∧S.testBit k=true∧(chP b S i).2.1=(k:Int):=by
      rcases p4 with ⟨q1,q2⟩ | q
      · exact absurd (Ww q2) h0
      · exact q
     have vk:v'.getD k 0=totP b S i:=by rw [p3 k (by omega),if_pos ⟨k1,k2⟩,if_pos k3.symm]
     have fin:∀ (x:Pay),WF (b.length:Int) x=true→(∀ j,j<b.length→(yq v' x).getD j 0=if j=i then totP b S i+b[i] else if j=k then 0 else v'.getD j 0) →
      ∃ v'',Xc (b.length:Int) ((chP b S i).2.2++[x]) v=some v''∧v''.length=b.length ∧
       (∀ j,j<b.length→v''.getD j 0=if j<i+1∧S.testBit j=true then (if (j:Int)=(i:Int) then totP b S i+b[i] else 0) else v.getD j 0) ∧
       (((i:Int)=-1∧∀ j,j<i+1→S.testBit j=false) ∨ ∃ k,k<i+1∧S.testBit k=true∧(i:Int)=(k:Int)):=fun x hx hd2=>by
      refine ⟨yq v' x,by rw [VH,p1]; show Xc _ [x] v'=_; rw [Xc,if_pos hx]; rfl,by rw [payDo_len,p2],fun j hj=>?_,.inr ⟨i,by omega,ht,rfl⟩⟩
      rw [hd2 j hj]
      by_cases hj2:j=i
      · subst hj2; rw [if_pos rfl,if_pos ⟨by omega,ht⟩,if_pos rfl]
      · rw [if_neg hj2]
        by_cases hj3:j=k
        · subst hj3; rw [if_pos rfl,if_pos ⟨by omega,k2⟩,if_neg (by omega)]
        · rw [if_neg hj3,p3 j hj]
          by_cases hc:j<i∧S.testBit j=true
          · rw [if_pos hc,if_pos (show j<i+1∧S.testBit j=true from ⟨by omega,hc.2⟩),if_neg (by omega),if_neg (by omega)]
          · rw [if_neg hc,if_neg (fun h=>hc ⟨by omega,h.2⟩)]
     rw [hd,k3]
     by_cases hneg:totP b S i<0
     · rw [if_pos hneg]
       refine fin ⟨(k:Int),(i:Int),0 - totP b S i⟩ (of_payOk ⟨by simp,by simp only; omega⟩ ⟨by simp,by simp only; omega⟩ (by simp only; omega) ⟨by simp only; omega,by simp only; omega⟩) fun j hj=>?_
       rw [WG (by simp only [Int.toNat_natCast]; omega) (by simp only [Int.toNat_natCast]; omega)]
       simp only [Int.toNat_natCast]
       rw [if_neg (show ¬ i=k by omega),vi,vk]
       by_cases e1:j=i
       · rw [if_pos e1,if_pos e1]; omega
       · rw [if_neg e1,if_neg e1]
         by_cases e2:j=k
         · rw [if_pos e2,if_pos e2]; omega
         · rw [if_neg e2,if_neg e2]
     · rw [if_neg hneg,if_pos (by omega)]
       refine fin ⟨(i:Int),(k:Int),totP b S i⟩ (of_payOk ⟨by simp,by simp only; omega⟩ ⟨by simp,by simp only; omega⟩ (by simp only; omega) ⟨by simp only; omega,by simp only; omega⟩) fun j hj=>?_
       rw [WG (by simp only [Int.toNat_natCast]; omega) (by simp only [Int.toNat_natCast]; omega)]
       simp only [Int.toNat_natCast]
       rw [if_neg (show ¬ k=i by omega),vi,vk]
       by_cases e1:j=i
       · rw [if_neg (by omega),if_pos e1,if_pos e1]; omega
       · rw [if_neg e1]
         by_cases e2:j=k
         · rw [if_pos e2,if_pos e2]; omega
         · rw [if_neg e2,if_neg e1,if_neg e2]
theorem qn {b:List Int} {S:Nat}:∀ i,i≤b.length→(chP b S i).2.2.length≤(memS i S).length - 1
 | 0,_=>by simp [chP]
 | i+1,hi=>by
  have ih:=qn (b:=b) (S:=S) i (by omega)
  have hg:b[i]?=some b[i]:=List.getElem?_eq_getElem (by omega)
  have hd:=yK (b:=b) (S:=S) i (by omega)
  rw [yI hg,We]
  have hm:memS (i+1) S=memS i S++if S.testBit i=true then [i] else []:=by
   unfold memS
   rw [List.range_succ,List.filter_append]
   cases h:S.testBit i <;> simp [h]
  rw [hm,List.length_append]
  split
  · rename_i ht
    have hpos:totP b S i ≠ 0→1≤(memS i S).length:=fun h=>by
     rcases Nat.eq_zero_or_pos (memS i S).length with h0 | h0
     · refine absurd ?_ h
       have:memS i S=[]:=List.eq_nil_of_length_eq_zero h0
       exact Ww fun j hj=>by
        cases hb:S.testBit j with
        | false=>rfl
        | true=>have:=YT.2 ⟨hj,hb⟩; rw [‹memS i S=[]›] at this; simp at this
     · exact h0
    simp only
    rw [hd]
    split
    · rename_i h; have:=hpos (by omega); simp; omega
    · split
      · rename_i h; have:=hpos (by omega); simp; omega
      · simp; omega
  · simp; omega
/-- Settle's payments for a set. -/
theorem qG {b:List Int}:∀ {n S:Nat} {v:List Int},S<n→Yq b (S:Int)→totN b S=0→v.length=b.length→(∀ j,j<b.length→S.testBit j=true→v.getD j 0=b.getD j 0) →
 (∃ v',Xc (b.length:Int) (QM b n S) v=some v'∧v'.length=b.length∧∀ j,j<b.length→v'.getD j 0=if S.testBit j=true then 0 else v.getD j 0)∧(QM b n S).length+Int.toNat (Xd b S)≤(memS b.length S).length
 | 0,S,v,h,_,_,_,_=>by omega
 | n+1,S,v,h,hin,ht,hv,hag=>by
  rw [QM]
  by_cases h0:S=0
  · subst h0
    rw [if_pos rfl]
    exact ⟨⟨v,rfl,hv,fun j _=>by simp⟩,by simp [VL,WN]⟩
  rw [if_neg h0]
  obtain ⟨x,x1,x2,x3⟩:=WD hin h0 ht
  rw [x1]
  simp only
  have hp:=Xa x2
  have hw:=QK hp.1
  obtain ⟨x',y1,y2,y3,y4⟩:=part_in hin x2
  have:x=x':=by omega
  subst this
  have bit:∀ j,x.testBit j=true→S.testBit j=true:=fun j hj=>by
   have:(x.testBit j && S.testBit j)=x.testBit j:=by rw [← Nat.testBit_and,hp.1]
   rw [hj,Bool.true_and] at this; exact this
  obtain ⟨v1,q1,q2,q3,q4⟩:=ya (S:=x) y3 y4 hv (fun j hj hb=>hag j hj (bit j hb)) b.length (Nat.le_refl _)
  have hx0:totP b x b.length=0:=hp.2.2.2
  have q5:∀ j,j<b.length→v1.getD j 0=if x.testBit j=true then 0 else v.getD j 0:=fun j hj=>by
   rw [q3 j hj,hx0]
   by_cases hb:x.testBit j=true
   · rw [if_pos ⟨hj,hb⟩,if_pos hb]; split <;> rfl
   · rw [if_neg (fun h=>hb h.2),if_neg hb]
  obtain ⟨⟨v2,r1,r2,r3⟩,r4⟩:=qG (b:=b) (n:=n) (S:=without S x) (v:=v1) (by omega) (YO hin) (Vg hp.1 ht hp.2.2.2) q2 (fun j hj hb=>by
   rw [Xe,Bool.and_eq_true,Bool.not_eq_true'] at hb
   rw [q5 j hj,if_neg (by rw [hb.2]; simp)]; exact hag j hj hb.1)
  refine ⟨⟨v2,?_,r2,fun j hj=>?_⟩,?_⟩
  · show Xc _ ((chP b x b.length).2.2++_) v=_
    rw [VH,q1]; exact r1
  · rw [r3 j hj,q5 j hj,Xe]
    cases hx:x.testBit j with
    | true=>rw [bit j hx]; simp
    | false=>simp
  · have c1:=qn (b:=b) (S:=x) b.length (Nat.le_refl _)
    have c2:=WT (fun i=>x.testBit i) (memS b.length S)
    rw [memS_part hp.1,WO] at c2
    obtain ⟨i,i1,i2⟩:=part_ne (S:=S) y2 hp.2.1
    have c3:1≤(memS b.length x).length:=List.length_pos_iff.2 fun e=>by
     have:=YT.2 ⟨i1,i2⟩
     rw [e] at this; simp at this
    have c4:=(YS (b:=b) (without S x)).1
    rw [List.length_append]
    show (chP b x b.length).2.2.length+_+_≤_
    omega
end Go.Proofs.Ytmdbebbibecidaa
namespace Go.Proofs.Ytmdbebbibecidaa
open Go Ax
open Go.Proofs
/-! ### people by their places -/
/-! ### one after the other -/
def dF (l:List Int):Nat→Nat→Nat
 | 0,_=>0
 | f+1,S=>if S=0 then 0 else ((memS l.length S).foldl (fun a i=>Nat.max a (dF l f (S - 2 ^ i))) 0)+(if totN l S=0 then 1 else 0)
def dN (l:List Int) (S:Nat):Nat:=dF l (S+1) S
/-! ### how many payments -/
theorem few_of {b:List Int} (he:QP b=0):(QM b 1024 (setB b b.length)).length+Int.toNat (Xd b (setB b b.length))=yL b∧2*Int.toNat (Xd b (setB b b.length))≤yL b∧(1≤yL b→1≤Int.toNat (Xd b (setB b b.length))) ∧
 ∃ v,Xc (b.length:Int) (QM b 1024 (setB b b.length)) b=some v∧v.length=b.length∧∀ j,j<b.length→v.getD j 0=0:=by
 obtain ⟨h1,h2⟩:=Yb he
 have hin:=setB_in h1
 have ht:=yn h2
 have hl:=(bal_in h1).1
 have hS:setB b b.length<1024:=Vb hl VC
 obtain ⟨⟨v,q1,q2,q3⟩,q4⟩:=qG (n:=1024) hS hin ht rfl (fun j _ _=>rfl)
 have hz:∀ j,j<b.length→v.getD j 0=0:=fun j hj=>by
  rw [q3 j hj]
  split
  · rfl
  · rename_i h
    rw [YR,decide_eq_true hj,Bool.true_and] at h
    simpa using h
 have lo:=pay_least hl ht q1 hz
 have hm:=most_is hl (setB b b.length) VC ht
 have hg:=(hm _).2 (Nat.le_refl _)
 have hv:∀ i ∈ memS b.length (setB b b.length),vB b i ≠ 0:=fun i hi=>by
  have:=(YT.1 hi).2
  rw [YR,Bool.and_eq_true] at this
  exact of_decide_eq_true this.2
 refine ⟨by unfold yL at *; omega,grp_two hv hg,fun hc=>?_,v,q1,q2,hz⟩
 have hS0:setB b b.length ≠ 0:=fun e=>by
  unfold yL at hc
  rw [e,WN] at hc
  simp at hc
 obtain ⟨x,x1,x2,x3⟩:=WD hin hS0 ht
 have:=(YS (b:=b) (without (setB b b.length) x)).1
 omega
end Go.Proofs.Ytmdbebbibecidaa
namespace Go.Proofs.Ytmdbebbibecidaa
open Go Ax
open Go.Proofs
theorem memS_succ {S i:Nat}:memS (i+1) S=memS i S++if S.testBit i=true then [i] else []:=by
 unfold memS
 rw [List.range_succ,List.filter_append]
 cases h:S.testBit i <;> simp [h]
/-- The table: what lies before a set is right,behind it is 0. -/
structure TabOk (l:List Int) (v:List Int) (S:Nat) (x:Nat):Prop where
 len:v.length=2 ^ l.length
 lo:∀ s,s<S→v[s]?=some ((dN l s:Nat):Int)
 at_:S<2 ^ l.length→v[S]?=some (x:Int)
 hi:∀ s,S<s→s<2 ^ l.length→v[s]?=some 0
theorem TabOk.set {l v:List Int} {S x y:Nat} (h:TabOk l v S x) (hS:S<2 ^ l.length):TabOk l (v.set S (y:Int)) S y:=by
 have hl:=h.len
 refine ⟨by rw [List.length_set]; exact hl,fun s hs=>?_,fun _=>List.getElem?_set_self (by omega),fun s hs h2=>?_⟩
 · rw [List.getElem?_set_ne (by omega)]; exact h.lo s hs
 · rw [List.getElem?_set_ne (by omega)]; exact h.hi s hs h2
theorem TabOk.next {l v:List Int} {S:Nat} (h:TabOk l v S (dN l S)) (hS:S<2 ^ l.length):TabOk l v (S+1) 0:=by
 refine ⟨h.len,fun s hs=>?_,fun h2=>h.hi _ (by omega) h2,fun s hs h2=>h.hi s (by omega) h2⟩
 by_cases e:s=S
 · subst e; exact h.at_ hS
 · exact h.lo s (by omega)
end Go.Proofs.Ytmdbebbibecidaa
namespace Go.Proofs.Ytmdbebbibecidaa
open Go Ax
open Go.Proofs
/-- Whether payments settle balances. -/
def Qz (b:List Int) (l:List Pay):Bool:=decide ((payK b l).2=0) && (decide ((payK b l).1.length=b.length) && (payK b l).1.all fun e=>decide (e=0))
theorem payK_of {b:List Int} {l:List Pay} {v:List Int} (hb:balB b=true) (hl:l.length≤60) (h:Xc (b.length:Int) l b=some v):payK b l=(v,0):=by
 rw [payK,if_neg (by rw [hb]; simp),if_neg (by omega),h]; rfl
theorem payK_zero {b:List Int} {l:List Pay} (h:(payK b l).2=0):Xc (b.length:Int) l b=some (payK b l).1:=by
 unfold payK at h ⊢
 split at h
 · cases h
 · rename_i h1
   split at h
   · cases h
   · rename_i h2
     rw [if_neg h1,if_neg h2]
     cases hp:Xc (b.length:Int) l b with
     | none=>rw [hp] at h; cases h
     | some v=>rfl
theorem cardB_le {b:List Int}:yL b≤b.length:=by
 have:=List.length_filter_le (fun i=>(setB b b.length).testBit i) (List.range b.length)
 rw [List.length_range] at this
 exact this
/-- Settle's payments settle. -/
theorem setld_own {b:List Int} (he:QP b=0):Qz b (QM b 1024 (setB b b.length))=true:=by
 obtain ⟨k1,k2,k3,v,v1,v2,v3⟩:=few_of he
 have hb:=(Yb he).1
 have hl:=(bal_in hb).1
 have hc:=cardB_le (b:=b)
 unfold Qz
 rw [payK_of hb (by omega) v1,decide_eq_true rfl,decide_eq_true v2,Bool.true_and,Bool.true_and,List.all_eq_true]
 intro e hm
 obtain ⟨i,hi,rfl⟩:=List.getElem_of_mem hm
 have hi:i<v.length:=hi
 have:=v3 i (by omega)
 rw [List.getD,List.getElem?_eq_getElem hi] at this
 exact decide_eq_true this
/-- None settle with fewer. -/
theorem setld_least {b:List Int} {l:List Pay} (he:QP b=0) (h:Qz b l=true):(QM b 1024 (setB b b.length)).length≤l.length:=by
 obtain ⟨k1,-⟩:=few_of he
 unfold Qz at h
 simp only [Bool.and_eq_true,decide_eq_true_eq,List.all_eq_true] at h
 obtain ⟨h1,h2,h3⟩:=h
 have hz:∀ i,i<b.length→(payK b l).1.getD i 0=0:=fun i hi=>by
  rw [List.getD,List.getElem?_eq_getElem (by omega)]
  exact h3 _ (List.getElem_mem _)
 have:=pay_least (bal_in (Yb he).1).1 (yn (Yb he).2) (payK_zero h1) hz
 omega
/-- So many of the first ones are not 0. -/
def opnN (b:List Int) (i:Nat):Nat:=(memS i (setB b b.length)).length
theorem opnN_step {b:List Int} {i:Nat} {e:Int} (h:b[i]?=some e):opnN b (i+1)=if e=0 then opnN b i else opnN b i+1:=by
 have hi:=(List.getElem?_eq_some_iff.1 h).1
 unfold opnN
 rw [memS_succ,YR,decide_eq_true hi,Bool.true_and,List.getD,h]
 by_cases h0:e=0
 · rw [if_pos h0]; simp [h0]
 · rw [if_neg h0]; simp [h0]
theorem opnN_le {b:List Int} {i:Nat}:opnN b i≤i:=by
 have:=List.length_filter_le (fun x=>(setB b b.length).testBit x) (List.range i)
 rw [List.length_range] at this
 exact this
theorem f37b:Try.f37.body=some (Qa Try.prog 37):=by kernel_rfl
theorem u37 {a c k:List AV} {r:AV} (h:Pure Try.prog 37 (a++c++k) r):Qf Try.prog (.clos 37 a k) c r:=Qn Try.func37 (by kernel_rfl) f37b h
def f37K0 (P:Program):List Item:=kAt 400 [.code (Qa P 37)] [.b false,.stop]
def f37S0 (b:(List Int)) (l:(List Pay)) (i:Nat):St:=⟨(jj 5 ([.rsl (rowI ((payK b l).1)) 0 (((payK b l).1).length),J,.int .i64 (i:Int)]++Js 26)),[]⟩
def f37G0 (E:Env) (b:(List Int)) (l:(List Pay)) (i:Nat):Prop:=G Try.prog E (f37K0 Try.prog) (f37S0 b l i )
abbrev z37_1 (b:(List Int)) (l:(List Pay)):AV:=.tup [.rsl (rowI ((payK b l).1)) 0 (((payK b l).1).length),.int .i64 ((payK b l).2)]
abbrev z37_2 (b:(List Int)) (l:(List Pay)):List AV:=[.rsl (rowI b) 0 b.length,.rsl (Qk l) 0 l.length]
theorem p37_start_0 (b:(List Int)) (l:(List Pay)) {E:Env} {res:AV} (hE:Qd Try.prog 37 res E) (ho:AllP [Qf Try.prog (.clos 30 [] []) (z37_2 b l) (z37_1 b l),((payK b l).2 != 0)=true,true=true])
 (hr:AvLe (.bool false) res):G Try.prog E [.code (Qa Try.prog 37)] ⟨(z37_2 b l)++unds (Try.f37.ntmps - 2),[]⟩ :=
 Qb (n:=400) (evs:=[.v (z37_1 b l),.b true,.b true]) (obs:=_) hE Try.func37 Qg (by kernel_rfl) ho hr
theorem p37_start_1 (b:(List Int)) (l:(List Pay)) {E:Env} {res:AV} (hE:Qd Try.prog 37 res E) (ho:AllP [Qf Try.prog (.clos 30 [] []) (z37_2 b l) (z37_1 b l),((payK b l).2 != 0)=false,(((((payK b l).1).length:Nat):Int) != (b.length:Int))=true])
 (hr:AvLe (.bool false) res):G Try.prog E [.code (Qa Try.prog 37)] ⟨(z37_2 b l)++unds (Try.f37.ntmps - 2),[]⟩ :=
 Qb (n:=400) (evs:=[.v (z37_1 b l),.b false,.b true]) (obs:=_) hE Try.func37 Qg (by kernel_rfl) ho hr
theorem p37_start_2 (b:(List Int)) (l:(List Pay)) {E:Env} {rv:AV} (hE:Qd Try.prog 37 rv E) (ho:AllP [Qf Try.prog (.clos 30 [] []) (z37_2 b l) (z37_1 b l),((payK b l).2 != 0)=false,(((((payK b l).1).length:Nat):Int) != (b.length:Int))=false])
 (hg:G Try.prog E (f37K0 Try.prog) ⟨(jj 5 ([.rsl (rowI ((payK b l).1)) 0 (((payK b l).1).length),J,.int .i64 0]++Js 26)),[]⟩):G Try.prog E [.code (Qa Try.prog 37)] ⟨(z37_2 b l)++unds (Try.f37.ntmps - 2),[]⟩ :=
 Qe (n:=400) (ds:=[]) (cs:=[]) (live:=[5,7]) (m:=0) (evs:=[.v (z37_1 b l),.b false,.b false,.stop]) (obs:=_) hE.2.1 (hE.nogh _) Qg (by kernel_rfl) ho hg
theorem f37W (b:(List Int)) (l:(List Pay)) {E:Env} {rv:Bool} (hE:Qd Try.prog 37 (.bool rv) E)
 (h:((b.length≤9223372036854775807)∧((¬ ((payK b l).2=0)→rv=false)∧((payK b l).2=0→((¬ (((((payK b l).1).length:Nat):Int)=(b.length:Int))→rv=false)∧(((((payK b l).1).length:Nat):Int)=(b.length:Int)→f37G0 E b l 0)))))):G Try.prog E [.code (Qa Try.prog 37)] ⟨[.rsl (rowI b) 0 b.length,.rsl (Qk l) 0 l.length]++unds (Try.f37.ntmps - 2),[]⟩:=by
 obtain ⟨h1,h⟩:=h
 rcases bft ((payK b l).2 != 0) with hc0 | hc0
 · have h:=h.1 (bneT hc0)
   exact p37_start_0 b l hE ⟨(u30 (PayP_ok b l h1)),hc0,rfl,trivial⟩ (AvLe.of_eq (by rw [h]; try rfl))
 · have h:=h.2 (bneF hc0)
   rcases bft (((((payK b l).1).length:Nat):Int) != (b.length:Int)) with hc1 | hc1
   · have h:=h.1 (bneT hc1)
     exact p37_start_1 b l hE ⟨(u30 (PayP_ok b l h1)),hc0,hc1,trivial⟩ (AvLe.of_eq (by rw [h]; try rfl))
   · have h:=h.2 (bneF hc1)
     exact p37_start_2 b l hE ⟨(u30 (PayP_ok b l h1)),hc0,hc1,trivial⟩ h
theorem p37_0_0 (b:(List Int)) (l:(List Pay)) (i:Nat) (e:Int) {E:Env} {res:AV} (hE:Qd Try.prog 37 res E) (ho:AllP [(decide ((i:Int)<((((payK b l).1).length:Nat):Int)))=true,0≤(i:Int)∧(i:Int)<((((payK b l).1).length:Nat):Int),((rowI ((payK b l).1)).drop (0+(Int.toNat (i:Int))*1)).take 1=[.int .i64 e],(e != 0)=true])
 (hr:AvLe (.bool false) res):G Try.prog E (f37K0 Try.prog) (f37S0 b l i ) :=
 Qb (n:=400) (evs:=[.b true,.ld (.int .i64 e),.b true]) (obs:=_) hE Try.func37 Qg (by kernel_rfl) ho hr
theorem p37_0_1 (b:(List Int)) (l:(List Pay)) (i:Nat) (e:Int) {E:Env} {rv:AV} (hE:Qd Try.prog 37 rv E) (ho:AllP [(decide ((i:Int)<((((payK b l).1).length:Nat):Int)))=true,0≤(i:Int)∧(i:Int)<((((payK b l).1).length:Nat):Int),((rowI ((payK b l).1)).drop (0+(Int.toNat (i:Int))*1)).take 1=[.int .i64 e],(e != 0)=false,InR .i64 ((i:Int)+1)])
 (hg:G Try.prog E (f37K0 Try.prog) ⟨(jj 5 ([.rsl (rowI ((payK b l).1)) 0 (((payK b l).1).length),J,.int .i64 ((i:Int)+1)]++Js 26)),[]⟩):G Try.prog E (f37K0 Try.prog) (f37S0 b l i ) :=
 Qe (n:=400) (ds:=[]) (cs:=[]) (live:=[5,7]) (m:=0) (evs:=[.b true,.ld (.int .i64 e),.b false,.stop]) (obs:=_) hE.2.1 (hE.nogh _) Qg (by kernel_rfl) ho hg
theorem p37_0_2 (b:(List Int)) (l:(List Pay)) (i:Nat) {E:Env} {res:AV} (hE:Qd Try.prog 37 res E) (ho:AllP [(decide ((i:Int)<((((payK b l).1).length:Nat):Int)))=false])
 (hr:AvLe (.bool true) res):G Try.prog E (f37K0 Try.prog) (f37S0 b l i ) :=
 Qb (n:=400) (evs:=[.b false]) (obs:=_) hE Try.func37 Qg (by kernel_rfl) ho hr
theorem f37W0 (b:(List Int)) (l:(List Pay)) (i:Nat) {E:Env} {rv:Bool} (hE:Qd Try.prog 37 (.bool rv) E)
 (h:(((i:Int)<((((payK b l).1).length:Nat):Int)→(∃ e:Int,((payK b l).1)[i]?=some e∧((¬ (e=0)→rv=false)∧(e=0→((I6 ((i:Int)+1))∧f37G0 E b l (i+1))))))∧(¬ ((i:Int)<((((payK b l).1).length:Nat):Int))→rv=true))):f37G0 E b l i:=by
 rcases bft (decide ((i:Int)<((((payK b l).1).length:Nat):Int))) with hc0 | hc0
 · have h:=h.1 (odt hc0)
   obtain ⟨e,h1,h⟩:=h
   rcases bft (e != 0) with hc1 | hc1
   · have h:=h.1 (bneT hc1)
     exact p37_0_0 b l i e hE ⟨hc0,(Qy h1),(rp cI 1 0 1 h1),hc1,trivial⟩ (AvLe.of_eq (by rw [h]; try rfl))
   · have h:=h.2 (bneF hc1)
     obtain ⟨q5_2,h⟩:=h
     exact p37_0_1 b l i e hE ⟨hc0,(Qy h1),(rp cI 1 0 1 h1),hc1,q5_2,trivial⟩ h
 · have h:=h.2 (odf hc0)
   exact p37_0_2 b l i hE ⟨hc0,trivial⟩ (AvLe.of_eq (by rw [h]; try rfl))
theorem Xz (b:List Int) (l:List Pay) (h:b.length≤9223372036854775807):Pure Try.prog 37 [.rsl (rowI b) 0 b.length,.rsl (Qk l) 0 l.length] (.bool (Qz b l)):=Qt Try.func37 f37b fun E hE=>by
 refine f37W b l (rv:=Qz b l) hE ⟨h,fun e=>by rw [Qz,decide_eq_false e]; rfl,fun e=>⟨fun e2=>by rw [Qz,decide_eq_true e,decide_eq_false (by omega)]; rfl,fun e2=>?_⟩⟩
 have e0:Qz b l=(payK b l).1.all fun e=>decide (e=0):=by rw [Qz,decide_eq_true e,decide_eq_true (by omega)]; rfl
 have key:∀ (d i:Nat),i+d=(payK b l).1.length→Qz b l=((payK b l).1.drop i).all (fun e=>decide (e=0))→f37G0 E b l i:=by
  intro d
  induction d with
  | zero =>
   intro i hd hall
   rw [List.drop_eq_nil_of_le (by omega)] at hall
   exact f37W0 b l i (rv:=Qz b l) hE ⟨fun h=>by omega,fun _=>hall⟩
  | succ d ih =>
   intro i hd hall
   have hi:(payK b l).1[i]?=some (payK b l).1[i]:=List.getElem?_eq_getElem (by omega)
   rw [List.drop_eq_getElem_cons (by omega),List.all_cons] at hall
   refine f37W0 b l i (rv:=Qz b l) hE ⟨fun _=>⟨_,hi,fun h0=>by rw [hall,decide_eq_false h0]; rfl,fun h0=>⟨by omega,ih (i+1) (by omega) ?_⟩⟩,fun h=>by omega⟩
   rw [hall,decide_eq_true h0]; rfl
 exact key (payK b l).1.length 0 (by omega) e0
theorem f14b:Try.f14.body=some (Qa Try.prog 14):=by kernel_rfl
def VM (P:Program):List Item:=kAt 400 [.code (Qa P 14)] [.b false,.stop]
def qB (b:(List Int)) (l:(List Pay)) (open_:Nat) (i:Nat):St:=⟨([.rsl (rowI b) 0 b.length,.rsl (Qk l) 0 l.length,J,J,J,.int .i64 ((fewK b).1),J,.rsl (Qk ((Qh b).1)) 0 (((Qh b).1).length),J,.int .i64 (open_:Int),.int .i64 (i:Int)]++Js 71),[]⟩
def f14G0 (E:Env) (b:(List Int)) (l:(List Pay)) (open_:Nat) (i:Nat):Prop:=G Try.prog E (VM Try.prog) (qB b l open_ i )
abbrev qv (b:(List Int)):AV:=.tup [.rsl (Qk ((Qh b).1)) 0 (((Qh b).1).length),.int .i64 ((Qh b).2)]
abbrev qu (b:(List Int)):AV:=.tup [.int .i64 ((fewK b).1),.int .i64 ((fewK b).2)]
abbrev z14_3 (b:(List Int)) (l:(List Pay)):List AV:=[.rsl (rowI b) 0 b.length,.rsl (Qk l) 0 l.length]
abbrev z14_4 (b:(List Int)):List AV:=[.rsl (rowI b) 0 b.length,.rsl (Qk ((Qh b).1)) 0 (((Qh b).1).length)]
theorem p14_start_0 (b:(List Int)) (l:(List Pay)) {E:Env} {res:AV} (hE:Qd Try.prog 14 res E) (ho:AllP [Qf Try.prog (.clos 34 [] []) [.rsl (rowI b) 0 b.length] (qu b),Qf Try.prog (.clos 36 [] []) [.rsl (rowI b) 0 b.length] (qv b),((fewK b).2 != 0)=true,true=true,((fewK b).2 == (Qh b).2)=true,Qf Try.prog (.clos 20 [] []) [] (.bool true)])
 (hr:AvLe (.bool true) res):G Try.prog E [.code (Qa Try.prog 14)] ⟨(z14_3 b l)++unds (Try.f14.ntmps - 2),[]⟩ :=
 Qb (n:=400) (evs:=[.v (qu b),.v (qv b),.b true,.b true,.b true,.v (.bool true)]) (obs:=_) hE Try.func14 Qg (by kernel_rfl) ho hr
theorem p14_start_1 (b:(List Int)) (l:(List Pay)) {E:Env} {res:AV} (hE:Qd Try.prog 14 res E) (ho:AllP [Qf Try.prog (.clos 34 [] []) [.rsl (rowI b) 0 b.length] (qu b),Qf Try.prog (.clos 36 [] []) [.rsl (rowI b) 0 b.length] (qv b),((fewK b).2 != 0)=true,true=true,((fewK b).2 == (Qh b).2)=false])
 (hr:AvLe (.bool false) res):G Try.prog E [.code (Qa Try.prog 14)] ⟨(z14_3 b l)++unds (Try.f14.ntmps - 2),[]⟩ :=
 Qb (n:=400) (evs:=[.v (qu b),.v (qv b),.b true,.b true,.b false]) (obs:=_) hE Try.func14 Qg (by kernel_rfl) ho hr
theorem p14_start_2 (b:(List Int)) (l:(List Pay)) {E:Env} {res:AV} (hE:Qd Try.prog 14 res E) (ho:AllP [Qf Try.prog (.clos 34 [] []) [.rsl (rowI b) 0 b.length] (qu b),Qf Try.prog (.clos 36 [] []) [.rsl (rowI b) 0 b.length] (qv b),((fewK b).2 != 0)=false,((Qh b).2 != 0)=true,((fewK b).2 == (Qh b).2)=true,Qf Try.prog (.clos 20 [] []) [] (.bool true)])
 (hr:AvLe (.bool true) res):G Try.prog E [.code (Qa Try.prog 14)] ⟨(z14_3 b l)++unds (Try.f14.ntmps - 2),[]⟩ :=
 Qb (n:=400) (evs:=[.v (qu b),.v (qv b),.b false,.b true,.b true,.v (.bool true)]) (obs:=_) hE Try.func14 Qg (by kernel_rfl) ho hr
theorem p14_start_3 (b:(List Int)) (l:(List Pay)) {E:Env} {res:AV} (hE:Qd Try.prog 14 res E) (ho:AllP [Qf Try.prog (.clos 34 [] []) [.rsl (rowI b) 0 b.length] (qu b),Qf Try.prog (.clos 36 [] []) [.rsl (rowI b) 0 b.length] (qv b),((fewK b).2 != 0)=false,((Qh b).2 != 0)=true,((fewK b).2 == (Qh b).2)=false])
 (hr:AvLe (.bool false) res):G Try.prog E [.code (Qa Try.prog 14)] ⟨(z14_3 b l)++unds (Try.f14.ntmps - 2),[]⟩ :=
 Qb (n:=400) (evs:=[.v (qu b),.v (qv b),.b false,.b true,.b false]) (obs:=_) hE Try.func14 Qg (by kernel_rfl) ho hr
theorem p14_start_4 (b:(List Int)) (l:(List Pay)) {E:Env} {rv:AV} (hE:Qd Try.prog 14 rv E) (ho:AllP [Qf Try.prog (.clos 34 [] []) [.rsl (rowI b) 0 b.length] (qu b),Qf Try.prog (.clos 36 [] []) [.rsl (rowI b) 0 b.length] (qv b),((fewK b).2 != 0)=false,((Qh b).2 != 0)=false])
 (hg:G Try.prog E (VM Try.prog) ⟨([.rsl (rowI b) 0 b.length,.rsl (Qk l) 0 l.length,J,J,J,.int .i64 ((fewK b).1),J,.rsl (Qk ((Qh b).1)) 0 (((Qh b).1).length),J,.int .i64 0,.int .i64 0]++Js 71),[]⟩):G Try.prog E [.code (Qa Try.prog 14)] ⟨(z14_3 b l)++unds (Try.f14.ntmps - 2),[]⟩ :=
 Qe (n:=400) (ds:=[]) (cs:=[]) (live:=[0,1,5,7,9,10]) (m:=0) (evs:=[.v (qu b),.v (qv b),.b false,.b false,.stop]) (obs:=_) hE.2.1 (hE.nogh _) Qg (by kernel_rfl) ho hg
theorem f14W (b:(List Int)) (l:(List Pay)) {E:Env} {rv:Bool} (hE:Qd Try.prog 14 (.bool rv) E)
 (h:((b.length≤9223372036854775807)∧((b.length≤9223372036854775807)∧((¬ ((fewK b).2=0)→(((fewK b).2=(Qh b).2→rv=true)∧(¬ ((fewK b).2=(Qh b).2)→rv=false)))∧((fewK b).2=0→((¬ ((Qh b).2=0)→(((fewK b).2=(Qh b).2→rv=true)∧(¬ ((fewK b).2=(Qh b).2)→rv=false)))∧((Qh b).2=0→f14G0 E b l 0 0))))))):G Try.prog E [.code (Qa Try.prog 14)] ⟨[.rsl (rowI b) 0 b.length,.rsl (Qk l) 0 l.length]++unds (Try.f14.ntmps - 2),[]⟩:=by
 obtain ⟨h1,h⟩:=h
 obtain ⟨h2,h⟩:=h
 rcases bft ((fewK b).2 != 0) with hc0 | hc0
 · have h:=h.1 (bneT hc0)
   rcases bft ((fewK b).2 == (Qh b).2) with hc1 | hc1
   · have h:=h.1 (eq_of_beq hc1)
     exact p14_start_0 b l hE ⟨(u34 (YM b h1)),(u36 (Yp b h2)),hc0,rfl,hc1,(u20 (Wo )),trivial⟩ (AvLe.of_eq (by rw [h]; try rfl))
   · have h:=h.2 (ne_of_beq_false hc1)
     exact p14_start_1 b l hE ⟨(u34 (YM b h1)),(u36 (Yp b h2)),hc0,rfl,hc1,trivial⟩ (AvLe.of_eq (by rw [h]; try rfl))
 · have h:=h.2 (bneF hc0)
   rcases bft ((Qh b).2 != 0) with hc1 | hc1
   · have h:=h.1 (bneT hc1)
     rcases bft ((fewK b).2 == (Qh b).2) with hc2 | hc2
     · have h:=h.1 (eq_of_beq hc2)
       exact p14_start_2 b l hE ⟨(u34 (YM b h1)),(u36 (Yp b h2)),hc0,hc1,hc2,(u20 (Wo )),trivial⟩ (AvLe.of_eq (by rw [h]; try rfl))
     · have h:=h.2 (ne_of_beq_false hc2)
       exact p14_start_3 b l hE ⟨(u34 (YM b h1)),(u36 (Yp b h2)),hc0,hc1,hc2,trivial⟩ (AvLe.of_eq (by rw [h]; try rfl))
   · have h:=h.2 (bneF hc1)
     exact p14_start_4 b l hE ⟨(u34 (YM b h1)),(u36 (Yp b h2)),hc0,hc1,trivial⟩ h
theorem p14_0_0 (b:(List Int)) (l:(List Pay)) (open_:Nat) (i:Nat) (e:Int) {E:Env} {rv:AV} (hE:Qd Try.prog 14 rv E) (ho:AllP [(decide ((i:Int)<(b.length:Int)))=true,0≤(i:Int)∧(i:Int)<(b.length:Int),((rowI b).drop (0+(Int.toNat (i:Int))*1)).take 1=[.int .i64 e],(e != 0)=true,InR .i64 ((open_:Int)+1),InR .i64 ((i:Int)+1)])
 (hg:G Try.prog E (VM Try.prog) ⟨([.rsl (rowI b) 0 b.length,.rsl (Qk l) 0 l.length,J,J,J,.int .i64 ((fewK b).1),J,.rsl (Qk ((Qh b).1)) 0 (((Qh b).1).length),J,.int .i64 ((open_:Int)+1),.int .i64 ((i:Int)+1)]++Js 71),[]⟩):G Try.prog E (VM Try.prog) (qB b l open_ i ) :=
 Qe (n:=400) (ds:=[]) (cs:=[]) (live:=[0,1,5,7,9,10]) (m:=0) (evs:=[.b true,.ld (.int .i64 e),.b true,.stop]) (obs:=_) hE.2.1 (hE.nogh _) Qg (by kernel_rfl) ho hg
theorem p14_0_1 (b:(List Int)) (l:(List Pay)) (open_:Nat) (i:Nat) (e:Int) {E:Env} {rv:AV} (hE:Qd Try.prog 14 rv E) (ho:AllP [(decide ((i:Int)<(b.length:Int)))=true,0≤(i:Int)∧(i:Int)<(b.length:Int),((rowI b).drop (0+(Int.toNat (i:Int))*1)).take 1=[.int .i64 e],(e != 0)=false,InR .i64 ((i:Int)+1)])
 (hg:G Try.prog E (VM Try.prog) ⟨([.rsl (rowI b) 0 b.length,.rsl (Qk l) 0 l.length,J,J,J,.int .i64 ((fewK b).1),J,.rsl (Qk ((Qh b).1)) 0 (((Qh b).1).length),J,.int .i64 (open_:Int),.int .i64 ((i:Int)+1)]++Js 71),[]⟩):G Try.prog E (VM Try.prog) (qB b l open_ i ) :=
 Qe (n:=400) (ds:=[]) (cs:=[]) (live:=[0,1,5,7,9,10]) (m:=0) (evs:=[.b true,.ld (.int .i64 e),.b false,.stop]) (obs:=_) hE.2.1 (hE.nogh _) Qg (by kernel_rfl) ho hg
theorem p14_0_2 (b:(List Int)) (l:(List Pay)) (open_:Nat) (i:Nat) {E:Env} {res:AV} (hE:Qd Try.prog 14 res E) (ho:AllP [(decide ((i:Int)<(b.length:Int)))=false,(((((Qh b).1).length:Nat):Int) != (fewK b).1)=true,true=true,true=true,true=true])
 (hr:AvLe (.bool false) res):G Try.prog E (VM Try.prog) (qB b l open_ i ) :=
 Qb (n:=400) (evs:=[.b false,.b true,.b true,.b true,.b true]) (obs:=_) hE Try.func14 Qg (by kernel_rfl) ho hr
theorem p14_0_3 (b:(List Int)) (l:(List Pay)) (open_:Nat) (i:Nat) {E:Env} {res:AV} (hE:Qd Try.prog 14 res E) (ho:AllP [(decide ((i:Int)<(b.length:Int)))=false,(((((Qh b).1).length:Nat):Int) != (fewK b).1)=false,InR .i64 ((open_:Int) - 1),(decide ((fewK b).1 > (iMax 0 ((open_:Int) - 1))))=true,true=true,true=true])
 (hr:AvLe (.bool false) res):G Try.prog E (VM Try.prog) (qB b l open_ i ) :=
 Qb (n:=400) (evs:=[.b false,.b false,.b true,.b true,.b true]) (obs:=_) hE Try.func14 Qg (by kernel_rfl) ho hr
theorem p14_0_4 (b:(List Int)) (l:(List Pay)) (open_:Nat) (i:Nat) {E:Env} {res:AV} (hE:Qd Try.prog 14 res E) (ho:AllP [(decide ((i:Int)<(b.length:Int)))=false,(((((Qh b).1).length:Nat):Int) != (fewK b).1)=false,InR .i64 ((open_:Int) - 1),(decide ((fewK b).1 > (iMax 0 ((open_:Int) - 1))))=false,InR .i64 (2*(fewK b).1),(decide ((2*(fewK b).1)<(open_:Int)))=true,true=true])
 (hr:AvLe (.bool false) res):G Try.prog E (VM Try.prog) (qB b l open_ i ) :=
 Qb (n:=400) (evs:=[.b false,.b false,.b false,.b true,.b true]) (obs:=_) hE Try.func14 Qg (by kernel_rfl) ho hr
theorem p14_0_5 (b:(List Int)) (l:(List Pay)) (open_:Nat) (i:Nat) {E:Env} {res:AV} (hE:Qd Try.prog 14 res E) (ho:AllP [(decide ((i:Int)<(b.length:Int)))=false,(((((Qh b).1).length:Nat):Int) != (fewK b).1)=false,InR .i64 ((open_:Int) - 1),(decide ((fewK b).1 > (iMax 0 ((open_:Int) - 1))))=false,InR .i64 (2*(fewK b).1),(decide ((2*(fewK b).1)<(open_:Int)))=false,Qf Try.prog (.clos 37 [] []) (z14_4 b) (.bool (Qz b ((Qh b).1))),(!(Qz b ((Qh b).1)))=true])
 (hr:AvLe (.bool false) res):G Try.prog E (VM Try.prog) (qB b l open_ i ) :=
 Qb (n:=400) (evs:=[.b false,.b false,.b false,.b false,.v (.bool (Qz b ((Qh b).1))),.b true]) (obs:=_) hE Try.func14 Qg (by kernel_rfl) ho hr
theorem p14_0_6 (b:(List Int)) (l:(List Pay)) (open_:Nat) (i:Nat) {E:Env} {res:AV} (hE:Qd Try.prog 14 res E) (ho:AllP [(decide ((i:Int)<(b.length:Int)))=false,(((((Qh b).1).length:Nat):Int) != (fewK b).1)=false,InR .i64 ((open_:Int) - 1),(decide ((fewK b).1 > (iMax 0 ((open_:Int) - 1))))=false,InR .i64 (2*(fewK b).1),(decide ((2*(fewK b).1)<(open_:Int)))=false,Qf Try.prog (.clos 37 [] []) (z14_4 b) (.bool (Qz b ((Qh b).1))),(!(Qz b ((Qh b).1)))=false,Qf Try.prog (.clos 37 [] []) (z14_3 b l) (.bool (Qz b l)),(!(Qz b l))=true,true=true,Qf Try.prog (.clos 20 [] []) [] (.bool true)])
 (hr:AvLe (.bool true) res):G Try.prog E (VM Try.prog) (qB b l open_ i ) :=
 Qb (n:=400) (evs:=[.b false,.b false,.b false,.b false,.v (.bool (Qz b ((Qh b).1))),.b false,.v (.bool (Qz b l)),.b true,.b true,.v (.bool true)]) (obs:=_) hE Try.func14 Qg (by kernel_rfl) ho hr
theorem p14_0_7 (b:(List Int)) (l:(List Pay)) (open_:Nat) (i:Nat) {E:Env} {res:AV} (hE:Qd Try.prog 14 res E) (ho:AllP [(decide ((i:Int)<(b.length:Int)))=false,(((((Qh b).1).length:Nat):Int) != (fewK b).1)=false,InR .i64 ((open_:Int) - 1),(decide ((fewK b).1 > (iMax 0 ((open_:Int) - 1))))=false,InR .i64 (2*(fewK b).1),(decide ((2*(fewK b).1)<(open_:Int)))=false,Qf Try.prog (.clos 37 [] []) (z14_4 b) (.bool (Qz b ((Qh b).1))),(!(Qz b ((Qh b).1)))=false,Qf Try.prog (.clos 37 [] []) (z14_3 b l) (.bool (Qz b l)),(!(Qz b l))=false,(decide ((l.length:Int)≥(fewK b).1))=true,Qf Try.prog (.clos 20 [] []) [] (.bool true)])
 (hr:AvLe (.bool true) res):G Try.prog E (VM Try.prog) (qB b l open_ i ) :=
 Qb (n:=400) (evs:=[.b false,.b false,.b false,.b false,.v (.bool (Qz b ((Qh b).1))),.b false,.v (.bool (Qz b l)),.b false,.b true,.v (.bool true)]) (obs:=_) hE Try.func14 Qg (by kernel_rfl) ho hr
theorem p14_0_8 (b:(List Int)) (l:(List Pay)) (open_:Nat) (i:Nat) {E:Env} {res:AV} (hE:Qd Try.prog 14 res E) (ho:AllP [(decide ((i:Int)<(b.length:Int)))=false,(((((Qh b).1).length:Nat):Int) != (fewK b).1)=false,InR .i64 ((open_:Int) - 1),(decide ((fewK b).1 > (iMax 0 ((open_:Int) - 1))))=false,InR .i64 (2*(fewK b).1),(decide ((2*(fewK b).1)<(open_:Int)))=false,Qf Try.prog (.clos 37 [] []) (z14_4 b) (.bool (Qz b ((Qh b).1))),(!(Qz b ((Qh b).1)))=false,Qf Try.prog (.clos 37 [] []) (z14_3 b l) (.bool (Qz b l)),(!(Qz b l))=false,(decide ((l.length:Int)≥(fewK b).1))=false])
 (hr:AvLe (.bool false) res):G Try.prog E (VM Try.prog) (qB b l open_ i ) :=
 Qb (n:=400) (evs:=[.b false,.b false,.b false,.b false,.v (.bool (Qz b ((Qh b).1))),.b false,.v (.bool (Qz b l)),.b false,.b false]) (obs:=_) hE Try.func14 Qg (by kernel_rfl) ho hr
theorem f14W0 (b:(List Int)) (l:(List Pay)) (open_:Nat) (i:Nat) {E:Env} {rv:Bool} (hE:Qd Try.prog 14 (.bool rv) E)
 (h:(((i:Int)<(b.length:Int)→(∃ e:Int,b[i]?=some e∧((¬ (e=0)→((I6 ((open_:Int)+1))∧((I6 ((i:Int)+1))∧f14G0 E b l (open_+1) (i+1))))∧(e=0→((I6 ((i:Int)+1))∧f14G0 E b l open_ (i+1))))))∧(¬ ((i:Int)<(b.length:Int))→((¬ (((((Qh b).1).length:Nat):Int)=(fewK b).1)→rv=false)∧(((((Qh b).1).length:Nat):Int)=(fewK b).1→((I6 ((open_:Int) - 1))∧(((fewK b).1 > (iMax 0 ((open_:Int) - 1))→rv=false)∧(¬ ((fewK b).1 > (iMax 0 ((open_:Int) - 1)))→((I6 (2*(fewK b).1))∧(((2*(fewK b).1)<(open_:Int)→rv=false)∧(¬ ((2*(fewK b).1)<(open_:Int))→((b.length≤9223372036854775807)∧(((Qz b ((Qh b).1))=false→rv=false)∧((Qz b ((Qh b).1))=true→((b.length≤9223372036854775807)∧(((Qz b l)=false→rv=true)∧((Qz b l)=true→(((l.length:Int)≥(fewK b).1→rv=true)∧(¬ ((l.length:Int)≥(fewK b).1)→rv=false))))))))))))))))))):f14G0 E b l open_ i:=by
 rcases bft (decide ((i:Int)<(b.length:Int))) with hc0 | hc0
 · have h:=h.1 (odt hc0)
   obtain ⟨e,h1,h⟩:=h
   rcases bft (e != 0) with hc1 | hc1
   · have h:=h.1 (bneT hc1)
     obtain ⟨q5_2,h⟩:=h
     obtain ⟨q6_2,h⟩:=h
     exact p14_0_0 b l open_ i e hE ⟨hc0,(Qy h1),(rp cI 1 0 1 h1),hc1,q5_2,q6_2,trivial⟩ h
   · have h:=h.2 (bneF hc1)
     obtain ⟨q5_2,h⟩:=h
     exact p14_0_1 b l open_ i e hE ⟨hc0,(Qy h1),(rp cI 1 0 1 h1),hc1,q5_2,trivial⟩ h
 · have h:=h.2 (odf hc0)
   rcases bft (((((Qh b).1).length:Nat):Int) != (fewK b).1) with hc1 | hc1
   · have h:=h.1 (bneT hc1)
     exact p14_0_2 b l open_ i hE ⟨hc0,hc1,rfl,rfl,rfl,trivial⟩ (AvLe.of_eq (by rw [h]; try rfl))
   · have h:=h.2 (bneF hc1)
     obtain ⟨q2_2,h⟩:=h
     rcases bft (decide ((fewK b).1 > (iMax 0 ((open_:Int) - 1)))) with hc2 | hc2
     · have h:=h.1 (odt hc2)
       exact p14_0_3 b l open_ i hE ⟨hc0,hc1,q2_2,hc2,rfl,rfl,trivial⟩ (AvLe.of_eq (by rw [h]; try rfl))
     · have h:=h.2 (odf hc2)
       obtain ⟨q4_3,h⟩:=h
       rcases bft (decide ((2*(fewK b).1)<(open_:Int))) with hc3 | hc3
       · have h:=h.1 (odt hc3)
         exact p14_0_4 b l open_ i hE ⟨hc0,hc1,q2_2,hc2,q4_3,hc3,rfl,trivial⟩ (AvLe.of_eq (by rw [h]; try rfl))
       · have h:=h.2 (odf hc3)
         obtain ⟨h1,h⟩:=h
         rcases bft (!(Qz b ((Qh b).1))) with hc4 | hc4
         · have h:=h.1 (bnT hc4)
           exact p14_0_5 b l open_ i hE ⟨hc0,hc1,q2_2,hc2,q4_3,hc3,(u37 (Xz b ((Qh b).1) h1)),hc4,trivial⟩ (AvLe.of_eq (by rw [h]; try rfl))
         · have h:=h.2 (bnF hc4)
           obtain ⟨h2,h⟩:=h
           rcases bft (!(Qz b l)) with hc5 | hc5
           · have h:=h.1 (bnT hc5)
             exact p14_0_6 b l open_ i hE ⟨hc0,hc1,q2_2,hc2,q4_3,hc3,(u37 (Xz b ((Qh b).1) h1)),hc4,(u37 (Xz b l h2)),hc5,rfl,(u20 (Wo )),trivial⟩ (AvLe.of_eq (by rw [h]; try rfl))
           · have h:=h.2 (bnF hc5)
             rcases bft (decide ((l.length:Int)≥(fewK b).1)) with hc6 | hc6
             · have h:=h.1 (odt hc6)
               exact p14_0_7 b l open_ i hE ⟨hc0,hc1,q2_2,hc2,q4_3,hc3,(u37 (Xz b ((Qh b).1) h1)),hc4,(u37 (Xz b l h2)),hc5,hc6,(u20 (Wo )),trivial⟩ (AvLe.of_eq (by rw [h]; try rfl))
             · have h:=h.2 (odf hc6)
               exact p14_0_8 b l open_ i hE ⟨hc0,hc1,q2_2,hc2,q4_3,hc3,(u37 (Xz b ((Qh b).1) h1)),hc4,(u37 (Xz b l h2)),hc5,hc6,trivial⟩ (AvLe.of_eq (by rw [h]; try rfl))
theorem law14_ok (b:List Int) (l:List Pay) (h:b.length≤9223372036854775807):Pure Try.prog 14 [.rsl (rowI b) 0 b.length,.rsl (Qk l) 0 l.length] (.bool true):=Qt Try.func14 f14b fun E hE=>by
 refine f14W b l (rv:=true) hE ⟨h,h,fun _=>⟨fun _=>rfl,fun e=>absurd rfl e⟩,fun e=>⟨fun e2=>absurd e e2,fun _=>?_⟩⟩
 have he:QP b=0:=by
  unfold fewK Qh at e
  split at e
  · assumption
  · exact e
 obtain ⟨k1,k2,k3,-⟩:=few_of he
 have hc:=cardB_le (b:=b)
 have hl:=(bal_in (Yb he).1).1
 have es:(Qh b).1=QM b 1024 (setB b b.length):=by rw [Qh,if_pos he]
 have ef:(fewK b).1=(((QM b 1024 (setB b b.length)).length:Nat):Int):=by rw [fewK,es]
 have key:∀ (d i:Nat),i+d=b.length→f14G0 E b l (opnN b i) i:=by
  intro d
  induction d with
  | zero =>
   intro i hd
   have:i=b.length:=by omega
   subst this
   have eo:opnN b b.length=yL b:=rfl
   rw [eo]
   refine f14W0 b l _ _ (rv:=true) hE ⟨fun h=>by omega,fun _=>⟨fun hn=>absurd (by rw [es,ef]) hn,fun _=>⟨by omega,fun hg=>?_,fun _=>⟨by rw [ef]; omega,fun hg=>?_,fun _=>⟨h,fun hf=>?_,fun _=>⟨h,fun _=>rfl,fun hs=>⟨fun _=>rfl,fun hn=>?_⟩⟩⟩⟩⟩⟩⟩
   · rw [ef] at hg
     unfold iMax at hg
     split at hg <;> omega
   · rw [ef] at hg; omega
   · rw [es,setld_own he] at hf; cases hf
   · have:=setld_least he hs
     rw [ef] at hn
     omega
  | succ d ih =>
   intro i hd
   have hi:b[i]?=some b[i]:=List.getElem?_eq_getElem (by omega)
   have nx:=ih (i+1) (by omega)
   rw [opnN_step hi] at nx
   have hol:=opnN_le (b:=b) (i:=i)
   refine f14W0 b l _ _ (rv:=true) hE ⟨fun _=>⟨_,hi,fun h0=>⟨by omega,by omega,?_⟩,fun h0=>⟨by omega,?_⟩⟩,fun h=>by omega⟩
   · rw [if_neg h0] at nx; exact nx
   · rw [if_pos h0] at nx; exact nx
 exact key b.length 0 (by omega)
end Go.Proofs.Ytmdbebbibecidaa