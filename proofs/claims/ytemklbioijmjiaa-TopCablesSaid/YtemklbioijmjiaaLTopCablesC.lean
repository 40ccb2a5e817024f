/- A part of the proof: several texts, one behind the other. -/
import Derived.Test.YtemklbioijmjiaaLTopCablesB
import Derived.Laws.Bits64b
set_option linter.unusedVariables false
set_option linter.unusedSimpArgs false
set_option maxRecDepth 100000
namespace Go.Proofs.Ytemklbioijmjiaa
open Go Ax
open Go.Proofs
theorem and_mask {y:Int} (h:0≤y∧y<4294967296):bits .and .u64 y 4294967295=y:=by
 obtain ⟨n,rfl⟩:=Int.eq_ofNat_of_zero_le h.1
 have h1:=bits_and_u64_nat n 4294967295 (by omega) (by omega)
 have h2:n &&& 4294967295=n:=by
  have:=Nat.and_two_pow_sub_one_eq_mod n 32
  rw [show (2:Nat) ^ 32 - 1=4294967295 from rfl,show (2:Nat) ^ 32=4294967296 from rfl] at this
  rw [this]; exact Nat.mod_eq_of_lt (by omega)
 rw [h2] at h1
 exact h1
theorem inU {n:Int} (h:0≤n∧n≤18446744073709551615):InR .u64 n:=by
 have e1:IntKind.u64.min=0:=rfl
 have e2:IntKind.u64.max=18446744073709551615:=rfl
 unfold InR
 exact ⟨by rw [e1]; omega,by rw [e2]; omega⟩
theorem div32 {y:Int} (h:0≤y∧y<4294967296):y / 2 ^ (Int.toNat 32)=0:=by
 show y / 4294967296=0
 omega
theorem f194b:Try.f194.body=some (Qe Try.prog 194):=by kernel_rfl
theorem u194 {a c k:List AV} {r:AV} (h:Pure Try.prog 194 (a++c++k) r):Qf Try.prog (.clos 194 a k) c r:=Qn Try.func194 (by kernel_rfl) f194b h
theorem p194_start_0 (y:Int) {E:Env} {res:AV} (hE:Qg Try.prog 194 res E) (ho:AllP [(0:Int)≤32∧32≤((IntKind.bits .u64:Nat):Int),(0:Int)≤32∧32≤((IntKind.bits .u64:Nat):Int),InR .u64 (1*(bits .and .u64 y 4294967295)),InR .u64 (0*(bits .and .u64 y 4294967295)),(0:Int)≤32∧32≤((IntKind.bits .u64:Nat):Int),InR .u64 ((0*(bits .and .u64 y 4294967295))+((1*(bits .and .u64 y 4294967295)) / 2 ^ (Int.toNat 32))),(0:Int)≤32∧32≤((IntKind.bits .u64:Nat):Int),InR .u64 (1*(y / 2 ^ (Int.toNat 32))),InR .u64 ((bits .and .u64 ((0*(bits .and .u64 y 4294967295))+((1*(bits .and .u64 y 4294967295)) / 2 ^ (Int.toNat 32))) 4294967295)+(1*(y / 2 ^ (Int.toNat 32)))),InR .u64 (0*(y / 2 ^ (Int.toNat 32))),InR .u64 ((0*(y / 2 ^ (Int.toNat 32)))+(((0*(bits .and .u64 y 4294967295))+((1*(bits .and .u64 y 4294967295)) / 2 ^ (Int.toNat 32))) / 2 ^ (Int.toNat 32))),(0:Int)≤32∧32≤((IntKind.bits .u64:Nat):Int),InR .u64 (((0*(y / 2 ^ (Int.toNat 32)))+(((0*(bits .and .u64 y 4294967295))+((1*(bits .and .u64 y 4294967295)) / 2 ^ (Int.toNat 32))) / 2 ^ (Int.toNat 32)))+(((bits .and .u64 ((0*(bits .and .u64 y 4294967295))+((1*(bits .and .u64 y 4294967295)) / 2 ^ (Int.toNat 32))) 4294967295)+(1*(y / 2 ^ (Int.toNat 32)))) / 2 ^ (Int.toNat 32))),InR .u64 (1*y)])
 (hr:AvLe (.tup [.int .u64 (((0*(y / 2 ^ (Int.toNat 32)))+(((0*(bits .and .u64 y 4294967295))+((1*(bits .and .u64 y 4294967295)) / 2 ^ (Int.toNat 32))) / 2 ^ (Int.toNat 32)))+(((bits .and .u64 ((0*(bits .and .u64 y 4294967295))+((1*(bits .and .u64 y 4294967295)) / 2 ^ (Int.toNat 32))) 4294967295)+(1*(y / 2 ^ (Int.toNat 32)))) / 2 ^ (Int.toNat 32))),.int .u64 (1*y)]) res):G Try.prog E [.code (Qe Try.prog 194)] ⟨[.int .u64 1,.int .u64 y]++unds (Try.f194.ntmps - 2),[]⟩ :=
 Qd (n:=400) (evs:=[]) (obs:=_) hE Try.func194 Qi (by kernel_rfl) ho hr
theorem f194W (y:Int) {E:Env} {rv:(Int × Int)} (hE:Qg Try.prog 194 (.tup [.int .u64 rv.1,.int .u64 rv.2]) E)
 (h:(InR .u64 (1*(bits .and .u64 y 4294967295))∧(InR .u64 (0*(bits .and .u64 y 4294967295))∧(InR .u64 ((0*(bits .and .u64 y 4294967295))+((1*(bits .and .u64 y 4294967295)) / 2 ^ (Int.toNat 32)))∧(InR .u64 (1*(y / 2 ^ (Int.toNat 32)))∧(InR .u64 ((bits .and .u64 ((0*(bits .and .u64 y 4294967295))+((1*(bits .and .u64 y 4294967295)) / 2 ^ (Int.toNat 32))) 4294967295)+(1*(y / 2 ^ (Int.toNat 32))))∧(InR .u64 (0*(y / 2 ^ (Int.toNat 32)))∧(InR .u64 ((0*(y / 2 ^ (Int.toNat 32)))+(((0*(bits .and .u64 y 4294967295))+((1*(bits .and .u64 y 4294967295)) / 2 ^ (Int.toNat 32))) / 2 ^ (Int.toNat 32)))∧(InR .u64 (((0*(y / 2 ^ (Int.toNat 32)))+(((0*(bits .and .u64 y 4294967295))+((1*(bits .and .u64 y 4294967295)) / 2 ^ (Int.toNat 32))) / 2 ^ (Int.toNat 32)))+(((bits .and .u64 ((0*(bits .and .u64 y 4294967295))+((1*(bits .and .u64 y 4294967295)) / 2 ^ (Int.toNat 32))) 4294967295)+(1*(y / 2 ^ (Int.toNat 32)))) / 2 ^ (Int.toNat 32)))∧(InR .u64 (1*y)∧rv=((((0*(y / 2 ^ (Int.toNat 32)))+(((0*(bits .and .u64 y 4294967295))+((1*(bits .and .u64 y 4294967295)) / 2 ^ (Int.toNat 32))) / 2 ^ (Int.toNat 32)))+(((bits .and .u64 ((0*(bits .and .u64 y 4294967295))+((1*(bits .and .u64 y 4294967295)) / 2 ^ (Int.toNat 32))) 4294967295)+(1*(y / 2 ^ (Int.toNat 32)))) / 2 ^ (Int.toNat 32))),(1*y)))))))))))):G Try.prog E [.code (Qe Try.prog 194)] ⟨[.int .u64 1,.int .u64 y]++unds (Try.f194.ntmps - 2),[]⟩:=by
 obtain ⟨q2_0,h⟩:=h
 obtain ⟨q3_0,h⟩:=h
 obtain ⟨q5_0,h⟩:=h
 obtain ⟨q7_0,h⟩:=h
 obtain ⟨q8_0,h⟩:=h
 obtain ⟨q9_0,h⟩:=h
 obtain ⟨q10_0,h⟩:=h
 obtain ⟨q12_0,h⟩:=h
 obtain ⟨q13_0,h⟩:=h
 exact p194_start_0 y hE ⟨(⟨by decide,by decide⟩),(⟨by decide,by decide⟩),q2_0,q3_0,(⟨by decide,by decide⟩),q5_0,(⟨by decide,by decide⟩),q7_0,q8_0,q9_0,q10_0,(⟨by decide,by decide⟩),q12_0,q13_0,trivial⟩ (AvLe.of_eq (by rw [h]; try rfl))
theorem mul64_ok (y:Int) (h:0≤y∧y<4294967296):Pure Try.prog 194 [.int .u64 1,.int .u64 y] (.tup [.int .u64 0,.int .u64 y]):=Qy Try.func194 f194b fun E hE=>by
 have d0:(0:Int) / 2 ^ (Int.toNat 32)=0:=rfl
 have a0:=and_mask (y:=0) (by omega)
 refine f194W y (rv:=(0,y)) hE ?_
 rw [and_mask h]
 simp only [Int.one_mul,Int.zero_mul,Int.zero_add,div32 h,Int.add_zero,a0,d0]
 exact ⟨inU (by omega),inU (by omega),inU (by omega),inU (by omega),inU (by omega),inU (by omega),inU (by omega),inU (by omega),inU (by omega),trivial⟩
theorem f130b:Try.f130.body=some (Qe Try.prog 130):=by kernel_rfl
theorem u130 {a c k:List AV} {r:AV} (h:Pure Try.prog 130 (a++c++k) r):Qf Try.prog (.clos 130 a k) c r:=Qn Try.func130 (by kernel_rfl) f130b h
theorem p130_start_0 (y:Int) {E:Env} {res:AV} (hE:Qg Try.prog 130 res E) (ho:AllP [false=false,Qf Try.prog (.clos 194 [] []) [.int .u64 1,.int .u64 y] (.tup [.int .u64 0,.int .u64 y])])
 (hr:AvLe (.tup [.int .u64 0,.int .u64 y]) res):G Try.prog E [.code (Qe Try.prog 130)] ⟨[.int .u64 1,.int .u64 y]++unds (Try.f130.ntmps - 2),[]⟩ :=
 Qd (n:=400) (evs:=[.b false,.v (.tup [.int .u64 0,.int .u64 y])]) (obs:=_) hE Try.func130 Qi (by kernel_rfl) ho hr
theorem f130W (y:Int) {E:Env} {rv:(Int × Int)} (hE:Qg Try.prog 130 (.tup [.int .u64 rv.1,.int .u64 rv.2]) E)
 (h:((0≤y∧y<4294967296)∧rv=(0,y))):G Try.prog E [.code (Qe Try.prog 130)] ⟨[.int .u64 1,.int .u64 y]++unds (Try.f130.ntmps - 2),[]⟩:=by
 obtain ⟨h1,h⟩:=h
 exact p130_start_0 y hE ⟨rfl,(u194 (mul64_ok y h1)),trivial⟩ (AvLe.of_eq (by rw [h]; try rfl))
theorem mul_ok (y:Int) (h:0≤y∧y<4294967296):Pure Try.prog 130 [.int .u64 1,.int .u64 y] (.tup [.int .u64 0,.int .u64 y]):=Qy Try.func130 f130b fun E hE=>f130W y (rv:=(0,y)) hE ⟨h,rfl⟩
theorem f55b:Try.f55.body=some (Qe Try.prog 55):=by kernel_rfl
def f55K0 (P:Program):List Item:=kAt 400 [.code (Qe P 55)] [.b false,.b false,.stop]
def f55S0 (n:Int) (v:Int) (v0:List Int) (n1:Nat):St:=⟨(jj 7 ([.sl 0 0 0 v0.length 1,.int .i64 (n1:Int)]++Js 39)),[⟨true,0,1,true,(rowI v0),true⟩]⟩
def f55G0 (E:Env) (n:Int) (v:Int) (v0:List Int) (n1:Nat):Prop:=G Try.prog E (f55K0 Try.prog) (f55S0 n v v0 n1 )
theorem p55_start_2 (n:Int) (v:Int) {E:Env} {rv:AV} {bs2:List Blk} (hE:LentE Try.prog 55 [] rv bs2 E) (ho:AllP [(decide (n<0))=false,InR .u64 1,InR .u64 n,Qf Try.prog (.clos 130 [] []) [.int .u64 1,.int .u64 n] (.tup [.int .u64 0,.int .u64 n]),false=false,(decide (n > 9223372036854775807))=false,InR .i64 n,0≤n∧n≤n∧n≤2147483648,(0+(Nat.min 1 (Int.toNat n))*1)≤((List.replicate (Int.toNat n) ([.int .i64 0]:List AV)).flatten).length,(Nat.min 1 (Int.toNat n)) ≠ 0,0=0,(([.int .i64 v]).drop 0).take ((Nat.min 1 (Int.toNat n))*1)=(rowI ((([v]:List Int).drop 0).take (Nat.min 1 (Int.toNat n)))),(rowI ((([v]:List Int).drop 0).take (Nat.min 1 (Int.toNat n)))).length=(Nat.min 1 (Int.toNat n))*1,noRefs (rowI ((([v]:List Int).drop 0).take (Nat.min 1 (Int.toNat n))))=true])
 (hg:G Try.prog E (f55K0 Try.prog) ⟨(jj 7 ([.sl 0 0 0 (Int.toNat n) 1,.int .i64 (((Nat.min 1 (Int.toNat n)):Nat):Int)]++Js 39)),[⟨true,0,1,true,(QF ((List.replicate (Int.toNat n) ([.int .i64 0]:List AV)).flatten) 0 (rowI ((([v]:List Int).drop 0).take (Nat.min 1 (Int.toNat n))))),true⟩]⟩):G Try.prog E [.code (Qe Try.prog 55)] ⟨[.rsl [.int .i64 v] 0 1,.int .i64 n]++unds (Try.f55.ntmps - 2),[]⟩ :=
 Qj (n:=400) (ds:=[]) (cs:=[]) (live:=[7,8]) (m:=1) (evs:=[.b false,.v (.tup [.int .u64 0,.int .u64 n]),.b false,.b false,.cs (rowI ((([v]:List Int).drop 0).take (Nat.min 1 (Int.toNat n)))),.stop]) (obs:=_) hE.kind (hE.nogh0 _) Qi (by kernel_rfl) ho hg
theorem f55W (n:Int) (v:Int) {E:Env} {rv:Unit} {l2:List Int} (hE:LentE Try.prog 55 [] (.sl 0 0 0 l2.length 1) [⟨true,0,1,true,(rowI l2),true⟩] E)
 (h:((n<0→False)∧(¬ (n<0)→(InR .u64 n∧((0≤n∧n<4294967296)∧((n > 9223372036854775807→False)∧(¬ (n > 9223372036854775807)→((I6 (n))∧((0≤n∧n≤2147483648)∧(0+(Nat.min 1 (Int.toNat n))≤(List.replicate (Int.toNat n) (0:Int)).length∧((Nat.min 1 (Int.toNat n)) ≠ 0∧(0+(Nat.min 1 (Int.toNat n))≤([v]:List Int).length∧f55G0 E n v (Wx (List.replicate (Int.toNat n) (0:Int)) 0 ((([v]:List Int).drop 0).take (Nat.min 1 (Int.toNat n)))) (Nat.min 1 (Int.toNat n)))))))))))))):G Try.prog E [.code (Qe Try.prog 55)] ⟨[.rsl [.int .i64 v] 0 1,.int .i64 n]++unds (Try.f55.ntmps - 2),[]⟩:=by
 rcases bft (decide (n<0)) with hc0 | hc0
 · have h:=h.1 (odt hc0)
   exact h.elim
 · have h:=h.2 (odf hc0)
   obtain ⟨q2_1,h⟩:=h
   obtain ⟨h1,h⟩:=h
   rcases bft (decide (n > 9223372036854775807)) with hc1 | hc1
   · have h:=h.1 (odt hc1)
     exact h.elim
   · have h:=h.2 (odf hc1)
     obtain ⟨q6_2,h⟩:=h
     obtain ⟨h2,h⟩:=h
     obtain ⟨h3,h⟩:=h
     obtain ⟨h4,h⟩:=h
     obtain ⟨h5,h⟩:=h
     refine p55_start_2 n v hE ⟨hc0,(⟨by decide,by decide⟩),q2_1,(u130 (mul_ok n h1)),rfl,hc1,q6_2,⟨h2.1,by omega,h2.2⟩,(by rw [(show (List.replicate (Int.toNat n) ([.int .i64 0]:List AV)).flatten=rowI (List.replicate (Int.toNat n) (0:Int)) from row_rep cI _ _)]; exact copy_fits cI (s:=1) (fun _=>rfl) h3 (by first | rfl | omega | simp)),h4,rfl,(by rw [(show [.int .i64 v]=rowI ([v]:List Int) from rfl)]; exact copy_src cI (s:=1) (fun _=>rfl) _ (by first | rfl | omega | simp)),(copy_len cI (s:=1) (fun _=>rfl) h5),(QG cI (fun _=>rfl) _),trivial⟩ ?_
     have h:=h
     simp only [f55G0,f55S0,List.length_set,List.length_replicate,XB] at h
     rw [(show (List.replicate (Int.toNat n) ([.int .i64 0]:List AV)).flatten=rowI (List.replicate (Int.toNat n) (0:Int)) from row_rep cI _ _)]; rw [(show QF (rowI (List.replicate (Int.toNat n) (0:Int))) 0 (rowI ((([v]:List Int).drop 0).take (Nat.min 1 (Int.toNat n))))=rowI (Wx (List.replicate (Int.toNat n) (0:Int)) 0 ((([v]:List Int).drop 0).take (Nat.min 1 (Int.toNat n)))) from copy_row cI (s:=1) (fun _=>rfl) h3 h5 (by first | rfl | omega | simp))]
     exact h
theorem p55_0_0 (n:Int) (v:Int) (v0:List Int) (n1:Nat) {E:Env} {rv:AV} {bs2:List Blk} (hE:LentE Try.prog 55 [] rv bs2 E) (ho:AllP [0=0,(decide ((n1:Int)<(v0.length:Int)))=true,(Int.toNat (n1:Int))≤v0.length,v0.length≤v0.length,0≤(n1:Int),0=0,0≤(Int.toNat (n1:Int)),(Int.toNat (n1:Int))≤v0.length,0≤(n1:Int),0=0,((0+((Int.toNat (n1:Int))*1))+(Nat.min (Int.toNat (n1:Int)) (v0.length - (Int.toNat (n1:Int))))*1)≤(rowI v0).length,(Nat.min (Int.toNat (n1:Int)) (v0.length - (Int.toNat (n1:Int)))) ≠ 0,0=0,0=0,((rowI v0).drop 0).take ((Nat.min (Int.toNat (n1:Int)) (v0.length - (Int.toNat (n1:Int))))*1)=(rowI ((v0.drop 0).take (Nat.min (Int.toNat (n1:Int)) (v0.length - (Int.toNat (n1:Int)))))),(rowI ((v0.drop 0).take (Nat.min (Int.toNat (n1:Int)) (v0.length - (Int.toNat (n1:Int)))))).length=(Nat.min (Int.toNat (n1:Int)) (v0.length - (Int.toNat (n1:Int))))*1,noRefs (rowI ((v0.drop 0).take (Nat.min (Int.toNat (n1:Int)) (v0.length - (Int.toNat (n1:Int))))))=true,InR .i64 ((n1:Int)+(((Nat.min (Int.toNat (n1:Int)) (v0.length - (Int.toNat (n1:Int)))):Nat):Int))])
 (hg:G Try.prog E (f55K0 Try.prog) ⟨(jj 7 ([.sl 0 0 0 v0.length 1,.int .i64 ((n1:Int)+(((Nat.min (Int.toNat (n1:Int)) (v0.length - (Int.toNat (n1:Int)))):Nat):Int))]++Js 39)),[⟨true,0,1,true,(QF (rowI v0) (0+((Int.toNat (n1:Int))*1)) (rowI ((v0.drop 0).take (Nat.min (Int.toNat (n1:Int)) (v0.length - (Int.toNat (n1:Int))))))),true⟩]⟩):G Try.prog E (f55K0 Try.prog) (f55S0 n v v0 n1 ) :=
 Qj (n:=400) (ds:=[]) (cs:=[]) (live:=[7,8]) (m:=1) (evs:=[.b true,.cs (rowI ((v0.drop 0).take (Nat.min (Int.toNat (n1:Int)) (v0.length - (Int.toNat (n1:Int)))))),.stop]) (obs:=_) hE.kind (hE.nogh0 _) Qi (by kernel_rfl) ho hg
theorem p55_0_1 (n:Int) (v:Int) (v0:List Int) (n1:Nat) {E:Env} {res:AV} {bs2:List Blk} (hE:LentE Try.prog 55 [] res bs2 E) (ho:AllP [0=0,(decide ((n1:Int)<(v0.length:Int)))=false])
 (hr:(.sl 0 0 0 v0.length 1)=res) (hb:[⟨true,0,1,true,(rowI v0),true⟩]=bs2):G Try.prog E (f55K0 Try.prog) (f55S0 n v v0 n1 ) :=
 endB_step (n:=400) (live:=[4]) (m:=1) (evs:=[.b false]) (obs:=_) hE (hE.nogh0 _) Try.func55 Qi (by kernel_rfl) ho hr hb
theorem f55W0 (n:Int) (v:Int) (v0:List Int) (n1:Nat) {E:Env} {rv:Unit} {l2:List Int} (hE:LentE Try.prog 55 [] (.sl 0 0 0 l2.length 1) [⟨true,0,1,true,(rowI l2),true⟩] E)
 (h:(((n1:Int)<(v0.length:Int)→((Int.toNat (n1:Int))≤v0.length∧((Int.toNat (n1:Int))≤v0.length∧((Int.toNat (n1:Int))+(Nat.min (Int.toNat (n1:Int)) (v0.length - (Int.toNat (n1:Int))))≤v0.length∧((Nat.min (Int.toNat (n1:Int)) (v0.length - (Int.toNat (n1:Int)))) ≠ 0∧(0+(Nat.min (Int.toNat (n1:Int)) (v0.length - (Int.toNat (n1:Int))))≤v0.length∧((I6 ((n1:Int)+(((Nat.min (Int.toNat (n1:Int)) (v0.length - (Int.toNat (n1:Int)))):Nat):Int)))∧f55G0 E n v (Wx v0 (Int.toNat (n1:Int)) ((v0.drop 0).take (Nat.min (Int.toNat (n1:Int)) (v0.length - (Int.toNat (n1:Int)))))) (n1+(Nat.min (Int.toNat (n1:Int)) (v0.length - (Int.toNat (n1:Int))))))))))))∧(¬ ((n1:Int)<(v0.length:Int))→l2=v0))):f55G0 E n v v0 n1:=by
 rcases bft (decide ((n1:Int)<(v0.length:Int))) with hc0 | hc0
 · have h:=h.1 (odt hc0)
   obtain ⟨q2_1,h⟩:=h
   obtain ⟨q7_1,h⟩:=h
   obtain ⟨h1,h⟩:=h
   obtain ⟨h2,h⟩:=h
   obtain ⟨h3,h⟩:=h
   obtain ⟨q17_1,h⟩:=h
   refine p55_0_0 n v v0 n1 hE ⟨rfl,hc0,q2_1,(Nat.le_refl _),(by omega),rfl,(Nat.zero_le _),q7_1,(by omega),rfl,(by exact copy_fits cI (s:=1) (fun _=>rfl) h1 (by first | rfl | omega | simp)),h2,rfl,rfl,(by exact copy_src cI (s:=1) (fun _=>rfl) _ (by first | rfl | omega | simp)),(copy_len cI (s:=1) (fun _=>rfl) h3),(QG cI (fun _=>rfl) _),q17_1,trivial⟩ ?_
   have h:=h
   simp only [f55G0,f55S0,List.length_set,XB] at h
   rw [(show QF (rowI v0) (0+((Int.toNat (n1:Int))*1)) (rowI ((v0.drop 0).take (Nat.min (Int.toNat (n1:Int)) (v0.length - (Int.toNat (n1:Int))))))=rowI (Wx v0 (Int.toNat (n1:Int)) ((v0.drop 0).take (Nat.min (Int.toNat (n1:Int)) (v0.length - (Int.toNat (n1:Int)))))) from copy_row cI (s:=1) (fun _=>rfl) h1 h3 (by first | rfl | omega | simp))]
   exact h
 · have h:=h.2 (odf hc0)
   have qe0:=h
   exact p55_0_1 n v v0 n1 hE ⟨rfl,hc0,trivial⟩ (by rw [qe0]; try rfl) (by rw [qe0]; all_goals (first | rfl | (simp only [List.length_set]; done) | (simp only [List.length_set]; rfl) | (simp only [List.length_set,List.length_replicate]; done)))
theorem YO (v n:Int) (h:1≤n∧n≤2147483648):Lent Try.prog 55 [.rsl [.int .i64 v] 0 1,.int .i64 n] [] (.sl 0 0 0 (List.replicate (Int.toNat n) v).length 1) [⟨true,0,1,true,rowI (List.replicate (Int.toNat n) v),true⟩]:=lent_of0 Try.func55 f55b fun E hE=>by
 have key:∀ (d:Nat) (v0:List Int) (k:Nat),v0.length=Int.toNat n→1≤k→k≤v0.length→v0.length - k≤d→(∀ i,i<k→v0[i]?=some v)→f55G0 E n v v0 k:=by
  intro d
  induction d with
  | zero =>
   intro v0 k hl h1 h2 hd hv
   refine f55W0 n v v0 k (rv:=()) hE ⟨fun h=>by omega,fun _=>?_⟩
   refine (List.ext_getElem? fun i=>?_).symm
   by_cases hi:i<Int.toNat n
   · rw [hv i (by omega),List.getElem?_replicate,if_pos hi]
   · rw [List.getElem?_eq_none (by omega),List.getElem?_eq_none (by simp; omega)]
  | succ d ih =>
   intro v0 k hl h1 h2 hd hv
   refine f55W0 n v v0 k (rv:=()) hE ⟨fun hk=>?_,fun _=>?_⟩
   · have e0:Int.toNat (k:Int)=k:=by omega
     rw [e0,List.drop_zero]
     have hm:Nat.min k (v0.length - k)≤k:=Nat.min_le_left _ _
     have hm2:Nat.min k (v0.length - k)≤v0.length - k:=Nat.min_le_right _ _
     have hm0:Nat.min k (v0.length - k) ≠ 0:=by
      intro h0
      have h0':min k (v0.length - k)=0:=h0
      omega
     generalize Nat.min k (v0.length - k)=m at hm hm2 hm0
     refine ⟨h2,h2,by omega,hm0,by omega,by omega,?_⟩
     have hlt:(v0.take m).length=m:=by rw [List.length_take]; omega
     refine ih _ (k+m) (by rw [XB]; exact hl) (by omega) (by rw [XB]; omega) (by rw [XB]; omega) (fun i hi=>?_)
     rw [qt (by rw [hlt]; omega),hlt]
     split
     · rw [List.getElem?_take,if_pos (by omega)]; exact hv _ (by omega)
     · exact hv _ (by omega)
   · refine (List.ext_getElem? fun i=>?_).symm
     by_cases hi:i<Int.toNat n
     · rw [hv i (by omega),List.getElem?_replicate,if_pos hi]
     · rw [List.getElem?_eq_none (by omega),List.getElem?_eq_none (by simp; omega)]
 have e1:Nat.min 1 (Int.toNat n)=1:=by
  have:min 1 (Int.toNat n)=1:=by omega
  exact this
 refine f55W n v (rv:=()) hE ⟨fun h=>by omega,fun _=>⟨inU (by omega),by omega,fun h=>by omega,fun _=>⟨by omega,by omega,?_⟩⟩⟩
 rw [e1]
 refine ⟨by simp; omega,by omega,by simp,?_⟩
 refine key (Int.toNat n) _ 1 (by rw [XB,List.length_replicate]) (by omega) (by rw [XB,List.length_replicate]; omega) (by rw [XB,List.length_replicate]; omega) (fun i hi=>?_)
 have:i=0:=by omega
 subst this
 rw [qt (by simp; omega)]
 simp
end Go.Proofs.Ytemklbioijmjiaa
namespace Go.Proofs.Ytemklbioijmjiaa
open Go Ax
open Go.Proofs
structure Bndl where
 tokens:Int
 price:Int
def cBd (t:Bndl):List AV:=[.int .i64 t.tokens,.int .i64 t.price]
def XN (l:List Bndl):List AV:=l.flatMap cBd
structure Fair where
 purses:Int
 boxes:Int
 stock:List Int
 cash:List Int
 bundles:List Bndl
 refund:Int
 band:Int
 hours:Int
def outB (lo hi:Int) (n:Int):Bool:=!Qb n lo hi
theorem f115b:Try.f115.body=some (Qe Try.prog 115):=by kernel_rfl
theorem u115 {a c k:List AV} {r:AV} (h:Pure Try.prog 115 (a++c++k) r):Qf Try.prog (.clos 115 a k) c r:=Qn Try.func115 (by kernel_rfl) f115b h
theorem p115_start_0 (n:Int) (lo:Int) (hi:Int) {E:Env} {res:AV} (hE:Qg Try.prog 115 res E) (ho:AllP [(decide (n≥lo))=true])
 (hr:AvLe (.bool (decide (n≤hi))) res):G Try.prog E [.code (Qe Try.prog 115)] ⟨[.int .i64 n,.int .i64 lo,.int .i64 hi]++unds (Try.f115.ntmps - 3),[]⟩ :=
 Qd (n:=400) (evs:=[.b true]) (obs:=_) hE Try.func115 Qi (by kernel_rfl) ho hr
theorem p115_start_1 (n:Int) (lo:Int) (hi:Int) {E:Env} {res:AV} (hE:Qg Try.prog 115 res E) (ho:AllP [(decide (n≥lo))=false])
 (hr:AvLe (.bool false) res):G Try.prog E [.code (Qe Try.prog 115)] ⟨[.int .i64 n,.int .i64 lo,.int .i64 hi]++unds (Try.f115.ntmps - 3),[]⟩ :=
 Qd (n:=400) (evs:=[.b false]) (obs:=_) hE Try.func115 Qi (by kernel_rfl) ho hr
theorem f115W (n:Int) (lo:Int) (hi:Int) {E:Env} {rv:Bool} (hE:Qg Try.prog 115 (.bool rv) E)
 (h:((n≥lo→rv=(decide (n≤hi)))∧(¬ (n≥lo)→rv=false))):G Try.prog E [.code (Qe Try.prog 115)] ⟨[.int .i64 n,.int .i64 lo,.int .i64 hi]++unds (Try.f115.ntmps - 3),[]⟩:=by
 rcases bft (decide (n≥lo)) with hc0 | hc0
 · have h:=h.1 (odt hc0)
   exact p115_start_0 n lo hi hE ⟨hc0,trivial⟩ (AvLe.of_eq (by rw [h]; try rfl))
 · have h:=h.2 (odf hc0)
   exact p115_start_1 n lo hi hE ⟨hc0,trivial⟩ (AvLe.of_eq (by rw [h]; try rfl))
theorem Qk (n lo hi:Int):Pure Try.prog 115 [.int .i64 n,.int .i64 lo,.int .i64 hi] (.bool (Qb n lo hi)):=Qy Try.func115 f115b fun E hE=>by
 refine f115W n lo hi hE ⟨fun h=>by simp [Qb,h],fun h=>by simp [Qb,h]⟩
theorem f183b:Try.f183.body=some (Qe Try.prog 183):=by kernel_rfl
theorem u183 {a c k:List AV} {r:AV} (h:Pure Try.prog 183 (a++c++k) r):Qf Try.prog (.clos 183 a k) c r:=Qn Try.func183 (by kernel_rfl) f183b h
theorem p183_start_0 (n:Int) (lo hi:Int) {E:Env} {res:AV} (hE:Qg Try.prog 183 res E) (ho:AllP [Qf Try.prog (.clos 115 [] []) [.int .i64 n,.int .i64 lo,.int .i64 hi] (.bool (Qb n lo hi))])
 (hr:AvLe (.bool (!(Qb n lo hi))) res):G Try.prog E [.code (Qe Try.prog 183)] ⟨[.int .i64 n,.rptr [.int .i64 lo] 0,.rptr [.int .i64 hi] 0]++unds (Try.f183.ntmps - 3),[]⟩ :=
 Qd (n:=400) (evs:=[.v (.bool (Qb n lo hi))]) (obs:=_) hE Try.func183 Qi (by kernel_rfl) ho hr
theorem f183W (n:Int) (lo hi:Int) {E:Env} {rv:Bool} (hE:Qg Try.prog 183 (.bool rv) E)
 (h:rv=(!(Qb n lo hi))):G Try.prog E [.code (Qe Try.prog 183)] ⟨[.int .i64 n,.rptr [.int .i64 lo] 0,.rptr [.int .i64 hi] 0]++unds (Try.f183.ntmps - 3),[]⟩:=by
 exact p183_start_0 n lo hi hE ⟨(u115 (Qk n lo hi)),trivial⟩ (AvLe.of_eq (by rw [h]; try rfl))
theorem f182b:Try.f182.body=some (Qe Try.prog 182):=by kernel_rfl
theorem u182 {a c k:List AV} {r:AV} (h:Pure Try.prog 182 (a++c++k) r):Qf Try.prog (.clos 182 a k) c r:=Qn Try.func182 (by kernel_rfl) f182b h
theorem p182_start_0 (lo:Int) (hi:Int) {E:Env} {res:AV} (hE:Qg Try.prog 182 res E) (ho:AllP [])
 (hr:AvLe (.clos 183 [] [.rptr [.int .i64 lo] 0,.rptr [.int .i64 hi] 0]) res):G Try.prog E [.code (Qe Try.prog 182)] ⟨[.int .i64 lo,.int .i64 hi]++unds (Try.f182.ntmps - 2),[]⟩ :=
 Qd (n:=400) (evs:=[]) (obs:=_) hE Try.func182 Qi (by kernel_rfl) ho hr
theorem f182W (lo:Int) (hi:Int) {E:Env} {rv:AV} (hE:Qg Try.prog 182 rv E)
 (h:rv=(.clos 183 [] [.rptr [.int .i64 lo] 0,.rptr [.int .i64 hi] 0])):G Try.prog E [.code (Qe Try.prog 182)] ⟨[.int .i64 lo,.int .i64 hi]++unds (Try.f182.ntmps - 2),[]⟩:=by
 exact p182_start_0 lo hi hE trivial (AvLe.of_eq (by rw [h]; try rfl))
theorem out1_ok (n lo hi:Int):Pure Try.prog 183 [.int .i64 n,.rptr [.int .i64 lo] 0,.rptr [.int .i64 hi] 0] (.bool (outB lo hi n)):=Qy Try.func183 f183b fun E hE=>f183W n lo hi (rv:=outB lo hi n) hE rfl
theorem Yn (lo hi:Int):Pure Try.prog 182 [.int .i64 lo,.int .i64 hi] (.clos 183 [] [.rptr [.int .i64 lo] 0,.rptr [.int .i64 hi] 0]):=Qy Try.func182 f182b fun E hE=>f182W lo hi (rv:=.clos 183 [] [.rptr [.int .i64 lo] 0,.rptr [.int .i64 hi] 0]) hE rfl
theorem f59ob:Try.f59.body=some (Qe Try.prog 59):=by kernel_rfl
def qV (P:Program):List Item:=kAt 400 [.code (Qe P 59)] [.stop]
def f59oS0 (l:(List Int)) (lo hi:Int) (i:Nat):St:=⟨([.rsl (rowI l) 0 l.length,.clos 183 [] [.rptr [.int .i64 lo] 0,.rptr [.int .i64 hi] 0]]++jj 5 ([.int .i64 (l.length:Int),.int .i64 (i:Int)]++Js 10)),[]⟩
def f59oG0 (E:Env) (l:(List Int)) (lo hi:Int) (i:Nat):Prop:=G Try.prog E (qV Try.prog) (f59oS0 l lo hi i )
abbrev z59o_1 (lo:Int) (hi:Int):List AV:=[.rptr [.int .i64 lo] 0,.rptr [.int .i64 hi] 0]
theorem p59o_start_0 (l:(List Int)) (lo hi:Int) {E:Env} {rv:AV} (hE:Qg Try.prog 59 rv E) (ho:AllP [])
 (hg:G Try.prog E (qV Try.prog) ⟨([.rsl (rowI l) 0 l.length,.clos 183 [] (z59o_1 lo hi)]++jj 5 ([.int .i64 (l.length:Int),.int .i64 0]++Js 10)),[]⟩):G Try.prog E [.code (Qe Try.prog 59)] ⟨[.rsl (rowI l) 0 l.length,.clos 183 [] (z59o_1 lo hi)]++unds (Try.f59.ntmps - 2),[]⟩ :=
 Qj (n:=400) (ds:=[]) (cs:=[]) (live:=[0,1,7,8]) (m:=0) (evs:=[.stop]) (obs:=_) hE.2.1 (hE.nogh _) Qi (by kernel_rfl) ho hg
theorem f59oW (l:(List Int)) (lo hi:Int) {E:Env} {rv:Int} (hE:Qg Try.prog 59 (.int .i64 rv) E)
 (h:f59oG0 E l lo hi 0):G Try.prog E [.code (Qe Try.prog 59)] ⟨[.rsl (rowI l) 0 l.length,.clos 183 [] [.rptr [.int .i64 lo] 0,.rptr [.int .i64 hi] 0]]++unds (Try.f59.ntmps - 2),[]⟩:=by
 exact p59o_start_0 l lo hi hE trivial h
theorem p59o_0_0 (l:(List Int)) (lo hi:Int) (i:Nat) (e:Int) {E:Env} {res:AV} (hE:Qg Try.prog 59 res E) (ho:AllP [(decide ((i:Int)<(l.length:Int)))=true,0≤(i:Int)∧(i:Int)<(l.length:Int),((rowI l).drop (0+(Int.toNat (i:Int))*1)).take 1=[.int .i64 e],Qf Try.prog (.clos 183 [] (z59o_1 lo hi)) [.int .i64 e] (.bool (outB lo hi e)),(outB lo hi e)=true])
 (hr:AvLe (.int .i64 (i:Int)) res):G Try.prog E (qV Try.prog) (f59oS0 l lo hi i ) :=
 Qd (n:=400) (evs:=[.b true,.ld (.int .i64 e),.v (.bool (outB lo hi e)),.b true]) (obs:=_) hE Try.func59 Qi (by kernel_rfl) ho hr
theorem p59o_0_1 (l:(List Int)) (lo hi:Int) (i:Nat) (e:Int) {E:Env} {rv:AV} (hE:Qg Try.prog 59 rv E) (ho:AllP [(decide ((i:Int)<(l.length:Int)))=true,0≤(i:Int)∧(i:Int)<(l.length:Int),((rowI l).drop (0+(Int.toNat (i:Int))*1)).take 1=[.int .i64 e],Qf Try.prog (.clos 183 [] (z59o_1 lo hi)) [.int .i64 e] (.bool (outB lo hi e)),(outB lo hi e)=false,InR .i64 ((i:Int)+1)])
 (hg:G Try.prog E (qV Try.prog) ⟨([.rsl (rowI l) 0 l.length,.clos 183 [] (z59o_1 lo hi)]++jj 5 ([.int .i64 (l.length:Int),.int .i64 ((i:Int)+1)]++Js 10)),[]⟩):G Try.prog E (qV Try.prog) (f59oS0 l lo hi i ) :=
 Qj (n:=400) (ds:=[]) (cs:=[]) (live:=[0,1,7,8]) (m:=0) (evs:=[.b true,.ld (.int .i64 e),.v (.bool (outB lo hi e)),.b false,.stop]) (obs:=_) hE.2.1 (hE.nogh _) Qi (by kernel_rfl) ho hg
theorem p59o_0_2 (l:(List Int)) (lo hi:Int) (i:Nat) {E:Env} {res:AV} (hE:Qg Try.prog 59 res E) (ho:AllP [(decide ((i:Int)<(l.length:Int)))=false])
 (hr:AvLe (.int .i64 (-1)) res):G Try.prog E (qV Try.prog) (f59oS0 l lo hi i ) :=
 Qd (n:=400) (evs:=[.b false]) (obs:=_) hE Try.func59 Qi (by kernel_rfl) ho hr
theorem f59oW0 (l:(List Int)) (lo hi:Int) (i:Nat) {E:Env} {rv:Int} (hE:Qg Try.prog 59 (.int .i64 rv) E)
 (h:(((i:Int)<(l.length:Int)→(∃ e:Int,l[i]?=some e∧(((outB lo hi e)=true→rv=(i:Int))∧((outB lo hi e)=false→((I6 ((i:Int)+1))∧f59oG0 E l lo hi (i+1))))))∧(¬ ((i:Int)<(l.length:Int))→rv=(-1)))):f59oG0 E l lo hi i:=by
 rcases bft (decide ((i:Int)<(l.length:Int))) with hc0 | hc0
 · have h:=h.1 (odt hc0)
   obtain ⟨e,h1,h⟩:=h
   rcases bft (outB lo hi e) with hc1 | hc1
   · have h:=h.1 hc1
     exact p59o_0_0 l lo hi i e hE ⟨hc0,(Qr h1),(rp cI 1 0 1 h1),(u183 (out1_ok e lo hi)),hc1,trivial⟩ (AvLe.of_eq (by rw [h]; try rfl))
   · have h:=h.2 hc1
     obtain ⟨q6_2,h⟩:=h
     exact p59o_0_1 l lo hi i e hE ⟨hc0,(Qr h1),(rp cI 1 0 1 h1),(u183 (out1_ok e lo hi)),hc1,q6_2,trivial⟩ h
 · have h:=h.2 (odf hc0)
   exact p59o_0_2 l lo hi i hE ⟨hc0,trivial⟩ (AvLe.of_eq (by rw [h]; try rfl))
theorem idxOut_ok (l:List Int) (lo hi:Int) (h:l.length≤9223372036854775807):Pure Try.prog 59 [.rsl (rowI l) 0 l.length,.clos 183 [] [.rptr [.int .i64 lo] 0,.rptr [.int .i64 hi] 0]] (.int .i64 (idxG (outB lo hi) l)):=Qy Try.func59 f59ob fun E hE=>by
 have hl:=h
 refine f59oW l lo hi (rv:=idxG (outB lo hi) l) hE (Yp (outB lo hi) l l.length 0 (by omega) (fun j x hj=>by omega) (fun i=>f59oG0 E l lo hi i) (fun i hi' h1 h2=>?_) (fun _ h2=>?_))
 · have hx:l[i]?=some l[i]:=List.getElem?_eq_getElem hi'
   have hm:=List.mem_of_getElem? hx
   exact f59oW0 l lo hi i (rv:=idxG (outB lo hi) l) hE ⟨fun _=>⟨_,hx,fun hp=>h1 _ hx (by simpa using hp),fun hp=>⟨by omega,h2 _ hx (by simpa using hp)⟩⟩,fun h=>by omega⟩
 · exact f59oW0 l lo hi _ (rv:=idxG (outB lo hi) l) hE ⟨fun h=>by omega,fun _=>h2⟩
theorem VB:Try.f76.body=some (Qe Try.prog 76):=by kernel_rfl
theorem p76o_start_0 (l:(List Int)) (lo hi:Int) {E:Env} {res:AV} (hE:Qg Try.prog 76 res E) (ho:AllP [Qf Try.prog (.clos 59 [] []) [.rsl (rowI l) 0 l.length,.clos 183 [] [.rptr [.int .i64 lo] 0,.rptr [.int .i64 hi] 0]] (.int .i64 (idxG (outB lo hi) l))])
 (hr:AvLe (.bool (decide ((idxG (outB lo hi) l)≥0))) res):G Try.prog E [.code (Qe Try.prog 76)] ⟨[.rsl (rowI l) 0 l.length,.clos 183 [] [.rptr [.int .i64 lo] 0,.rptr [.int .i64 hi] 0]]++unds (Try.f76.ntmps - 2),[]⟩ :=
 Qd (n:=400) (evs:=[.v (.int .i64 (idxG (outB lo hi) l))]) (obs:=_) hE Try.func76 Qi (by kernel_rfl) ho hr
theorem f76oW (l:(List Int)) (lo hi:Int) {E:Env} {rv:Bool} (hE:Qg Try.prog 76 (.bool rv) E)
 (h:((l.length≤9223372036854775807)∧rv=(decide ((idxG (outB lo hi) l)≥0)))):G Try.prog E [.code (Qe Try.prog 76)] ⟨[.rsl (rowI l) 0 l.length,.clos 183 [] [.rptr [.int .i64 lo] 0,.rptr [.int .i64 hi] 0]]++unds (Try.f76.ntmps - 2),[]⟩:=by
 obtain ⟨h1,h⟩:=h
 exact p76o_start_0 l lo hi hE ⟨(Qn Try.func59 (by kernel_rfl) f59ob (idxOut_ok l lo hi h1)),trivial⟩ (AvLe.of_eq (by rw [h]; try rfl))
theorem Xc (l:List Int) (lo hi:Int) (h:l.length≤9223372036854775807):Pure Try.prog 76 [.rsl (rowI l) 0 l.length,.clos 183 [] [.rptr [.int .i64 lo] 0,.rptr [.int .i64 hi] 0]] (.bool (l.any (outB lo hi))):=Qy Try.func76 VB fun E hE =>
 f76oW l lo hi (rv:=l.any (outB lo hi)) hE ⟨h,(Vz _ _).symm⟩
theorem f185b:Try.f185.body=some (Qe Try.prog 185):=by kernel_rfl
theorem u185 {a c k:List AV} {r:AV} (h:Pure Try.prog 185 (a++c++k) r):Qf Try.prog (.clos 185 a k) c r:=Qn Try.func185 (by kernel_rfl) f185b h
abbrev z185_1 (b:Bndl) (f:Fair):List AV:=[.agg [.int .i64 b.tokens,.int .i64 b.price],.rptr [.int .i64 f.purses,.int .i64 f.boxes,.rsl (rowI f.stock) 0 f.stock.length,.rsl (rowI f.cash) 0 f.cash.length,.rsl (XN f.bundles) 0 f.bundles.length,.int .i64 f.refund,.int .i64 f.band,.int .i64 f.hours] 0]
theorem p185_start_0 (b:Bndl) (f:Fair) {E:Env} {res:AV} (hE:Qg Try.prog 185 res E) (ho:AllP [Qf Try.prog (.clos 115 [] []) [.int .i64 b.tokens,.int .i64 1,.int .i64 1000] (.bool (Qb b.tokens 1 1000)),(!(Qb b.tokens 1 1000))=true,true=true])
 (hr:AvLe (.bool true) res):G Try.prog E [.code (Qe Try.prog 185)] ⟨(z185_1 b f)++unds (Try.f185.ntmps - 2),[]⟩ :=
 Qd (n:=400) (evs:=[.v (.bool (Qb b.tokens 1 1000)),.b true,.b true]) (obs:=_) hE Try.func185 Qi (by kernel_rfl) ho hr
theorem p185_start_1 (b:Bndl) (f:Fair) {E:Env} {res:AV} (hE:Qg Try.prog 185 res E) (ho:AllP [Qf Try.prog (.clos 115 [] []) [.int .i64 b.tokens,.int .i64 1,.int .i64 1000] (.bool (Qb b.tokens 1 1000)),(!(Qb b.tokens 1 1000))=false,Qf Try.prog (.clos 115 [] []) [.int .i64 b.price,.int .i64 1,.int .i64 1000000] (.bool (Qb b.price 1 1000000)),(!(Qb b.price 1 1000000))=true])
 (hr:AvLe (.bool true) res):G Try.prog E [.code (Qe Try.prog 185)] ⟨(z185_1 b f)++unds (Try.f185.ntmps - 2),[]⟩ :=
 Qd (n:=400) (evs:=[.v (.bool (Qb b.tokens 1 1000)),.b false,.v (.bool (Qb b.price 1 1000000)),.b true]) (obs:=_) hE Try.func185 Qi (by kernel_rfl) ho hr
theorem p185_start_2 (b:Bndl) (f:Fair) {E:Env} {res:AV} (hE:Qg Try.prog 185 res E) (ho:AllP [Qf Try.prog (.clos 115 [] []) [.int .i64 b.tokens,.int .i64 1,.int .i64 1000] (.bool (Qb b.tokens 1 1000)),(!(Qb b.tokens 1 1000))=false,Qf Try.prog (.clos 115 [] []) [.int .i64 b.price,.int .i64 1,.int .i64 1000000] (.bool (Qb b.price 1 1000000)),(!(Qb b.price 1 1000000))=false,InR .i64 (f.refund*b.tokens)])
 (hr:AvLe (.bool (decide ((f.refund*b.tokens) > b.price))) res):G Try.prog E [.code (Qe Try.prog 185)] ⟨(z185_1 b f)++unds (Try.f185.ntmps - 2),[]⟩ :=
 Qd (n:=400) (evs:=[.v (.bool (Qb b.tokens 1 1000)),.b false,.v (.bool (Qb b.price 1 1000000)),.b false]) (obs:=_) hE Try.func185 Qi (by kernel_rfl) ho hr
theorem f185W (b:Bndl) (f:Fair) {E:Env} {rv:Bool} (hE:Qg Try.prog 185 (.bool rv) E)
 (h:(((Qb b.tokens 1 1000)=false→rv=true)∧((Qb b.tokens 1 1000)=true→(((Qb b.price 1 1000000)=false→rv=true)∧((Qb b.price 1 1000000)=true→((I6 (f.refund*b.tokens))∧rv=(decide ((f.refund*b.tokens) > b.price)))))))):G Try.prog E [.code (Qe Try.prog 185)] ⟨[.agg [.int .i64 b.tokens,.int .i64 b.price],.rptr [.int .i64 f.purses,.int .i64 f.boxes,.rsl (rowI f.stock) 0 f.stock.length,.rsl (rowI f.cash) 0 f.cash.length,.rsl (XN f.bundles) 0 f.bundles.length,.int .i64 f.refund,.int .i64 f.band,.int .i64 f.hours] 0]++unds (Try.f185.ntmps - 2),[]⟩:=by
 rcases bft (!(Qb b.tokens 1 1000)) with hc0 | hc0
 · have h:=h.1 (bnT hc0)
   exact p185_start_0 b f hE ⟨(u115 (Qk b.tokens 1 1000)),hc0,rfl,trivial⟩ (AvLe.of_eq (by rw [h]; try rfl))
 · have h:=h.2 (bnF hc0)
   rcases bft (!(Qb b.price 1 1000000)) with hc1 | hc1
   · have h:=h.1 (bnT hc1)
     exact p185_start_1 b f hE ⟨(u115 (Qk b.tokens 1 1000)),hc0,(u115 (Qk b.price 1 1000000)),hc1,trivial⟩ (AvLe.of_eq (by rw [h]; try rfl))
   · have h:=h.2 (bnF hc1)
     obtain ⟨q4_2,h⟩:=h
     exact p185_start_2 b f hE ⟨(u115 (Qk b.tokens 1 1000)),hc0,(u115 (Qk b.price 1 1000000)),hc1,q4_2,trivial⟩ (AvLe.of_eq (by rw [h]; try rfl))
/-- A bundle that is not right. -/
def badB (f:Fair) (b:Bndl):Bool:=if Qb b.tokens 1 1000=true then (if Qb b.price 1 1000000=true then decide (f.refund*b.tokens > b.price) else true) else true
theorem badB_ok (b:Bndl) (f:Fair) (h:0≤f.refund∧f.refund≤1000):Pure Try.prog 185 [.agg [.int .i64 b.tokens,.int .i64 b.price],.rptr [.int .i64 f.purses,.int .i64 f.boxes,.rsl (rowI f.stock) 0 f.stock.length,.rsl (rowI f.cash) 0 f.cash.length,.rsl (XN f.bundles) 0 f.bundles.length,.int .i64 f.refund,.int .i64 f.band,.int .i64 f.hours] 0] (.bool (badB f b)):=Qy Try.func185 f185b fun E hE=>by
 refine f185W b f (rv:=badB f b) hE ⟨fun h1=>?_,fun h1=>⟨fun h2=>?_,fun h2=>⟨?_,?_⟩⟩⟩
 · unfold badB; rw [h1]; rfl
 · unfold badB; rw [h1,h2]; rfl
 · have h3:=QI.1 h1
   have m1:=Int.mul_le_mul h.2 h3.2 (by omega) (by omega)
   have m2:=Int.mul_nonneg h.1 (show 0≤b.tokens by omega)
   omega
 · unfold badB; rw [h1,h2]; rfl
theorem f240bb:Try.f240.body=some (Qe Try.prog 240):=by kernel_rfl
def VX (P:Program):List Item:=kAt 400 [.code (Qe P 240)] [.stop]
def yX (l:(List Bndl)) (f:Fair) (i:Nat):St:=⟨([.rsl (XN l) 0 l.length,.clos 185 [] [.rptr [.int .i64 f.purses,.int .i64 f.boxes,.rsl (rowI f.stock) 0 f.stock.length,.rsl (rowI f.cash) 0 f.cash.length,.rsl (XN f.bundles) 0 f.bundles.length,.int .i64 f.refund,.int .i64 f.band,.int .i64 f.hours] 0]]++jj 5 ([.int .i64 (l.length:Int),.int .i64 (i:Int)]++Js 10)),[]⟩
def yY (E:Env) (l:(List Bndl)) (f:Fair) (i:Nat):Prop:=G Try.prog E (VX Try.prog) (yX l f i )
abbrev WD (f:Fair):List AV:=[.rptr [.int .i64 f.purses,.int .i64 f.boxes,.rsl (rowI f.stock) 0 f.stock.length,.rsl (rowI f.cash) 0 f.cash.length,.rsl (XN f.bundles) 0 f.bundles.length,.int .i64 f.refund,.int .i64 f.band,.int .i64 f.hours] 0]
theorem yB (l:(List Bndl)) (f:Fair) {E:Env} {rv:AV} (hE:Qg Try.prog 240 rv E) (ho:AllP [])
 (hg:G Try.prog E (VX Try.prog) ⟨([.rsl (XN l) 0 l.length,.clos 185 [] (WD f)]++jj 5 ([.int .i64 (l.length:Int),.int .i64 0]++Js 10)),[]⟩):G Try.prog E [.code (Qe Try.prog 240)] ⟨[.rsl (XN l) 0 l.length,.clos 185 [] (WD f)]++unds (Try.f240.ntmps - 2),[]⟩ :=
 Qj (n:=400) (ds:=[]) (cs:=[]) (live:=[0,1,7,8]) (m:=0) (evs:=[.stop]) (obs:=_) hE.2.1 (hE.nogh _) Qi (by kernel_rfl) ho hg
theorem f240bW (l:(List Bndl)) (f:Fair) {E:Env} {rv:Int} (hE:Qg Try.prog 240 (.int .i64 rv) E)
 (h:yY E l f 0):G Try.prog E [.code (Qe Try.prog 240)] ⟨[.rsl (XN l) 0 l.length,.clos 185 [] [.rptr [.int .i64 f.purses,.int .i64 f.boxes,.rsl (rowI f.stock) 0 f.stock.length,.rsl (rowI f.cash) 0 f.cash.length,.rsl (XN f.bundles) 0 f.bundles.length,.int .i64 f.refund,.int .i64 f.band,.int .i64 f.hours] 0]]++unds (Try.f240.ntmps - 2),[]⟩:=by
 exact yB l f hE trivial h
theorem p240b_0_0 (l:(List Bndl)) (f:Fair) (i:Nat) (be:Bndl) {E:Env} {res:AV} (hE:Qg Try.prog 240 res E) (ho:AllP [(decide ((i:Int)<(l.length:Int)))=true,0≤(i:Int)∧(i:Int)<(l.length:Int),((XN l).drop (0+(Int.toNat (i:Int))*2)).take 2=[.int .i64 be.tokens,.int .i64 be.price],Qf Try.prog (.clos 185 [] (WD f)) [.agg [.int .i64 be.tokens,.int .i64 be.price]] (.bool (badB f be)),(badB f be)=true])
 (hr:AvLe (.int .i64 (i:Int)) res):G Try.prog E (VX Try.prog) (yX l f i ) :=
 Qd (n:=400) (evs:=[.b true,.ld (.agg [.int .i64 be.tokens,.int .i64 be.price]),.v (.bool (badB f be)),.b true]) (obs:=_) hE Try.func240 Qi (by kernel_rfl) ho hr
theorem p240b_0_1 (l:(List Bndl)) (f:Fair) (i:Nat) (be:Bndl) {E:Env} {rv:AV} (hE:Qg Try.prog 240 rv E) (ho:AllP [(decide ((i:Int)<(l.length:Int)))=true,0≤(i:Int)∧(i:Int)<(l.length:Int),((XN l).drop (0+(Int.toNat (i:Int))*2)).take 2=[.int .i64 be.tokens,.int .i64 be.price],Qf Try.prog (.clos 185 [] (WD f)) [.agg [.int .i64 be.tokens,.int .i64 be.price]] (.bool (badB f be)),(badB f be)=false,InR .i64 ((i:Int)+1)])
 (hg:G Try.prog E (VX Try.prog) ⟨([.rsl (XN l) 0 l.length,.clos 185 [] (WD f)]++jj 5 ([.int .i64 (l.length:Int),.int .i64 ((i:Int)+1)]++Js 10)),[]⟩):G Try.prog E (VX Try.prog) (yX l f i ) :=
 Qj (n:=400) (ds:=[]) (cs:=[]) (live:=[0,1,7,8]) (m:=0) (evs:=[.b true,.ld (.agg [.int .i64 be.tokens,.int .i64 be.price]),.v (.bool (badB f be)),.b false,.stop]) (obs:=_) hE.2.1 (hE.nogh _) Qi (by kernel_rfl) ho hg
theorem p240b_0_2 (l:(List Bndl)) (f:Fair) (i:Nat) {E:Env} {res:AV} (hE:Qg Try.prog 240 res E) (ho:AllP [(decide ((i:Int)<(l.length:Int)))=false])
 (hr:AvLe (.int .i64 (-1)) res):G Try.prog E (VX Try.prog) (yX l f i ) :=
 Qd (n:=400) (evs:=[.b false]) (obs:=_) hE Try.func240 Qi (by kernel_rfl) ho hr
theorem f240bW0 (l:(List Bndl)) (f:Fair) (i:Nat) {E:Env} {rv:Int} (hE:Qg Try.prog 240 (.int .i64 rv) E)
 (h:(((i:Int)<(l.length:Int)→(∃ be:Bndl,l[i]?=some be∧((0≤f.refund∧f.refund≤1000)∧(((badB f be)=true→rv=(i:Int))∧((badB f be)=false→((I6 ((i:Int)+1))∧yY E l f (i+1)))))))∧(¬ ((i:Int)<(l.length:Int))→rv=(-1)))):yY E l f i:=by
 rcases bft (decide ((i:Int)<(l.length:Int))) with hc0 | hc0
 · have h:=h.1 (odt hc0)
   obtain ⟨be,h1,h⟩:=h
   obtain ⟨h2,h⟩:=h
   rcases bft (badB f be) with hc1 | hc1
   · have h:=h.1 hc1
     exact p240b_0_0 l f i be hE ⟨hc0,(Qr h1),(rp cBd 2 0 2 h1),(u185 (badB_ok be f h2)),hc1,trivial⟩ (AvLe.of_eq (by rw [h]; try rfl))
   · have h:=h.2 hc1
     obtain ⟨q6_2,h⟩:=h
     exact p240b_0_1 l f i be hE ⟨hc0,(Qr h1),(rp cBd 2 0 2 h1),(u185 (badB_ok be f h2)),hc1,q6_2,trivial⟩ h
 · have h:=h.2 (odf hc0)
   exact p240b_0_2 l f i hE ⟨hc0,trivial⟩ (AvLe.of_eq (by rw [h]; try rfl))
theorem idxBad_ok (l:List Bndl) (f:Fair) (h:(∀ x ∈ l,0≤f.refund∧f.refund≤1000)∧l.length≤9223372036854775807):Pure Try.prog 240 [.rsl (XN l) 0 l.length,.clos 185 [] [.rptr [.int .i64 f.purses,.int .i64 f.boxes,.rsl (rowI f.stock) 0 f.stock.length,.rsl (rowI f.cash) 0 f.cash.length,.rsl (XN f.bundles) 0 f.bundles.length,.int .i64 f.refund,.int .i64 f.band,.int .i64 f.hours] 0]] (.int .i64 (idxG (badB f) l)):=Qy Try.func240 f240bb fun E hE=>by
 have hl:=h.2
 refine f240bW l f (rv:=idxG (badB f) l) hE (Yp (badB f) l l.length 0 (by omega) (fun j x hj=>by omega) (fun i=>yY E l f i) (fun i hi' h1 h2=>?_) (fun _ h2=>?_))
 · have hx:l[i]?=some l[i]:=List.getElem?_eq_getElem hi'
   have hm:=List.mem_of_getElem? hx
   exact f240bW0 l f i (rv:=idxG (badB f) l) hE ⟨fun _=>⟨_,hx,h.1 _ hm,fun hp=>h1 _ hx (by simpa using hp),fun hp=>⟨by omega,h2 _ hx (by simpa using hp)⟩⟩,fun h=>by omega⟩
 · exact f240bW0 l f _ (rv:=idxG (badB f) l) hE ⟨fun h=>by omega,fun _=>h2⟩
theorem f184bb:Try.f184.body=some (Qe Try.prog 184):=by kernel_rfl
abbrev z184b_1 (l:(List Bndl)) (f:Fair):List AV:=[.rsl (XN l) 0 l.length,.clos 185 [] [.rptr [.int .i64 f.purses,.int .i64 f.boxes,.rsl (rowI f.stock) 0 f.stock.length,.rsl (rowI f.cash) 0 f.cash.length,.rsl (XN f.bundles) 0 f.bundles.length,.int .i64 f.refund,.int .i64 f.band,.int .i64 f.hours] 0]]
theorem yD (l:(List Bndl)) (f:Fair) {E:Env} {res:AV} (hE:Qg Try.prog 184 res E) (ho:AllP [Qf Try.prog (.clos 240 [] []) (z184b_1 l f) (.int .i64 (idxG (badB f) l))])
 (hr:AvLe (.bool (decide ((idxG (badB f) l)≥0))) res):G Try.prog E [.code (Qe Try.prog 184)] ⟨(z184b_1 l f)++unds (Try.f184.ntmps - 2),[]⟩ :=
 Qd (n:=400) (evs:=[.v (.int .i64 (idxG (badB f) l))]) (obs:=_) hE Try.func184 Qi (by kernel_rfl) ho hr
theorem f184bW (l:(List Bndl)) (f:Fair) {E:Env} {rv:Bool} (hE:Qg Try.prog 184 (.bool rv) E)
 (h:(((∀ x ∈ l,0≤f.refund∧f.refund≤1000)∧l.length≤9223372036854775807)∧rv=(decide ((idxG (badB f) l)≥0)))):G Try.prog E [.code (Qe Try.prog 184)] ⟨[.rsl (XN l) 0 l.length,.clos 185 [] [.rptr [.int .i64 f.purses,.int .i64 f.boxes,.rsl (rowI f.stock) 0 f.stock.length,.rsl (rowI f.cash) 0 f.cash.length,.rsl (XN f.bundles) 0 f.bundles.length,.int .i64 f.refund,.int .i64 f.band,.int .i64 f.hours] 0]]++unds (Try.f184.ntmps - 2),[]⟩:=by
 obtain ⟨h1,h⟩:=h
 exact yD l f hE ⟨(Qn Try.func240 (by kernel_rfl) f240bb (idxBad_ok l f h1)),trivial⟩ (AvLe.of_eq (by rw [h]; try rfl))
theorem anyBad_ok (l:List Bndl) (f:Fair) (h:(∀ x ∈ l,0≤f.refund∧f.refund≤1000)∧l.length≤9223372036854775807):Pure Try.prog 184 [.rsl (XN l) 0 l.length,.clos 185 [] [.rptr [.int .i64 f.purses,.int .i64 f.boxes,.rsl (rowI f.stock) 0 f.stock.length,.rsl (rowI f.cash) 0 f.cash.length,.rsl (XN f.bundles) 0 f.bundles.length,.int .i64 f.refund,.int .i64 f.band,.int .i64 f.hours] 0]] (.bool (l.any (badB f))):=Qy Try.func184 f184bb fun E hE =>
 f184bW l f (rv:=l.any (badB f)) hE ⟨h,(Vz _ _).symm⟩
theorem f114b:Try.f114.body=some (Qe Try.prog 114):=by kernel_rfl
theorem u114 {a c k:List AV} {r:AV} (h:Pure Try.prog 114 (a++c++k) r):Qf Try.prog (.clos 114 a k) c r:=Qn Try.func114 (by kernel_rfl) f114b h
abbrev Ye (f:Fair):List AV:=[.int .i64 f.purses,.int .i64 f.boxes,.rsl (rowI f.stock) 0 f.stock.length,.rsl (rowI f.cash) 0 f.cash.length,.rsl (XN f.bundles) 0 f.bundles.length,.int .i64 f.refund,.int .i64 f.band,.int .i64 f.hours]
abbrev XU:List AV:=[.rptr [.int .i64 0] 0,.rptr [.int .i64 100000] 0]
abbrev Ym:List AV:=[.rptr [.int .i64 0] 0,.rptr [.int .i64 1000000] 0]
abbrev YI (f:Fair):List AV:=[.int .i64 (f.stock.length:Int),.int .i64 1,.int .i64 8]
abbrev WF (f:Fair):List AV:=[.rsl (rowI f.stock) 0 f.stock.length,.clos 183 [] XU]
abbrev qH (f:Fair):List AV:=[.rsl (rowI f.cash) 0 f.cash.length,.clos 183 [] Ym]
abbrev z114_7 (f:Fair):List AV:=[.int .i64 f.refund,.int .i64 0,.int .i64 1000]
abbrev z114_8 (f:Fair):List AV:=[.int .i64 f.band,.int .i64 0,.int .i64 1000000]
theorem p114_start_0 (f:Fair) {E:Env} {res:AV} (hE:Qg Try.prog 114 res E) (ho:AllP [Qf Try.prog (.clos 115 [] []) (YI f) (.bool (Qb (f.stock.length:Int) 1 8)),(!(Qb (f.stock.length:Int) 1 8))=true,true=true,true=true,true=true,true=true,true=true,true=true,true=true,true=true,true=true,true=true])
 (hr:AvLe (.int .i64 10) res):G Try.prog E [.code (Qe Try.prog 114)] ⟨[.agg (Ye f)]++unds (Try.f114.ntmps - 1),[]⟩ :=
 Qd (n:=400) (evs:=[.v (.bool (Qb (f.stock.length:Int) 1 8)),.b true,.b true,.b true,.b true,.b true,.b true,.b true,.b true,.b true,.b true,.b true]) (obs:=_) hE Try.func114 Qi (by kernel_rfl) ho hr
theorem p114_start_1 (f:Fair) {E:Env} {res:AV} (hE:Qg Try.prog 114 res E) (ho:AllP [Qf Try.prog (.clos 115 [] []) (YI f) (.bool (Qb (f.stock.length:Int) 1 8)),(!(Qb (f.stock.length:Int) 1 8))=false,((f.cash.length:Int) != (f.stock.length:Int))=true,true=true,true=true,true=true,true=true,true=true,true=true,true=true,true=true,true=true])
 (hr:AvLe (.int .i64 10) res):G Try.prog E [.code (Qe Try.prog 114)] ⟨[.agg (Ye f)]++unds (Try.f114.ntmps - 1),[]⟩ :=
 Qd (n:=400) (evs:=[.v (.bool (Qb (f.stock.length:Int) 1 8)),.b false,.b true,.b true,.b true,.b true,.b true,.b true,.b true,.b true,.b true,.b true]) (obs:=_) hE Try.func114 Qi (by kernel_rfl) ho hr
theorem p114_start_2 (f:Fair) {E:Env} {res:AV} (hE:Qg Try.prog 114 res E) (ho:AllP [Qf Try.prog (.clos 115 [] []) (YI f) (.bool (Qb (f.stock.length:Int) 1 8)),(!(Qb (f.stock.length:Int) 1 8))=false,((f.cash.length:Int) != (f.stock.length:Int))=false,Qf Try.prog (.clos 115 [] []) [.int .i64 f.purses,.int .i64 0,.int .i64 20] (.bool (Qb f.purses 0 20)),(!(Qb f.purses 0 20))=true,true=true,true=true,true=true,true=true,true=true,true=true,true=true,true=true])
 (hr:AvLe (.int .i64 10) res):G Try.prog E [.code (Qe Try.prog 114)] ⟨[.agg (Ye f)]++unds (Try.f114.ntmps - 1),[]⟩ :=
 Qd (n:=400) (evs:=[.v (.bool (Qb (f.stock.length:Int) 1 8)),.b false,.b false,.v (.bool (Qb f.purses 0 20)),.b true,.b true,.b true,.b true,.b true,.b true,.b true,.b true,.b true]) (obs:=_) hE Try.func114 Qi (by kernel_rfl) ho hr
theorem p114_start_3 (f:Fair) {E:Env} {res:AV} (hE:Qg Try.prog 114 res E) (ho:AllP [Qf Try.prog (.clos 115 [] []) (YI f) (.bool (Qb (f.stock.length:Int) 1 8)),(!(Qb (f.stock.length:Int) 1 8))=false,((f.cash.length:Int) != (f.stock.length:Int))=false,Qf Try.prog (.clos 115 [] []) [.int .i64 f.purses,.int .i64 0,.int .i64 20] (.bool (Qb f.purses 0 20)),(!(Qb f.purses 0 20))=false,Qf Try.prog (.clos 115 [] []) [.int .i64 f.boxes,.int .i64 0,.int .i64 12] (.bool (Qb f.boxes 0 12)),(!(Qb f.boxes 0 12))=true,true=true,true=true,true=true,true=true,true=true,true=true,true=true])
 (hr:AvLe (.int .i64 10) res):G Try.prog E [.code (Qe Try.prog 114)] ⟨[.agg (Ye f)]++unds (Try.f114.ntmps - 1),[]⟩ :=
 Qd (n:=400) (evs:=[.v (.bool (Qb (f.stock.length:Int) 1 8)),.b false,.b false,.v (.bool (Qb f.purses 0 20)),.b false,.v (.bool (Qb f.boxes 0 12)),.b true,.b true,.b true,.b true,.b true,.b true,.b true,.b true]) (obs:=_) hE Try.func114 Qi (by kernel_rfl) ho hr
theorem p114_start_4 (f:Fair) {E:Env} {res:AV} (hE:Qg Try.prog 114 res E) (ho:AllP [Qf Try.prog (.clos 115 [] []) (YI f) (.bool (Qb (f.stock.length:Int) 1 8)),(!(Qb (f.stock.length:Int) 1 8))=false,((f.cash.length:Int) != (f.stock.length:Int))=false,Qf Try.prog (.clos 115 [] []) [.int .i64 f.purses,.int .i64 0,.int .i64 20] (.bool (Qb f.purses 0 20)),(!(Qb f.purses 0 20))=false,Qf Try.prog (.clos 115 [] []) [.int .i64 f.boxes,.int .i64 0,.int .i64 12] (.bool (Qb f.boxes 0 12)),(!(Qb f.boxes 0 12))=false,(decide ((f.bundles.length:Int) > 6))=true,true=true,true=true,true=true,true=true,true=true,true=true])
 (hr:AvLe (.int .i64 10) res):G Try.prog E [.code (Qe Try.prog 114)] ⟨[.agg (Ye f)]++unds (Try.f114.ntmps - 1),[]⟩ :=
 Qd (n:=400) (evs:=[.v (.bool (Qb (f.stock.length:Int) 1 8)),.b false,.b false,.v (.bool (Qb f.purses 0 20)),.b false,.v (.bool (Qb f.boxes 0 12)),.b false,.b true,.b true,.b true,.b true,.b true,.b true,.b true]) (obs:=_) hE Try.func114 Qi (by kernel_rfl) ho hr
theorem p114_start_5 (f:Fair) {E:Env} {res:AV} (hE:Qg Try.prog 114 res E) (ho:AllP [Qf Try.prog (.clos 115 [] []) (YI f) (.bool (Qb (f.stock.length:Int) 1 8)),(!(Qb (f.stock.length:Int) 1 8))=false,((f.cash.length:Int) != (f.stock.length:Int))=false,Qf Try.prog (.clos 115 [] []) [.int .i64 f.purses,.int .i64 0,.int .i64 20] (.bool (Qb f.purses 0 20)),(!(Qb f.purses 0 20))=false,Qf Try.prog (.clos 115 [] []) [.int .i64 f.boxes,.int .i64 0,.int .i64 12] (.bool (Qb f.boxes 0 12)),(!(Qb f.boxes 0 12))=false,(decide ((f.bundles.length:Int) > 6))=false,Qf Try.prog (.clos 182 [] []) [.int .i64 0,.int .i64 100000] (.clos 183 [] XU),Qf Try.prog (.clos 76 [] []) (WF f) (.bool (f.stock.any (outB 0 100000))),(f.stock.any (outB 0 100000))=true,true=true,true=true,true=true,true=true,true=true])
 (hr:AvLe (.int .i64 10) res):G Try.prog E [.code (Qe Try.prog 114)] ⟨[.agg (Ye f)]++unds (Try.f114.ntmps - 1),[]⟩ :=
 Qd (n:=400) (evs:=[.v (.bool (Qb (f.stock.length:Int) 1 8)),.b false,.b false,.v (.bool (Qb f.purses 0 20)),.b false,.v (.bool (Qb f.boxes 0 12)),.b false,.b false,.v (.clos 183 [] XU),.v (.bool (f.stock.any (outB 0 100000))),.b true,.b true,.b true,.b true,.b true,.b true]) (obs:=_) hE Try.func114 Qi (by kernel_rfl) ho hr
theorem p114_start_6 (f:Fair) {E:Env} {res:AV} (hE:Qg Try.prog 114 res E) (ho:AllP [Qf Try.prog (.clos 115 [] []) (YI f) (.bool (Qb (f.stock.length:Int) 1 8)),(!(Qb (f.stock.length:Int) 1 8))=false,((f.cash.length:Int) != (f.stock.length:Int))=false,Qf Try.prog (.clos 115 [] []) [.int .i64 f.purses,.int .i64 0,.int .i64 20] (.bool (Qb f.purses 0 20)),(!(Qb f.purses 0 20))=false,Qf Try.prog (.clos 115 [] []) [.int .i64 f.boxes,.int .i64 0,.int .i64 12] (.bool (Qb f.boxes 0 12)),(!(Qb f.boxes 0 12))=false,(decide ((f.bundles.length:Int) > 6))=false,Qf Try.prog (.clos 182 [] []) [.int .i64 0,.int .i64 100000] (.clos 183 [] XU),Qf Try.prog (.clos 76 [] []) (WF f) (.bool (f.stock.any (outB 0 100000))),(f.stock.any (outB 0 100000))=false,Qf Try.prog (.clos 182 [] []) [.int .i64 0,.int .i64 1000000] (.clos 183 [] Ym),Qf Try.prog (.clos 76 [] []) (qH f) (.bool (f.cash.any (outB 0 1000000))),(f.cash.any (outB 0 1000000))=true,true=true,true=true,true=true,true=true])
 (hr:AvLe (.int .i64 10) res):G Try.prog E [.code (Qe Try.prog 114)] ⟨[.agg (Ye f)]++unds (Try.f114.ntmps - 1),[]⟩ :=
 Qd (n:=400) (evs:=[.v (.bool (Qb (f.stock.length:Int) 1 8)),.b false,.b false,.v (.bool (Qb f.purses 0 20)),.b false,.v (.bool (Qb f.boxes 0 12)),.b false,.b false,.v (.clos 183 [] XU),.v (.bool (f.stock.any (outB 0 100000))),.b false,.v (.clos 183 [] Ym),.v (.bool (f.cash.any (outB 0 1000000))),.b true,.b true,.b true,.b true,.b true]) (obs:=_) hE Try.func114 Qi (by kernel_rfl) ho hr
theorem p114_start_7 (f:Fair) {E:Env} {res:AV} (hE:Qg Try.prog 114 res E) (ho:AllP [Qf Try.prog (.clos 115 [] []) (YI f) (.bool (Qb (f.stock.length:Int) 1 8)),(!(Qb (f.stock.length:Int) 1 8))=false,((f.cash.length:Int) != (f.stock.length:Int))=false,Qf Try.prog (.clos 115 [] []) [.int .i64 f.purses,.int .i64 0,.int .i64 20] (.bool (Qb f.purses 0 20)),(!(Qb f.purses 0 20))=false,Qf Try.prog (.clos 115 [] []) [.int .i64 f.boxes,.int .i64 0,.int .i64 12] (.bool (Qb f.boxes 0 12)),(!(Qb f.boxes 0 12))=false,(decide ((f.bundles.length:Int) > 6))=false,Qf Try.prog (.clos 182 [] []) [.int .i64 0,.int .i64 100000] (.clos 183 [] XU),Qf Try.prog (.clos 76 [] []) (WF f) (.bool (f.stock.any (outB 0 100000))),(f.stock.any (outB 0 100000))=false,Qf Try.prog (.clos 182 [] []) [.int .i64 0,.int .i64 1000000] (.clos 183 [] Ym),Qf Try.prog (.clos 76 [] []) (qH f) (.bool (f.cash.any (outB 0 1000000))),(f.cash.any (outB 0 1000000))=false,Qf Try.prog (.clos 115 [] []) (z114_7 f) (.bool (Qb f.refund 0 1000)),(!(Qb f.refund 0 1000))=true,true=true,true=true,true=true])
 (hr:AvLe (.int .i64 10) res):G Try.prog E [.code (Qe Try.prog 114)] ⟨[.agg (Ye f)]++unds (Try.f114.ntmps - 1),[]⟩ :=
 Qd (n:=400) (evs:=[.v (.bool (Qb (f.stock.length:Int) 1 8)),.b false,.b false,.v (.bool (Qb f.purses 0 20)),.b false,.v (.bool (Qb f.boxes 0 12)),.b false,.b false,.v (.clos 183 [] XU),.v (.bool (f.stock.any (outB 0 100000))),.b false,.v (.clos 183 [] Ym),.v (.bool (f.cash.any (outB 0 1000000))),.b false,.v (.bool (Qb f.refund 0 1000)),.b true,.b true,.b true,.b true]) (obs:=_) hE Try.func114 Qi (by kernel_rfl) ho hr
theorem p114_start_8 (f:Fair) {E:Env} {res:AV} (hE:Qg Try.prog 114 res E) (ho:AllP [Qf Try.prog (.clos 115 [] []) (YI f) (.bool (Qb (f.stock.length:Int) 1 8)),(!(Qb (f.stock.length:Int) 1 8))=false,((f.cash.length:Int) != (f.stock.length:Int))=false,Qf Try.prog (.clos 115 [] []) [.int .i64 f.purses,.int .i64 0,.int .i64 20] (.bool (Qb f.purses 0 20)),(!(Qb f.purses 0 20))=false,Qf Try.prog (.clos 115 [] []) [.int .i64 f.boxes,.int .i64 0,.int .i64 12] (.bool (Qb f.boxes 0 12)),(!(Qb f.boxes 0 12))=false,(decide ((f.bundles.length:Int) > 6))=false,Qf Try.prog (.clos 182 [] []) [.int .i64 0,.int .i64 100000] (.clos 183 [] XU),Qf Try.prog (.clos 76 [] []) (WF f) (.bool (f.stock.any (outB 0 100000))),(f.stock.any (outB 0 100000))=false,Qf Try.prog (.clos 182 [] []) [.int .i64 0,.int .i64 1000000] (.clos 183 [] Ym),Qf Try.prog (.clos 76 [] []) (qH f) (.bool (f.cash.any (outB 0 1000000))),(f.cash.any (outB 0 1000000))=false,Qf Try.prog (.clos 115 [] []) (z114_7 f) (.bool (Qb f.refund 0 1000)),(!(Qb f.refund 0 1000))=false,Qf Try.prog (.clos 115 [] []) (z114_8 f) (.bool (Qb f.band 0 1000000)),(!(Qb f.band 0 1000000))=true,true=true,true=true])
 (hr:AvLe (.int .i64 10) res):G Try.prog E [.code (Qe Try.prog 114)] ⟨[.agg (Ye f)]++unds (Try.f114.ntmps - 1),[]⟩ :=
 Qd (n:=400) (evs:=[.v (.bool (Qb (f.stock.length:Int) 1 8)),.b false,.b false,.v (.bool (Qb f.purses 0 20)),.b false,.v (.bool (Qb f.boxes 0 12)),.b false,.b false,.v (.clos 183 [] XU),.v (.bool (f.stock.any (outB 0 100000))),.b false,.v (.clos 183 [] Ym),.v (.bool (f.cash.any (outB 0 1000000))),.b false,.v (.bool (Qb f.refund 0 1000)),.b false,.v (.bool (Qb f.band 0 1000000)),.b true,.b true,.b true]) (obs:=_) hE Try.func114 Qi (by kernel_rfl) ho hr
theorem p114_start_9 (f:Fair) {E:Env} {res:AV} (hE:Qg Try.prog 114 res E) (ho:AllP [Qf Try.prog (.clos 115 [] []) (YI f) (.bool (Qb (f.stock.length:Int) 1 8)),(!(Qb (f.stock.length:Int) 1 8))=false,((f.cash.length:Int) != (f.stock.length:Int))=false,Qf Try.prog (.clos 115 [] []) [.int .i64 f.purses,.int .i64 0,.int .i64 20] (.bool (Qb f.purses 0 20)),(!(Qb f.purses 0 20))=false,Qf Try.prog (.clos 115 [] []) [.int .i64 f.boxes,.int .i64 0,.int .i64 12] (.bool (Qb f.boxes 0 12)),(!(Qb f.boxes 0 12))=false,(decide ((f.bundles.length:Int) > 6))=false,Qf Try.prog (.clos 182 [] []) [.int .i64 0,.int .i64 100000] (.clos 183 [] XU),Qf Try.prog (.clos 76 [] []) (WF f) (.bool (f.stock.any (outB 0 100000))),(f.stock.any (outB 0 100000))=false,Qf Try.prog (.clos 182 [] []) [.int .i64 0,.int .i64 1000000] (.clos 183 [] Ym),Qf Try.prog (.clos 76 [] []) (qH f) (.bool (f.cash.any (outB 0 1000000))),(f.cash.any (outB 0 1000000))=false,Qf Try.prog (.clos 115 [] []) (z114_7 f) (.bool (Qb f.refund 0 1000)),(!(Qb f.refund 0 1000))=false,Qf Try.prog (.clos 115 [] []) (z114_8 f) (.bool (Qb f.band 0 1000000)),(!(Qb f.band 0 1000000))=false,Qf Try.prog (.clos 115 [] []) [.int .i64 f.hours,.int .i64 1,.int .i64 1440] (.bool (Qb f.hours 1 1440)),(!(Qb f.hours 1 1440))=true,true=true])
 (hr:AvLe (.int .i64 10) res):G Try.prog E [.code (Qe Try.prog 114)] ⟨[.agg (Ye f)]++unds (Try.f114.ntmps - 1),[]⟩ :=
 Qd (n:=400) (evs:=[.v (.bool (Qb (f.stock.length:Int) 1 8)),.b false,.b false,.v (.bool (Qb f.purses 0 20)),.b false,.v (.bool (Qb f.boxes 0 12)),.b false,.b false,.v (.clos 183 [] XU),.v (.bool (f.stock.any (outB 0 100000))),.b false,.v (.clos 183 [] Ym),.v (.bool (f.cash.any (outB 0 1000000))),.b false,.v (.bool (Qb f.refund 0 1000)),.b false,.v (.bool (Qb f.band 0 1000000)),.b false,.v (.bool (Qb f.hours 1 1440)),.b true,.b true]) (obs:=_) hE Try.func114 Qi (by kernel_rfl) ho hr
theorem yF (f:Fair) {E:Env} {res:AV} (hE:Qg Try.prog 114 res E) (ho:AllP [Qf Try.prog (.clos 115 [] []) (YI f) (.bool (Qb (f.stock.length:Int) 1 8)),(!(Qb (f.stock.length:Int) 1 8))=false,((f.cash.length:Int) != (f.stock.length:Int))=false,Qf Try.prog (.clos 115 [] []) [.int .i64 f.purses,.int .i64 0,.int .i64 20] (.bool (Qb f.purses 0 20)),(!(Qb f.purses 0 20))=false,Qf Try.prog (.clos 115 [] []) [.int .i64 f.boxes,.int .i64 0,.int .i64 12] (.bool (Qb f.boxes 0 12)),(!(Qb f.boxes 0 12))=false,(decide ((f.bundles.length:Int) > 6))=false,Qf Try.prog (.clos 182 [] []) [.int .i64 0,.int .i64 100000] (.clos 183 [] XU),Qf Try.prog (.clos 76 [] []) (WF f) (.bool (f.stock.any (outB 0 100000))),(f.stock.any (outB 0 100000))=false,Qf Try.prog (.clos 182 [] []) [.int .i64 0,.int .i64 1000000] (.clos 183 [] Ym),Qf Try.prog (.clos 76 [] []) (qH f) (.bool (f.cash.any (outB 0 1000000))),(f.cash.any (outB 0 1000000))=false,Qf Try.prog (.clos 115 [] []) (z114_7 f) (.bool (Qb f.refund 0 1000)),(!(Qb f.refund 0 1000))=false,Qf Try.prog (.clos 115 [] []) (z114_8 f) (.bool (Qb f.band 0 1000000)),(!(Qb f.band 0 1000000))=false,Qf Try.prog (.clos 115 [] []) [.int .i64 f.hours,.int .i64 1,.int .i64 1440] (.bool (Qb f.hours 1 1440)),(!(Qb f.hours 1 1440))=false,Qf Try.prog (.clos 184 [] []) [.rsl (XN f.bundles) 0 f.bundles.length,.clos 185 [] [.rptr (Ye f) 0]] (.bool (f.bundles.any (badB f))),(f.bundles.any (badB f))=true])
 (hr:AvLe (.int .i64 10) res):G Try.prog E [.code (Qe Try.prog 114)] ⟨[.agg (Ye f)]++unds (Try.f114.ntmps - 1),[]⟩ :=
 Qd (n:=400) (evs:=[.v (.bool (Qb (f.stock.length:Int) 1 8)),.b false,.b false,.v (.bool (Qb f.purses 0 20)),.b false,.v (.bool (Qb f.boxes 0 12)),.b false,.b false,.v (.clos 183 [] XU),.v (.bool (f.stock.any (outB 0 100000))),.b false,.v (.clos 183 [] Ym),.v (.bool (f.cash.any (outB 0 1000000))),.b false,.v (.bool (Qb f.refund 0 1000)),.b false,.v (.bool (Qb f.band 0 1000000)),.b false,.v (.bool (Qb f.hours 1 1440)),.b false,.v (.bool (f.bundles.any (badB f))),.b true]) (obs:=_) hE Try.func114 Qi (by kernel_rfl) ho hr
theorem yE (f:Fair) {E:Env} {res:AV} (hE:Qg Try.prog 114 res E) (ho:AllP [Qf Try.prog (.clos 115 [] []) (YI f) (.bool (Qb (f.stock.length:Int) 1 8)),(!(Qb (f.stock.length:Int) 1 8))=false,((f.cash.length:Int) != (f.stock.length:Int))=false,Qf Try.prog (.clos 115 [] []) [.int .i64 f.purses,.int .i64 0,.int .i64 20] (.bool (Qb f.purses 0 20)),(!(Qb f.purses 0 20))=false,Qf Try.prog (.clos 115 [] []) [.int .i64 f.boxes,.int .i64 0,.int .i64 12] (.bool (Qb f.boxes 0 12)),(!(Qb f.boxes 0 12))=false,(decide ((f.bundles.length:Int) > 6))=false,Qf Try.prog (.clos 182 [] []) [.int .i64 0,.int .i64 100000] (.clos 183 [] XU),Qf Try.prog (.clos 76 [] []) (WF f) (.bool (f.stock.any (outB 0 100000))),(f.stock.any (outB 0 100000))=false,Qf Try.prog (.clos 182 [] []) [.int .i64 0,.int .i64 1000000] (.clos 183 [] Ym),Qf Try.prog (.clos 76 [] []) (qH f) (.bool (f.cash.any (outB 0 1000000))),(f.cash.any (outB 0 1000000))=false,Qf Try.prog (.clos 115 [] []) (z114_7 f) (.bool (Qb f.refund 0 1000)),(!(Qb f.refund 0 1000))=false,Qf Try.prog (.clos 115 [] []) (z114_8 f) (.bool (Qb f.band 0 1000000)),(!(Qb f.band 0 1000000))=false,Qf Try.prog (.clos 115 [] []) [.int .i64 f.hours,.int .i64 1,.int .i64 1440] (.bool (Qb f.hours 1 1440)),(!(Qb f.hours 1 1440))=false,Qf Try.prog (.clos 184 [] []) [.rsl (XN f.bundles) 0 f.bundles.length,.clos 185 [] [.rptr (Ye f) 0]] (.bool (f.bundles.any (badB f))),(f.bundles.any (badB f))=false])
 (hr:AvLe (.int .i64 0) res):G Try.prog E [.code (Qe Try.prog 114)] ⟨[.agg (Ye f)]++unds (Try.f114.ntmps - 1),[]⟩ :=
 Qd (n:=400) (evs:=[.v (.bool (Qb (f.stock.length:Int) 1 8)),.b false,.b false,.v (.bool (Qb f.purses 0 20)),.b false,.v (.bool (Qb f.boxes 0 12)),.b false,.b false,.v (.clos 183 [] XU),.v (.bool (f.stock.any (outB 0 100000))),.b false,.v (.clos 183 [] Ym),.v (.bool (f.cash.any (outB 0 1000000))),.b false,.v (.bool (Qb f.refund 0 1000)),.b false,.v (.bool (Qb f.band 0 1000000)),.b false,.v (.bool (Qb f.hours 1 1440)),.b false,.v (.bool (f.bundles.any (badB f))),.b false]) (obs:=_) hE Try.func114 Qi (by kernel_rfl) ho hr
theorem f114W (f:Fair) {E:Env} {rv:Int} (hE:Qg Try.prog 114 (.int .i64 rv) E)
 (h:(((Qb (f.stock.length:Int) 1 8)=false→rv=10)∧((Qb (f.stock.length:Int) 1 8)=true→((¬ ((f.cash.length:Int)=(f.stock.length:Int))→rv=10)∧((f.cash.length:Int)=(f.stock.length:Int)→(((Qb f.purses 0 20)=false→rv=10)∧((Qb f.purses 0 20)=true→(((Qb f.boxes 0 12)=false→rv=10)∧((Qb f.boxes 0 12)=true→(((f.bundles.length:Int) > 6→rv=10)∧(¬ ((f.bundles.length:Int) > 6)→((f.stock.length≤9223372036854775807)∧(((f.stock.any (outB 0 100000))=true→rv=10)∧((f.stock.any (outB 0 100000))=false→((f.cash.length≤9223372036854775807)∧(((f.cash.any (outB 0 1000000))=true→rv=10)∧((f.cash.any (outB 0 1000000))=false→(((Qb f.refund 0 1000)=false→rv=10)∧((Qb f.refund 0 1000)=true→(((Qb f.band 0 1000000)=false→rv=10)∧((Qb f.band 0 1000000)=true→(((Qb f.hours 1 1440)=false→rv=10)∧((Qb f.hours 1 1440)=true→(((∀ x ∈ f.bundles,0≤f.refund∧f.refund≤1000)∧f.bundles.length≤9223372036854775807)∧(((f.bundles.any (badB f))=true→rv=10)∧((f.bundles.any (badB f))=false→rv=0)))))))))))))))))))))))))):G Try.prog E [.code (Qe Try.prog 114)] ⟨[.agg [.int .i64 f.purses,.int .i64 f.boxes,.rsl (rowI f.stock) 0 f.stock.length,.rsl (rowI f.cash) 0 f.cash.length,.rsl (XN f.bundles) 0 f.bundles.length,.int .i64 f.refund,.int .i64 f.band,.int .i64 f.hours]]++unds (Try.f114.ntmps - 1),[]⟩:=by
 rcases bft (!(Qb (f.stock.length:Int) 1 8)) with hc0 | hc0
 · have h:=h.1 (bnT hc0)
   exact p114_start_0 f hE ⟨(u115 (Qk (f.stock.length:Int) 1 8)),hc0,rfl,rfl,rfl,rfl,rfl,rfl,rfl,rfl,rfl,rfl,trivial⟩ (AvLe.of_eq (by rw [h]; try rfl))
 · have h:=h.2 (bnF hc0)
   rcases bft ((f.cash.length:Int) != (f.stock.length:Int)) with hc1 | hc1
   · have h:=h.1 (bneT hc1)
     exact p114_start_1 f hE ⟨(u115 (Qk (f.stock.length:Int) 1 8)),hc0,hc1,rfl,rfl,rfl,rfl,rfl,rfl,rfl,rfl,rfl,trivial⟩ (AvLe.of_eq (by rw [h]; try rfl))
   · have h:=h.2 (bneF hc1)
     rcases bft (!(Qb f.purses 0 20)) with hc2 | hc2
     · have h:=h.1 (bnT hc2)
       exact p114_start_2 f hE ⟨(u115 (Qk (f.stock.length:Int) 1 8)),hc0,hc1,(u115 (Qk f.purses 0 20)),hc2,rfl,rfl,rfl,rfl,rfl,rfl,rfl,rfl,trivial⟩ (AvLe.of_eq (by rw [h]; try rfl))
     · have h:=h.2 (bnF hc2)
       rcases bft (!(Qb f.boxes 0 12)) with hc3 | hc3
       · have h:=h.1 (bnT hc3)
         exact p114_start_3 f hE ⟨(u115 (Qk (f.stock.length:Int) 1 8)),hc0,hc1,(u115 (Qk f.purses 0 20)),hc2,(u115 (Qk f.boxes 0 12)),hc3,rfl,rfl,rfl,rfl,rfl,rfl,rfl,trivial⟩ (AvLe.of_eq (by rw [h]; try rfl))
       · have h:=h.2 (bnF hc3)
         rcases bft (decide ((f.bundles.length:Int) > 6)) with hc4 | hc4
         · have h:=h.1 (odt hc4)
           exact p114_start_4 f hE ⟨(u115 (Qk (f.stock.length:Int) 1 8)),hc0,hc1,(u115 (Qk f.purses 0 20)),hc2,(u115 (Qk f.boxes 0 12)),hc3,hc4,rfl,rfl,rfl,rfl,rfl,rfl,trivial⟩ (AvLe.of_eq (by rw [h]; try rfl))
         · have h:=h.2 (odf hc4)
           obtain ⟨h1,h⟩:=h
           rcases bft (f.stock.any (outB 0 100000)) with hc5 | hc5
           · have h:=h.1 hc5
             exact p114_start_5 f hE ⟨(u115 (Qk (f.stock.length:Int) 1 8)),hc0,hc1,(u115 (Qk f.purses 0 20)),hc2,(u115 (Qk f.boxes 0 12)),hc3,hc4,(u182 (Yn 0 100000)),(Qn Try.func76 (by kernel_rfl) VB (Xc f.stock 0 100000 h1)),hc5,rfl,rfl,rfl,rfl,rfl,trivial⟩ (AvLe.of_eq (by rw [h]; try rfl))
           · have h:=h.2 hc5
             obtain ⟨h2,h⟩:=h
             rcases bft (f.cash.any (outB 0 1000000)) with hc6 | hc6
             · have h:=h.1 hc6
               exact p114_start_6 f hE ⟨(u115 (Qk (f.stock.length:Int) 1 8)),hc0,hc1,(u115 (Qk f.purses 0 20)),hc2,(u115 (Qk f.boxes 0 12)),hc3,hc4,(u182 (Yn 0 100000)),(Qn Try.func76 (by kernel_rfl) VB (Xc f.stock 0 100000 h1)),hc5,(u182 (Yn 0 1000000)),(Qn Try.func76 (by kernel_rfl) VB (Xc f.cash 0 1000000 h2)),hc6,rfl,rfl,rfl,rfl,trivial⟩ (AvLe.of_eq (by rw [h]; try rfl))
             · have h:=h.2 hc6
               rcases bft (!(Qb f.refund 0 1000)) with hc7 | hc7
               · have h:=h.1 (bnT hc7)
                 exact p114_start_7 f hE ⟨(u115 (Qk (f.stock.length:Int) 1 8)),hc0,hc1,(u115 (Qk f.purses 0 20)),hc2,(u115 (Qk f.boxes 0 12)),hc3,hc4,(u182 (Yn 0 100000)),(Qn Try.func76 (by kernel_rfl) VB (Xc f.stock 0 100000 h1)),hc5,(u182 (Yn 0 1000000)),(Qn Try.func76 (by kernel_rfl) VB (Xc f.cash 0 1000000 h2)),hc6,(u115 (Qk f.refund 0 1000)),hc7,rfl,rfl,rfl,trivial⟩ (AvLe.of_eq (by rw [h]; try rfl))
               · have h:=h.2 (bnF hc7)
                 rcases bft (!(Qb f.band 0 1000000)) with hc8 | hc8
                 · have h:=h.1 (bnT hc8)
                   exact p114_start_8 f hE ⟨(u115 (Qk (f.stock.length:Int) 1 8)),hc0,hc1,(u115 (Qk f.purses 0 20)),hc2,(u115 (Qk f.boxes 0 12)),hc3,hc4,(u182 (Yn 0 100000)),(Qn Try.func76 (by kernel_rfl) VB (Xc f.stock 0 100000 h1)),hc5,(u182 (Yn 0 1000000)),(Qn Try.func76 (by kernel_rfl) VB (Xc f.cash 0 1000000 h2)),hc6,(u115 (Qk f.refund 0 1000)),hc7,(u115 (Qk f.band 0 1000000)),hc8,rfl,rfl,trivial⟩ (AvLe.of_eq (by rw [h]; try rfl))
                 · have h:=h.2 (bnF hc8)
                   rcases bft (!(Qb f.hours 1 1440)) with hc9 | hc9
                   · have h:=h.1 (bnT hc9)
                     exact p114_start_9 f hE ⟨(u115 (Qk (f.stock.length:Int) 1 8)),hc0,hc1,(u115 (Qk f.purses 0 20)),hc2,(u115 (Qk f.boxes 0 12)),hc3,hc4,(u182 (Yn 0 100000)),(Qn Try.func76 (by kernel_rfl) VB (Xc f.stock 0 100000 h1)),hc5,(u182 (Yn 0 1000000)),(Qn Try.func76 (by kernel_rfl) VB (Xc f.cash 0 1000000 h2)),hc6,(u115 (Qk f.refund 0 1000)),hc7,(u115 (Qk f.band 0 1000000)),hc8,(u115 (Qk f.hours 1 1440)),hc9,rfl,trivial⟩ (AvLe.of_eq (by rw [h]; try rfl))
                   · have h:=h.2 (bnF hc9)
                     obtain ⟨h3,h⟩:=h
                     rcases bft (f.bundles.any (badB f)) with hc10 | hc10
                     · have h:=h.1 hc10
                       exact yF f hE ⟨(u115 (Qk (f.stock.length:Int) 1 8)),hc0,hc1,(u115 (Qk f.purses 0 20)),hc2,(u115 (Qk f.boxes 0 12)),hc3,hc4,(u182 (Yn 0 100000)),(Qn Try.func76 (by kernel_rfl) VB (Xc f.stock 0 100000 h1)),hc5,(u182 (Yn 0 1000000)),(Qn Try.func76 (by kernel_rfl) VB (Xc f.cash 0 1000000 h2)),hc6,(u115 (Qk f.refund 0 1000)),hc7,(u115 (Qk f.band 0 1000000)),hc8,(u115 (Qk f.hours 1 1440)),hc9,(Qn Try.func184 (by kernel_rfl) f184bb (anyBad_ok f.bundles f h3)),hc10,trivial⟩ (AvLe.of_eq (by rw [h]; try rfl))
                     · have h:=h.2 hc10
                       exact yE f hE ⟨(u115 (Qk (f.stock.length:Int) 1 8)),hc0,hc1,(u115 (Qk f.purses 0 20)),hc2,(u115 (Qk f.boxes 0 12)),hc3,hc4,(u182 (Yn 0 100000)),(Qn Try.func76 (by kernel_rfl) VB (Xc f.stock 0 100000 h1)),hc5,(u182 (Yn 0 1000000)),(Qn Try.func76 (by kernel_rfl) VB (Xc f.cash 0 1000000 h2)),hc6,(u115 (Qk f.refund 0 1000)),hc7,(u115 (Qk f.band 0 1000000)),hc8,(u115 (Qk f.hours 1 1440)),hc9,(Qn Try.func184 (by kernel_rfl) f184bb (anyBad_ok f.bundles f h3)),hc10,trivial⟩ (AvLe.of_eq (by rw [h]; try rfl))
def Yj (f:Fair):Bool:=Qb f.stock.length 1 8 && (decide (f.cash.length=f.stock.length) && (Qb f.purses 0 20 && (Qb f.boxes 0 12 && (decide (f.bundles.length≤6) && (!(f.stock.any (outB 0 100000)) && (!(f.cash.any (outB 0 1000000)) && (Qb f.refund 0 1000 && (Qb f.band 0 1000000 && (Qb f.hours 1 1440 && !(f.bundles.any (badB f)))))))))))
def Yr (f:Fair):Int:=if Yj f=true then 0 else 10
structure FairSmall (f:Fair):Prop where
 stock:f.stock.length≤1000
 cash:f.cash.length≤1000
 bundles:f.bundles.length≤1000
theorem Xl {f:Fair} (h:Yj f=false):Yr f=10:=by unfold Yr; rw [if_neg (by rw [h]; exact Bool.false_ne_true)]
theorem WK (f:Fair) (hs:FairSmall f):Pure Try.prog 114 [.agg [.int .i64 f.purses,.int .i64 f.boxes,.rsl (rowI f.stock) 0 f.stock.length,.rsl (rowI f.cash) 0 f.cash.length,.rsl (XN f.bundles) 0 f.bundles.length,.int .i64 f.refund,.int .i64 f.band,.int .i64 f.hours]] (.int .i64 (Yr f)):=Qy Try.func114 f114b fun E hE=>by
 have s1:=hs.stock
 have s2:=hs.cash
 have s3:=hs.bundles
 refine f114W f (rv:=Yr f) hE ⟨fun h1=>Xl ?_,fun h1=>⟨fun h2=>Xl ?_,fun h2=>⟨fun h3=>Xl ?_,fun h3=>⟨fun h4=>Xl ?_,fun h4=>⟨fun h5=>Xl ?_,fun h5=>⟨by omega,fun h6=>Xl ?_,fun h6=>⟨by omega,fun h7=>Xl ?_,fun h7=>⟨fun h8=>Xl ?_,fun h8=>⟨fun h9=>Xl ?_,fun h9=>⟨fun h10=>Xl ?_,fun h10=>⟨⟨fun x _=>?_,by omega⟩,fun h11=>Xl ?_,fun h11=>?_⟩⟩⟩⟩⟩⟩⟩⟩⟩⟩⟩
 · unfold Yj; rw [h1]; rfl
 · unfold Yj; rw [decide_eq_false (show ¬ f.cash.length=f.stock.length by omega),Bool.false_and,Bool.and_false]
 · unfold Yj; rw [h3]; simp
 · unfold Yj; rw [h4]; simp
 · unfold Yj; rw [decide_eq_false (show ¬ f.bundles.length≤6 by omega)]; simp
 · unfold Yj; rw [h6]; simp
 · unfold Yj; rw [h7]; simp
 · unfold Yj; rw [h8]; simp
 · unfold Yj; rw [h9]; simp
 · unfold Yj; rw [h10]; simp
 · exact QI.1 h8
 · unfold Yj; rw [h11]; simp
 · unfold Yr
   rw [if_pos]
   unfold Yj
   rw [h1,h3,h4,h6,h7,h8,h9,h10,h11,decide_eq_true (show f.cash.length=f.stock.length by omega),decide_eq_true (show f.bundles.length≤6 by omega)]; rfl
end Go.Proofs.Ytemklbioijmjiaa
namespace Go.Proofs.Ytemklbioijmjiaa
open Go Ax
open Go.Proofs
abbrev NN:Int:=1152921504606846976
/-- The prices so far. -/
def LP (f:Nat→Int) (j:Nat):List Int:=(List.range 1008).map fun i=>if i<j then f i else NN
theorem yh {f:Nat→Int} {j:Nat}:(LP f j).length=1008:=by simp [LP]
theorem Yk {f:Nat→Int} {j i:Nat} (h:i<1008):(LP f j)[i]?=some (if i<j then f i else NN):=by
 unfold LP; rw [List.getElem?_map,List.getElem?_range h]; rfl
theorem LP_set {f:Nat→Int} {j:Nat} (h:j<1008):(LP f j).set j (f j)=LP f (j+1):=by
 refine List.ext_getElem? fun i=>?_
 by_cases hi:i<1008
 · rw [Yk hi]
   by_cases e:j=i
   · subst e
     rw [List.getElem?_set_self (by rw [yh]; omega),if_pos (by omega)]
   · rw [List.getElem?_set_ne e,Yk hi]
     by_cases c:i<j
     · rw [if_pos c,if_pos (by omega)]
     · rw [if_neg c,if_neg (by omega)]
 · rw [List.getElem?_eq_none (by rw [List.length_set,yh]; omega),List.getElem?_eq_none (by rw [yh]; omega)]
theorem LP_zero {f:Nat→Int}:List.replicate 1008 NN=LP f 0:=by
 refine List.ext_getElem? fun i=>?_
 by_cases hi:i<1008
 · rw [Yk hi,List.getElem?_replicate,if_pos hi,if_neg (by omega)]
 · rw [List.getElem?_eq_none (by simp; omega),List.getElem?_eq_none (by rw [yh]; omega)]
def c1 (t:Nat):Int:=if t % 6=0 then 1000*((t / 6:Nat):Int) else NN
def c0 (t:Nat):Int:=1000*((t / 6:Nat):Int)+200*((t % 6:Nat):Int)
def r2:List Int:=(List.replicate 1008 NN).set 0 0
theorem r2_get {j:Nat} (h:j<1008):r2[j]?=some (if j=0 then 0 else NN):=by
 unfold r2
 by_cases e:j=0
 · subst e; rw [List.getElem?_set_self (by simp),if_pos rfl]
 · rw [List.getElem?_set_ne (by omega),List.getElem?_replicate,if_pos h,if_neg e]
theorem VH {t:Nat} (h:t<1008) (h6:t % 6=0):c1 t=1000*((t / 6:Nat):Int)∧0≤c1 t∧c1 t≤200000:=by
 unfold c1; rw [if_pos h6]; omega
theorem qw {t:Nat} (h6:¬ t % 6=0):c1 t=NN:=by unfold c1; rw [if_neg h6]
theorem c0_bd {t:Nat} (h:t<1008):0≤c0 t∧c0 t≤200000:=by unfold c0; omega
theorem c0_step {j:Nat} (h0:1≤j) (h:j<1008):iMin (c1 j) (c0 (j - 1)+200)=c0 j:=by
 unfold iMin
 by_cases h6:j % 6=0
 · obtain ⟨e,-,-⟩:=VH h h6
   rw [e]
   unfold c0
   rw [if_neg (by omega)]; omega
 · rw [qw h6]
   unfold c0 NN
   rw [if_pos (by omega)]; omega
theorem c1_step {j:Nat} (h0:6≤j) (h:j<1008) (h6:(j - 6) % 6=0):iMin NN (c1 (j - 6)+1000)=c1 j:=by
 obtain ⟨e,-,-⟩:=VH (t:=j - 6) (by omega) h6
 obtain ⟨e',-,-⟩:=VH (t:=j) (by omega) (by omega)
 rw [e,e']
 unfold iMin NN
 rw [if_pos (by omega)]; omega
theorem f186b:Try.f186.body=some (Qe Try.prog 186):=by kernel_rfl
theorem u186 {a c k:List AV} {r:AV} (h:Pure Try.prog 186 (a++c++k) r):Qf Try.prog (.clos 186 a k) c r:=Qn Try.func186 (by kernel_rfl) f186b h
def VE (P:Program):List Item:=kAt 400 [.code (Qe P 186)] [.b true,.b true,.b true,.b false,.b true,.b false,.b true,.stop]
def Wp (v4:List Int) (v6:List Int) (j:Nat) (v2:List Int) (g4:Nat) (g6:Nat) (g2:Nat):St:=⟨([.rsl [.int .i64 1,.int .i64 200,.int .i64 6,.int .i64 1000] 0 2,.int .i64 7,J,J,J,J,.int .i64 1007,.sl 0 0 0 3 1,J,.int .i64 0]++jj 43 ([.int .i64 (((List.replicate (Int.toNat (1008:Int)) (1152921504606846976:Int)).length:Nat):Int),.int .i64 (j:Int)]++Js 163)),[⟨true,0,1,false,[.sl 2 g2 0 v2.length 1,.sl 4 g4 0 v4.length 1,.sl 6 g6 0 v6.length 1],true⟩,⟨false,1,1,true,[],false⟩,⟨true,g2,1,true,(rowI v2),true⟩,⟨false,1,1,true,[],false⟩,⟨true,g4,1,true,(rowI v4),true⟩,⟨false,1,1,true,[],false⟩,⟨true,g6,1,true,(rowI v6),true⟩]⟩
def qW (E:Env) (v4:List Int) (v6:List Int) (j:Nat) (v2:List Int):Prop:=∀ g4 g6 g2:Nat,G Try.prog E (VE Try.prog) (Wp v4 v6 j v2 g4 g6 g2)
def Wq (P:Program):List Item:=kAt 400 [.code (Qe P 186)] [.b true,.b true,.b true,.b false,.b true,.b false,.b true,.b false,.b false,.stop]
def f186S3 (v2:List Int) (v4:List Int) (v6:List Int) (t:Nat) (tokens:Nat) (g2:Nat) (g4:Nat) (g6:Nat):St:=⟨([.rsl [.int .i64 1,.int .i64 200,.int .i64 6,.int .i64 1000] 0 2]++jj 5 ([.int .i64 1007,.sl 0 0 0 3 1,J,J,J,J,.int .i64 (tokens:Int),.int .i64 (t:Int)]++Js 204)),[⟨true,0,1,false,[.sl 2 g2 0 v2.length 1,.sl 4 g4 0 v4.length 1,.sl 6 g6 0 v6.length 1],true⟩,⟨false,1,1,true,[],false⟩,⟨true,g2,1,true,(rowI v2),true⟩,⟨false,1,1,true,[],false⟩,⟨true,g4,1,true,(rowI v4),true⟩,⟨false,1,1,true,[],false⟩,⟨true,g6,1,true,(rowI v6),true⟩]⟩
def f186G3 (E:Env) (v2:List Int) (v4:List Int) (v6:List Int) (t:Nat) (tokens:Nat):Prop:=∀ g2 g4 g6:Nat,G Try.prog E (Wq Try.prog) (f186S3 v2 v4 v6 t tokens g2 g4 g6)
def qn (P:Program):List Item:=kAt 400 [.code (Qe P 186)] [.b true,.b true,.b true,.b false,.b true,.b false,.b true,.b false,.b false,.b false,.b false,.b true,.stop]
def f186S5 (price:Int) (tokens:Int) (left:Int) (v2:List Int) (v4:List Int) (v6:List Int) (v7_0:Nat) (g2:Nat) (g4:Nat) (g6:Nat):St:=⟨([J,J,J,J,.sl 7 0 0 2 1,.int .i64 price,J,.sl 0 0 0 3 1,J,J,J,J,.int .i64 tokens,J,.int .i64 0,.ptr 8 0 0,.int .i64 left]++jj 133 ([.rsl [.int .i64 1,.int .i64 200,.int .i64 6,.int .i64 1000] 0 2,.int .i64 2,.int .i64 0]++Js 65)),[⟨true,0,1,false,[.sl 2 g2 0 v2.length 1,.sl 4 g4 0 v4.length 1,.sl 6 g6 0 v6.length 1],true⟩,⟨false,1,1,true,[],false⟩,⟨true,g2,1,true,(rowI v2),true⟩,⟨false,1,1,true,[],false⟩,⟨true,g4,1,true,(rowI v4),true⟩,⟨false,1,1,true,[],false⟩,⟨true,g6,1,true,(rowI v6),true⟩,⟨true,0,1,true,[.int .i64 (v7_0:Int),.int .i64 0],true⟩,⟨true,0,1,true,[.int .i64 1,.int .i64 200],false⟩]⟩
def f186G5 (E:Env) (price:Int) (tokens:Int) (left:Int) (v2:List Int) (v4:List Int) (v6:List Int) (v7_0:Nat):Prop:=∀ g2 g4 g6:Nat,G Try.prog E (qn Try.prog) (f186S5 price tokens left v2 v4 v6 v7_0 g2 g4 g6)
def XA (P:Program):List Item:=kAt 400 [.code (Qe P 186)] [.b true,.b true,.b true,.b false,.b true,.stop]
def Xy (v6:List Int) (j:Nat) (v4:List Int) (g6:Nat) (g4:Nat):St:=⟨([.rsl [.int .i64 1,.int .i64 200,.int .i64 6,.int .i64 1000] 0 2,.int .i64 7,J,J,J,J,.int .i64 1007,.sl 0 0 0 3 1,J,.int .i64 1]++jj 43 ([.int .i64 (((List.replicate (Int.toNat (1008:Int)) (1152921504606846976:Int)).length:Nat):Int),.int .i64 (j:Int)]++Js 163)),[⟨true,0,1,false,[.sl 2 0 0 ((List.replicate (Int.toNat (1008:Int)) (1152921504606846976:Int)).length) 1,.sl 4 g4 0 v4.length 1,.sl 6 g6 0 v6.length 1],true⟩,⟨false,1,1,true,[],false⟩,⟨true,0,1,true,(rowI (List.replicate (Int.toNat (1008:Int)) (1152921504606846976:Int))),true⟩,⟨false,1,1,true,[],false⟩,⟨true,g4,1,true,(rowI v4),true⟩,⟨false,1,1,true,[],false⟩,⟨true,g6,1,true,(rowI v6),true⟩]⟩
def Yu (E:Env) (v6:List Int) (j:Nat) (v4:List Int):Prop:=∀ g6 g4:Nat,G Try.prog E (XA Try.prog) (Xy v6 j v4 g6 g4)
def Xz (P:Program):List Item:=kAt 400 [.code (Qe P 186)] [.b true,.b true,.b true,.b false,.b true,.b false,.b true,.b false,.b false,.b false,.b false,.b true,.b false,.b true,.stop]
def YS (price:Int) (tokens:Int) (left:Int) (v2:List Int) (v4:List Int) (v6:List Int) (v7_0:Nat) (v7_1:Nat) (g2:Nat) (g4:Nat) (g6:Nat):St:=⟨([J,J,J,J,.sl 7 0 0 2 1,.int .i64 price,J,.sl 0 0 0 3 1,J,J,J,J,.int .i64 tokens,J,.int .i64 1,.ptr 9 0 0,.int .i64 left]++jj 133 ([.rsl [.int .i64 1,.int .i64 200,.int .i64 6,.int .i64 1000] 0 2,.int .i64 2,.int .i64 1]++Js 65)),[⟨true,0,1,false,[.sl 2 g2 0 v2.length 1,.sl 4 g4 0 v4.length 1,.sl 6 g6 0 v6.length 1],true⟩,⟨false,1,1,true,[],false⟩,⟨true,g2,1,true,(rowI v2),true⟩,⟨false,1,1,true,[],false⟩,⟨true,g4,1,true,(rowI v4),true⟩,⟨false,1,1,true,[],false⟩,⟨true,g6,1,true,(rowI v6),true⟩,⟨true,0,1,true,[.int .i64 (v7_0:Int),.int .i64 (v7_1:Int)],true⟩,⟨true,0,1,true,[.int .i64 1,.int .i64 200],false⟩,⟨true,0,1,true,[.int .i64 6,.int .i64 1000],false⟩]⟩
def XY (E:Env) (price:Int) (tokens:Int) (left:Int) (v2:List Int) (v4:List Int) (v6:List Int) (v7_0:Nat) (v7_1:Nat):Prop:=∀ g2 g4 g6:Nat,G Try.prog E (Xz Try.prog) (YS price tokens left v2 v4 v6 v7_0 v7_1 g2 g4 g6)
abbrev qG (g2:Nat) (v2:List Int) (g4:Nat) (v4:List Int) (g6:Nat) (v6:List Int):List AV:=[.sl 2 g2 0 v2.length 1,.sl 4 g4 0 v4.length 1,.sl 6 g6 0 v6.length 1]
abbrev z186_1 (g2:Nat) (v2:List Int) (g4:Nat) (v4:List Int) (g6:Nat) (v6:List Int) (v7_0:Nat):List Blk:=[⟨true,0,1,false,(qG g2 v2 g4 v4 g6 v6),true⟩,⟨false,1,1,true,[],false⟩,⟨true,g2,1,true,(rowI v2),true⟩,⟨false,1,1,true,[],false⟩,⟨true,g4,1,true,(rowI v4),true⟩,⟨false,1,1,true,[],false⟩,⟨true,g6,1,true,(rowI v6),true⟩,⟨true,0,1,true,[.int .i64 (v7_0:Int),.int .i64 0],true⟩,⟨true,0,1,true,[.int .i64 1,.int .i64 200],false⟩,⟨true,0,1,true,[.int .i64 6,.int .i64 1000],false⟩]
abbrev YJ:List AV:=[.int .i64 1,.int .i64 200,.int .i64 6,.int .i64 1000]
abbrev z186_3 (g2:Nat) (v2:List Int) (g4:Nat) (v4:List Int) (g6:Nat) (v6:List Int):List Blk:=[⟨true,0,1,false,(qG g2 v2 g4 v4 g6 v6),true⟩,⟨false,1,1,true,[],false⟩,⟨true,g2,1,true,(rowI v2),true⟩,⟨false,1,1,true,[],false⟩,⟨true,g4,1,true,(rowI v4),true⟩,⟨false,1,1,true,[],false⟩,⟨true,g6,1,true,(rowI v6),true⟩]
abbrev z186_4:List AV:=[.rsl YJ 0 2,.int .i64 2,.int .i64 1]++Js 65
theorem p186_start_0 (e:Int) {E:Env} {rv:AV} (hE:Qg Try.prog 186 rv E) (ho:AllP [InR .i64 1007,InR .i64 3,(0:Int)≤3∧(3:Int)≤3∧(3:Int)≤2147483648,0=0,true=true,(∀ k,slOf 0 k (.sl k 0 0 1 1)=true),InR .i64 1008,Xo Try.prog (.clos 55 [] []) [.rsl [.int .i64 1152921504606846976] 0 1,.int .i64 1008] [] (.sl 0 0 0 ((List.replicate (Int.toNat (1008:Int)) (1152921504606846976:Int)).length) 1) [⟨true,0,1,true,(rowI (List.replicate (Int.toNat (1008:Int)) (1152921504606846976:Int))),true⟩],(0:Int)≤0∧(0:Int)<((3:Nat):Int),0=0,1≤3,0=0,InR .i64 1,true=true,(∀ k,slOf 0 k (.sl k 0 0 1 1)=true),InR .i64 1008,Xo Try.prog (.clos 55 [] []) [.rsl [.int .i64 1152921504606846976] 0 1,.int .i64 1008] [] (.sl 0 0 0 ((List.replicate (Int.toNat (1008:Int)) (1152921504606846976:Int)).length) 1) [⟨true,0,1,true,(rowI (List.replicate (Int.toNat (1008:Int)) (1152921504606846976:Int))),true⟩],(0:Int)≤1∧(1:Int)<((3:Nat):Int),0=0,2≤3,0=0,InR .i64 2,true=true,(∀ k,slOf 0 k (.sl k 0 0 1 1)=true),InR .i64 1008,Xo Try.prog (.clos 55 [] []) [.rsl [.int .i64 1152921504606846976] 0 1,.int .i64 1008] [] (.sl 0 0 0 ((List.replicate (Int.toNat (1008:Int)) (1152921504606846976:Int)).length) 1) [⟨true,0,1,true,(rowI (List.replicate (Int.toNat (1008:Int)) (1152921504606846976:Int))),true⟩],(0:Int)≤2∧(2:Int)<((3:Nat):Int),0=0,3≤3,0=0,InR .i64 3,false=false,(0:Int)≤2∧(2:Int)<((3:Nat):Int),0=0,0=0,(0:Int)≤0∧(0:Int)<(((List.replicate (Int.toNat (1008:Int)) (1152921504606846976:Int)).length:Nat):Int),0=0,((0+0*1)+1)≤(rowI (List.replicate (Int.toNat (1008:Int)) (1152921504606846976:Int))).length,0=0,InR .i64 1,true=true,(0:Int)≤1∧(1:Int)<((3:Nat):Int),0=0,0=0,0=0])
 (hg:G Try.prog E (XA Try.prog) ⟨([.rsl YJ 0 2,.int .i64 7,J,J,J,J,.int .i64 1007,.sl 0 0 0 3 1,J,.int .i64 1]++jj 43 ([.int .i64 (((List.replicate (Int.toNat (1008:Int)) (1152921504606846976:Int)).length:Nat):Int),.int .i64 0]++Js 163)),[⟨true,0,1,false,[.sl 2 0 0 ((List.replicate (Int.toNat (1008:Int)) (1152921504606846976:Int)).length) 1,.sl 4 0 0 ((List.replicate (Int.toNat (1008:Int)) (1152921504606846976:Int)).length) 1,.sl 6 0 0 ((List.replicate (Int.toNat (1008:Int)) (1152921504606846976:Int)).length) 1],true⟩,⟨false,1,1,true,[],false⟩,⟨true,0,1,true,(rowI (List.replicate (Int.toNat (1008:Int)) (1152921504606846976:Int))),true⟩,⟨false,1,1,true,[],false⟩,⟨true,0,1,true,(rowI (List.replicate (Int.toNat (1008:Int)) (1152921504606846976:Int))),true⟩,⟨false,1,1,true,[],false⟩,⟨true,0,1,true,(QF (rowI (List.replicate (Int.toNat (1008:Int)) (1152921504606846976:Int))) (0+0*1) [.int .i64 0]),true⟩]⟩):G Try.prog E [.code (Qe Try.prog 186)] ⟨[.rsl YJ 0 2,.int .i64 7]++unds (Try.f186.ntmps - 2),[]⟩ :=
 Qj (n:=400) (ds:=[]) (cs:=[]) (live:=[0,1,6,7,9,53,54]) (m:=7) (evs:=[.b true,.vn .junk,.lent [] (.sl 0 0 0 ((List.replicate (Int.toNat (1008:Int)) (1152921504606846976:Int)).length) 1) [⟨true,0,1,true,(rowI (List.replicate (Int.toNat (1008:Int)) (1152921504606846976:Int))),true⟩],.b true,.vn .junk,.lent [] (.sl 0 0 0 ((List.replicate (Int.toNat (1008:Int)) (1152921504606846976:Int)).length) 1) [⟨true,0,1,true,(rowI (List.replicate (Int.toNat (1008:Int)) (1152921504606846976:Int))),true⟩],.b true,.vn .junk,.lent [] (.sl 0 0 0 ((List.replicate (Int.toNat (1008:Int)) (1152921504606846976:Int)).length) 1) [⟨true,0,1,true,(rowI (List.replicate (Int.toNat (1008:Int)) (1152921504606846976:Int))),true⟩],.b false,.b true,.stop]) (obs:=_) hE.2.1 (hE.nogh _) Qi (by kernel_rfl) ho hg
theorem f186W {E:Env} {rv:((List Int) × Int)} (hE:Qg Try.prog 186 (.tup [.rsl (rowI rv.1) 0 rv.1.length,.int .i64 rv.2]) E)
 (h:(((1:Int)≤(1008:Int)∧(1008:Int)≤2147483648)∧(((1:Int)≤(1008:Int)∧(1008:Int)≤2147483648)∧(((1:Int)≤(1008:Int)∧(1008:Int)≤2147483648)∧(∃ e:Int,(List.replicate (Int.toNat (1008:Int)) (1152921504606846976:Int))[0]?=some e∧Yu E ((List.replicate (Int.toNat (1008:Int)) (1152921504606846976:Int)).set 0 0) 0 (List.replicate (Int.toNat (1008:Int)) (1152921504606846976:Int))))))):G Try.prog E [.code (Qe Try.prog 186)] ⟨[.rsl [.int .i64 1,.int .i64 200,.int .i64 6,.int .i64 1000] 0 2,.int .i64 7]++unds (Try.f186.ntmps - 2),[]⟩:=by
 obtain ⟨h1,h⟩:=h
 obtain ⟨h2,h⟩:=h
 obtain ⟨h3,h⟩:=h
 obtain ⟨e,h4,h⟩:=h
 refine p186_start_0 e hE ⟨(⟨by decide,by decide⟩),(⟨by decide,by decide⟩),(⟨by decide,by decide,by decide⟩),rfl,rfl,(fun k=>by simp [slOf]),(⟨by decide,by decide⟩),(Vy Try.func55 (by kernel_rfl) f55b (YO (1152921504606846976:Int) (1008:Int) h1)),(⟨by decide,by decide⟩),rfl,(by decide),rfl,(⟨by decide,by decide⟩),rfl,(fun k=>by simp [slOf]),(⟨by decide,by decide⟩),(Vy Try.func55 (by kernel_rfl) f55b (YO (1152921504606846976:Int) (1008:Int) h2)),(⟨by decide,by decide⟩),rfl,(by decide),rfl,(⟨by decide,by decide⟩),rfl,(fun k=>by simp [slOf]),(⟨by decide,by decide⟩),(Vy Try.func55 (by kernel_rfl) f55b (YO (1152921504606846976:Int) (1008:Int) h3)),(⟨by decide,by decide⟩),rfl,(by decide),rfl,(⟨by decide,by decide⟩),rfl,(⟨by decide,by decide⟩),rfl,rfl,(Qr h4),rfl,(rf cI 1 0 1 h4),rfl,(⟨by decide,by decide⟩),rfl,(⟨by decide,by decide⟩),rfl,rfl,rfl,trivial⟩ ?_
 have h:=(h 0 0)
 simp only [Xy,List.length_set] at h
 rw [(show QF (rowI (List.replicate (Int.toNat (1008:Int)) (1152921504606846976:Int))) (0+0*1) [.int .i64 0]=rowI ((List.replicate (Int.toNat (1008:Int)) (1152921504606846976:Int)).set 0 0) from QU cI (s:=1) (k:=0) (fun _=>rfl) h4 rfl (by first | decide | simp))]
 exact h
theorem p186_1002_0 (v6:List Int) (j:Nat) (v4:List Int) (g6:Nat) (g4:Nat) (e:Int) (e1:Int) (e2:Int) (e3:Int) {E:Env} {rv:AV} (hE:Qg Try.prog 186 rv E) (ho:AllP [(decide ((j:Int)<(((List.replicate (Int.toNat (1008:Int)) (1152921504606846976:Int)).length:Nat):Int)))=true,(0:Int)≤1∧(1:Int)<((3:Nat):Int),0=0,0=0,InR .i64 2,(0:Int)≤2∧(2:Int)<((3:Nat):Int),0=0,0=0,0≤(j:Int)∧(j:Int)<(v6.length:Int),g6=g6,g6=g6,((rowI v6).drop (0+(Int.toNat (j:Int))*1)).take 1=[.int .i64 e],0≤(j:Int)∧(j:Int)<(v4.length:Int),g4=g4,((0+(Int.toNat (j:Int))*1)+1)≤(rowI v4).length,g4=g4,(0:Int)≤1∧(1:Int)<((2:Nat):Int),InR .i64 ((j:Int) - 6),(decide (((j:Int) - 6)≥0))=true,(0:Int)≤1∧(1:Int)<((3:Nat):Int),0=0,0=0,0≤((j:Int) - 6)∧((j:Int) - 6)<(v4.length:Int),g4=g4,g4=g4,((QF (rowI v4) (0+(Int.toNat (j:Int))*1) [.int .i64 e]).drop (0+(Int.toNat ((j:Int) - 6))*1)).take 1=[.int .i64 e2],(decide (e2<1152921504606846976))=true,(0:Int)≤1∧(1:Int)<((3:Nat):Int),0=0,0=0,(0:Int)≤1∧(1:Int)<((3:Nat):Int),0=0,0=0,0≤(j:Int)∧(j:Int)<(v4.length:Int),g4=g4,g4=g4,((QF (rowI v4) (0+(Int.toNat (j:Int))*1) [.int .i64 e]).drop (0+(Int.toNat (j:Int))*1)).take 1=[.int .i64 e3],(0:Int)≤1∧(1:Int)<((3:Nat):Int),0=0,0=0,0≤((j:Int) - 6)∧((j:Int) - 6)<(v4.length:Int),g4=g4,g4=g4,((QF (rowI v4) (0+(Int.toNat (j:Int))*1) [.int .i64 e]).drop (0+(Int.toNat ((j:Int) - 6))*1)).take 1=[.int .i64 e2],(0:Int)≤1∧(1:Int)<((2:Nat):Int),InR .i64 (e2+1000),0≤(j:Int)∧(j:Int)<(v4.length:Int),g4=g4,((0+(Int.toNat (j:Int))*1)+1)≤(QF (rowI v4) (0+(Int.toNat (j:Int))*1) [.int .i64 e]).length,g4=g4,InR .i64 ((j:Int)+1)])
 (hg:G Try.prog E (XA Try.prog) ⟨([.rsl [.int .i64 1,.int .i64 200,.int .i64 6,.int .i64 1000] 0 2,.int .i64 7,J,J,J,J,.int .i64 1007,.sl 0 0 0 3 1,J,.int .i64 1]++jj 43 ([.int .i64 (((List.replicate (Int.toNat (1008:Int)) (1152921504606846976:Int)).length:Nat):Int),.int .i64 ((j:Int)+1)]++Js 163)),[⟨true,0,1,false,[.sl 2 0 0 ((List.replicate (Int.toNat (1008:Int)) (1152921504606846976:Int)).length) 1,.sl 4 g4 0 v4.length 1,.sl 6 g6 0 v6.length 1],true⟩,⟨false,1,1,true,[],false⟩,⟨true,0,1,true,(rowI (List.replicate (Int.toNat (1008:Int)) (1152921504606846976:Int))),true⟩,⟨false,1,1,true,[],false⟩,⟨true,g4,1,true,(QF (QF (rowI v4) (0+(Int.toNat (j:Int))*1) [.int .i64 e]) (0+(Int.toNat (j:Int))*1) [.int .i64 (iMin e3 (e2+1000))]),true⟩,⟨false,1,1,true,[],false⟩,⟨true,g6,1,true,(rowI v6),true⟩]⟩):G Try.prog E (XA Try.prog) (Xy v6 j v4 g6 g4) :=
 Qj (n:=400) (ds:=[]) (cs:=[]) (live:=[0,1,6,7,9,53,54]) (m:=7) (evs:=[.b true,.auto,.auto,.ld (.int .i64 e),.b true,.auto,.ld (.int .i64 e2),.b true,.auto,.auto,.ld (.int .i64 e3),.auto,.ld (.int .i64 e2),.stop]) (obs:=_) hE.2.1 (hE.nogh _) Qi (by kernel_rfl) ho hg
theorem p186_1002_1 (v6:List Int) (j:Nat) (v4:List Int) (g6:Nat) (g4:Nat) (e:Int) (e1:Int) (e2:Int) {E:Env} {rv:AV} (hE:Qg Try.prog 186 rv E) (ho:AllP [(decide ((j:Int)<(((List.replicate (Int.toNat (1008:Int)) (1152921504606846976:Int)).length:Nat):Int)))=true,(0:Int)≤1∧(1:Int)<((3:Nat):Int),0=0,0=0,InR .i64 2,(0:Int)≤2∧(2:Int)<((3:Nat):Int),0=0,0=0,0≤(j:Int)∧(j:Int)<(v6.length:Int),g6=g6,g6=g6,((rowI v6).drop (0+(Int.toNat (j:Int))*1)).take 1=[.int .i64 e],0≤(j:Int)∧(j:Int)<(v4.length:Int),g4=g4,((0+(Int.toNat (j:Int))*1)+1)≤(rowI v4).length,g4=g4,(0:Int)≤1∧(1:Int)<((2:Nat):Int),InR .i64 ((j:Int) - 6),(decide (((j:Int) - 6)≥0))=true,(0:Int)≤1∧(1:Int)<((3:Nat):Int),0=0,0=0,0≤((j:Int) - 6)∧((j:Int) - 6)<(v4.length:Int),g4=g4,g4=g4,((QF (rowI v4) (0+(Int.toNat (j:Int))*1) [.int .i64 e]).drop (0+(Int.toNat ((j:Int) - 6))*1)).take 1=[.int .i64 e2],(decide (e2<1152921504606846976))=false,InR .i64 ((j:Int)+1)])
 (hg:G Try.prog E (XA Try.prog) ⟨([.rsl [.int .i64 1,.int .i64 200,.int .i64 6,.int .i64 1000] 0 2,.int .i64 7,J,J,J,J,.int .i64 1007,.sl 0 0 0 3 1,J,.int .i64 1]++jj 43 ([.int .i64 (((List.replicate (Int.toNat (1008:Int)) (1152921504606846976:Int)).length:Nat):Int),.int .i64 ((j:Int)+1)]++Js 163)),[⟨true,0,1,false,[.sl 2 0 0 ((List.replicate (Int.toNat (1008:Int)) (1152921504606846976:Int)).length) 1,.sl 4 g4 0 v4.length 1,.sl 6 g6 0 v6.length 1],true⟩,⟨false,1,1,true,[],false⟩,⟨true,0,1,true,(rowI (List.replicate (Int.toNat (1008:Int)) (1152921504606846976:Int))),true⟩,⟨false,1,1,true,[],false⟩,⟨true,g4,1,true,(QF (rowI v4) (0+(Int.toNat (j:Int))*1) [.int .i64 e]),true⟩,⟨false,1,1,true,[],false⟩,⟨true,g6,1,true,(rowI v6),true⟩]⟩):G Try.prog E (XA Try.prog) (Xy v6 j v4 g6 g4) :=
 Qj (n:=400) (ds:=[]) (cs:=[]) (live:=[0,1,6,7,9,53,54]) (m:=7) (evs:=[.b true,.auto,.auto,.ld (.int .i64 e),.b true,.auto,.ld (.int .i64 e2),.b false,.stop]) (obs:=_) hE.2.1 (hE.nogh _) Qi (by kernel_rfl) ho hg
theorem p186_1002_2 (v6:List Int) (j:Nat) (v4:List Int) (g6:Nat) (g4:Nat) (e:Int) (e1:Int) {E:Env} {rv:AV} (hE:Qg Try.prog 186 rv E) (ho:AllP [(decide ((j:Int)<(((List.replicate (Int.toNat (1008:Int)) (1152921504606846976:Int)).length:Nat):Int)))=true,(0:Int)≤1∧(1:Int)<((3:Nat):Int),0=0,0=0,InR .i64 2,(0:Int)≤2∧(2:Int)<((3:Nat):Int),0=0,0=0,0≤(j:Int)∧(j:Int)<(v6.length:Int),g6=g6,g6=g6,((rowI v6).drop (0+(Int.toNat (j:Int))*1)).take 1=[.int .i64 e],0≤(j:Int)∧(j:Int)<(v4.length:Int),g4=g4,((0+(Int.toNat (j:Int))*1)+1)≤(rowI v4).length,g4=g4,(0:Int)≤1∧(1:Int)<((2:Nat):Int),InR .i64 ((j:Int) - 6),(decide (((j:Int) - 6)≥0))=false,false=false,InR .i64 ((j:Int)+1)])
 (hg:G Try.prog E (XA Try.prog) ⟨([.rsl YJ 0 2,.int .i64 7,J,J,J,J,.int .i64 1007,.sl 0 0 0 3 1,J,.int .i64 1]++jj 43 ([.int .i64 (((List.replicate (Int.toNat (1008:Int)) (1152921504606846976:Int)).length:Nat):Int),.int .i64 ((j:Int)+1)]++Js 163)),[⟨true,0,1,false,[.sl 2 0 0 ((List.replicate (Int.toNat (1008:Int)) (1152921504606846976:Int)).length) 1,.sl 4 g4 0 v4.length 1,.sl 6 g6 0 v6.length 1],true⟩,⟨false,1,1,true,[],false⟩,⟨true,0,1,true,(rowI (List.replicate (Int.toNat (1008:Int)) (1152921504606846976:Int))),true⟩,⟨false,1,1,true,[],false⟩,⟨true,g4,1,true,(QF (rowI v4) (0+(Int.toNat (j:Int))*1) [.int .i64 e]),true⟩,⟨false,1,1,true,[],false⟩,⟨true,g6,1,true,(rowI v6),true⟩]⟩):G Try.prog E (XA Try.prog) (Xy v6 j v4 g6 g4) :=
 Qj (n:=400) (ds:=[]) (cs:=[]) (live:=[0,1,6,7,9,53,54]) (m:=7) (evs:=[.b true,.auto,.auto,.ld (.int .i64 e),.b false,.b false,.stop]) (obs:=_) hE.2.1 (hE.nogh _) Qi (by kernel_rfl) ho hg
theorem p186_1002_3 (v6:List Int) (j:Nat) (v4:List Int) (g6:Nat) (g4:Nat) {E:Env} {rv:AV} (hE:Qg Try.prog 186 rv E) (ho:AllP [(decide ((j:Int)<(((List.replicate (Int.toNat (1008:Int)) (1152921504606846976:Int)).length:Nat):Int)))=false,InR .i64 0,true=true,(0:Int)≤0∧(0:Int)<((3:Nat):Int),0=0,0=0,0=0])
 (hg:G Try.prog E (VE Try.prog) ⟨([.rsl YJ 0 2,.int .i64 7,J,J,J,J,.int .i64 1007,.sl 0 0 0 3 1,J,.int .i64 0]++jj 43 ([.int .i64 (((List.replicate (Int.toNat (1008:Int)) (1152921504606846976:Int)).length:Nat):Int),.int .i64 0]++Js 163)),[⟨true,0,1,false,[.sl 2 0 0 ((List.replicate (Int.toNat (1008:Int)) (1152921504606846976:Int)).length) 1,.sl 4 g4 0 v4.length 1,.sl 6 g6 0 v6.length 1],true⟩,⟨false,1,1,true,[],false⟩,⟨true,0,1,true,(rowI (List.replicate (Int.toNat (1008:Int)) (1152921504606846976:Int))),true⟩,⟨false,1,1,true,[],false⟩,⟨true,g4,1,true,(rowI v4),true⟩,⟨false,1,1,true,[],false⟩,⟨true,g6,1,true,(rowI v6),true⟩]⟩):G Try.prog E (XA Try.prog) (Xy v6 j v4 g6 g4) :=
 Qj (n:=400) (ds:=[]) (cs:=[]) (live:=[0,1,6,7,9,53,54]) (m:=7) (evs:=[.b false,.b true,.stop]) (obs:=_) hE.2.1 (hE.nogh _) Qi (by kernel_rfl) ho hg
theorem f186W1002 (v6:List Int) (j:Nat) (v4:List Int) {E:Env} {rv:((List Int) × Int)} (hE:Qg Try.prog 186 (.tup [.rsl (rowI rv.1) 0 rv.1.length,.int .i64 rv.2]) E)
 (h:(((j:Int)<(((List.replicate (Int.toNat (1008:Int)) (1152921504606846976:Int)).length:Nat):Int)→(∃ e:Int,v6[j]?=some e∧(∃ e1:Int,v4[j]?=some e1∧((I6 ((j:Int) - 6))∧((((j:Int) - 6)≥0→(0≤((j:Int) - 6)∧(∃ e2:Int,(v4.set j e)[Int.toNat ((j:Int) - 6)]?=some e2∧((e2<1152921504606846976→(∃ e3:Int,(v4.set j e)[j]?=some e3∧((I6 (e2+1000))∧((I6 ((j:Int)+1))∧Yu E v6 (j+1) ((v4.set j e).set j (iMin e3 (e2+1000)))))))∧(¬ (e2<1152921504606846976)→((I6 ((j:Int)+1))∧Yu E v6 (j+1) (v4.set j e)))))))∧(¬ (((j:Int) - 6)≥0)→((I6 ((j:Int)+1))∧Yu E v6 (j+1) (v4.set j e))))))))∧(¬ ((j:Int)<(((List.replicate (Int.toNat (1008:Int)) (1152921504606846976:Int)).length:Nat):Int))→qW E v4 v6 0 (List.replicate (Int.toNat (1008:Int)) (1152921504606846976:Int))))):Yu E v6 j v4:=by
 intro g6 g4
 rcases bft (decide ((j:Int)<(((List.replicate (Int.toNat (1008:Int)) (1152921504606846976:Int)).length:Nat):Int))) with hc0 | hc0
 · have h:=h.1 (odt hc0)
   obtain ⟨e,h1,h⟩:=h
   obtain ⟨e1,h2,h⟩:=h
   obtain ⟨q19_1,h⟩:=h
   rcases bft (decide (((j:Int) - 6)≥0)) with hc1 | hc1
   · have h:=h.1 (odt hc1)
     obtain ⟨h4,h⟩:=h
     obtain ⟨e2,h3,h⟩:=h
     rcases bft (decide (e2<1152921504606846976)) with hc2 | hc2
     · have h:=h.1 (odt hc2)
       obtain ⟨e3,h5,h⟩:=h
       obtain ⟨q49_3,h⟩:=h
       obtain ⟨q54_3,h⟩:=h
       refine p186_1002_0 v6 j v4 g6 g4 e e1 e2 e3 hE ⟨hc0,(⟨by decide,by decide⟩),rfl,rfl,(⟨by decide,by decide⟩),(⟨by decide,by decide⟩),rfl,rfl,(Qr h1),rfl,rfl,(rp cI 1 0 1 h1),(Qr h2),rfl,(rf cI 1 0 1 h2),rfl,(⟨by decide,by decide⟩),q19_1,hc1,(⟨by decide,by decide⟩),rfl,rfl,(by have hx:=Qh h4 h3; simpa using hx),rfl,rfl,(by rw [(show QF (rowI v4) (0+(Int.toNat (j:Int))*1) [.int .i64 e]=rowI (v4.set j e) from QU cI (s:=1) (k:=0) (fun _=>rfl) h2 rfl (by first | decide | simp))]; exact rp cI 1 0 1 h3),hc2,(⟨by decide,by decide⟩),rfl,rfl,(⟨by decide,by decide⟩),rfl,rfl,(by have hx:=Qr h5; simpa using hx),rfl,rfl,(by rw [(show QF (rowI v4) (0+(Int.toNat (j:Int))*1) [.int .i64 e]=rowI (v4.set j e) from QU cI (s:=1) (k:=0) (fun _=>rfl) h2 rfl (by first | decide | simp))]; exact rp cI 1 0 1 h5),(⟨by decide,by decide⟩),rfl,rfl,(by have hx:=Qh h4 h3; simpa using hx),rfl,rfl,(by rw [(show QF (rowI v4) (0+(Int.toNat (j:Int))*1) [.int .i64 e]=rowI (v4.set j e) from QU cI (s:=1) (k:=0) (fun _=>rfl) h2 rfl (by first | decide | simp))]; exact rp cI 1 0 1 h3),(⟨by decide,by decide⟩),q49_3,(by have hx:=Qr h5; simpa using hx),rfl,(by rw [(show QF (rowI v4) (0+(Int.toNat (j:Int))*1) [.int .i64 e]=rowI (v4.set j e) from QU cI (s:=1) (k:=0) (fun _=>rfl) h2 rfl (by first | decide | simp))]; exact rf cI 1 0 1 h5),rfl,q54_3,trivial⟩ ?_
       have h:=(h g6 g4)
       simp only [Xy,List.length_set] at h
       rw [(show QF (rowI v4) (0+(Int.toNat (j:Int))*1) [.int .i64 e]=rowI (v4.set j e) from QU cI (s:=1) (k:=0) (fun _=>rfl) h2 rfl (by first | decide | simp))]; rw [(show QF (rowI (v4.set j e)) (0+(Int.toNat (j:Int))*1) [.int .i64 (iMin e3 (e2+1000))]=rowI ((v4.set j e).set j (iMin e3 (e2+1000))) from QU cI (s:=1) (k:=0) (fun _=>rfl) h5 rfl (by first | decide | simp))]
       exact h
     · have h:=h.2 (odf hc2)
       obtain ⟨q30_3,h⟩:=h
       refine p186_1002_1 v6 j v4 g6 g4 e e1 e2 hE ⟨hc0,(⟨by decide,by decide⟩),rfl,rfl,(⟨by decide,by decide⟩),(⟨by decide,by decide⟩),rfl,rfl,(Qr h1),rfl,rfl,(rp cI 1 0 1 h1),(Qr h2),rfl,(rf cI 1 0 1 h2),rfl,(⟨by decide,by decide⟩),q19_1,hc1,(⟨by decide,by decide⟩),rfl,rfl,(by have hx:=Qh h4 h3; simpa using hx),rfl,rfl,(by rw [(show QF (rowI v4) (0+(Int.toNat (j:Int))*1) [.int .i64 e]=rowI (v4.set j e) from QU cI (s:=1) (k:=0) (fun _=>rfl) h2 rfl (by first | decide | simp))]; exact rp cI 1 0 1 h3),hc2,q30_3,trivial⟩ ?_
       have h:=(h g6 g4)
       simp only [Xy,List.length_set] at h
       rw [(show QF (rowI v4) (0+(Int.toNat (j:Int))*1) [.int .i64 e]=rowI (v4.set j e) from QU cI (s:=1) (k:=0) (fun _=>rfl) h2 rfl (by first | decide | simp))]
       exact h
   · have h:=h.2 (odf hc1)
     obtain ⟨q22_2,h⟩:=h
     refine p186_1002_2 v6 j v4 g6 g4 e e1 hE ⟨hc0,(⟨by decide,by decide⟩),rfl,rfl,(⟨by decide,by decide⟩),(⟨by decide,by decide⟩),rfl,rfl,(Qr h1),rfl,rfl,(rp cI 1 0 1 h1),(Qr h2),rfl,(rf cI 1 0 1 h2),rfl,(⟨by decide,by decide⟩),q19_1,hc1,rfl,q22_2,trivial⟩ ?_
     have h:=(h g6 g4)
     simp only [Xy,List.length_set] at h
     rw [(show QF (rowI v4) (0+(Int.toNat (j:Int))*1) [.int .i64 e]=rowI (v4.set j e) from QU cI (s:=1) (k:=0) (fun _=>rfl) h2 rfl (by first | decide | simp))]
     exact h
 · have h:=h.2 (odf hc0)
   exact p186_1002_3 v6 j v4 g6 g4 hE ⟨hc0,(⟨by decide,by decide⟩),rfl,(⟨by decide,by decide⟩),rfl,rfl,rfl,trivial⟩ (h g4 g6 0)
theorem p186_1005_0 (price:Int) (tokens:Int) (left:Int) (v2:List Int) (v4:List Int) (v6:List Int) (v7_0:Nat) (v7_1:Nat) (g2:Nat) (g4:Nat) (g6:Nat) (e:Int) {E:Env} {rv:AV} (hE:Qg Try.prog 186 rv E) (ho:AllP [(decide (tokens≥6))=true,(0:Int)≤1∧(1:Int)<((3:Nat):Int),0=0,0=0,InR .i64 (tokens - 6),0≤(tokens - 6)∧(tokens - 6)<(v4.length:Int),g4=g4,g4=g4,((rowI v4).drop (0+(Int.toNat (tokens - 6))*1)).take 1=[.int .i64 e],(decide (e<1152921504606846976))=true,(0:Int)≤1∧(1:Int)<((3:Nat):Int),0=0,0=0,InR .i64 (tokens - 6),0≤(tokens - 6)∧(tokens - 6)<(v4.length:Int),g4=g4,g4=g4,((rowI v4).drop (0+(Int.toNat (tokens - 6))*1)).take 1=[.int .i64 e],InR .i64 (e+1000),((e+1000) == left)=true,InR .i64 (tokens - 6),(0:Int)≤1∧(1:Int)<((2:Nat):Int),0=0,0=0,InR .i64 ((v7_1:Int)+1),(0:Int)≤1∧(1:Int)<((2:Nat):Int),0=0,2≤2,0=0,(0:Int)≤1∧(1:Int)<((3:Nat):Int),0=0,0=0,0≤(tokens - 6)∧(tokens - 6)<(v4.length:Int),g4=g4,g4=g4,((rowI v4).drop (0+(Int.toNat (tokens - 6))*1)).take 1=[.int .i64 e]])
 (hg:G Try.prog E (Xz Try.prog) ⟨([J,J,J,J,.sl 7 0 0 2 1,.int .i64 price,J,.sl 0 0 0 3 1,J,J,J,J,.int .i64 (tokens - 6),J,.int .i64 1,.ptr 9 0 0,.int .i64 e]++jj 133 z186_4),[⟨true,0,1,false,(qG g2 v2 g4 v4 g6 v6),true⟩,⟨false,1,1,true,[],false⟩,⟨true,g2,1,true,(rowI v2),true⟩,⟨false,1,1,true,[],false⟩,⟨true,g4,1,true,(rowI v4),true⟩,⟨false,1,1,true,[],false⟩,⟨true,g6,1,true,(rowI v6),true⟩,⟨true,0,1,true,[.int .i64 (v7_0:Int),.int .i64 ((v7_1:Int)+1)],true⟩,⟨true,0,1,true,[.int .i64 1,.int .i64 200],false⟩,⟨true,0,1,true,[.int .i64 6,.int .i64 1000],false⟩]⟩):G Try.prog E (Xz Try.prog) (YS price tokens left v2 v4 v6 v7_0 v7_1 g2 g4 g6) :=
 Qj (n:=400) (ds:=[]) (cs:=[]) (live:=[4,5,7,12,14,15,16,150,151,152]) (m:=10) (evs:=[.b true,.auto,.auto,.ld (.int .i64 e),.b true,.auto,.auto,.ld (.int .i64 e),.b true,.auto,.auto,.auto,.ld (.int .i64 e),.stop]) (obs:=_) hE.2.1 (hE.nogh _) Qi (by kernel_rfl) ho hg
theorem p186_1005_1 (price:Int) (tokens:Int) (left:Int) (v2:List Int) (v4:List Int) (v6:List Int) (v7_0:Nat) (v7_1:Nat) (g2:Nat) (g4:Nat) (g6:Nat) (e:Int) {E:Env} {res:AV} (hE:Qg Try.prog 186 res E) (ho:AllP [(decide (tokens≥6))=true,(0:Int)≤1∧(1:Int)<((3:Nat):Int),0=0,0=0,InR .i64 (tokens - 6),0≤(tokens - 6)∧(tokens - 6)<(v4.length:Int),g4=g4,g4=g4,((rowI v4).drop (0+(Int.toNat (tokens - 6))*1)).take 1=[.int .i64 e],(decide (e<1152921504606846976))=true,(0:Int)≤1∧(1:Int)<((3:Nat):Int),0=0,0=0,InR .i64 (tokens - 6),0≤(tokens - 6)∧(tokens - 6)<(v4.length:Int),g4=g4,g4=g4,((rowI v4).drop (0+(Int.toNat (tokens - 6))*1)).take 1=[.int .i64 e],InR .i64 (e+1000),((e+1000) == left)=false,InR .i64 2,false=false,0=0])
 (hr:AvLe (.tup [.rsl [.int .i64 (v7_0:Int),.int .i64 (v7_1:Int)] 0 2,.int .i64 price]) res):G Try.prog E (Xz Try.prog) (YS price tokens left v2 v4 v6 v7_0 v7_1 g2 g4 g6) :=
 Qd (n:=400) (evs:=[.b true,.auto,.auto,.ld (.int .i64 e),.b true,.auto,.auto,.ld (.int .i64 e),.b false,.b false]) (obs:=_) hE Try.func186 Qi (by kernel_rfl) ho hr
theorem p186_1005_2 (price:Int) (tokens:Int) (left:Int) (v2:List Int) (v4:List Int) (v6:List Int) (v7_0:Nat) (v7_1:Nat) (g2:Nat) (g4:Nat) (g6:Nat) (e:Int) {E:Env} {res:AV} (hE:Qg Try.prog 186 res E) (ho:AllP [(decide (tokens≥6))=true,(0:Int)≤1∧(1:Int)<((3:Nat):Int),0=0,0=0,InR .i64 (tokens - 6),0≤(tokens - 6)∧(tokens - 6)<(v4.length:Int),g4=g4,g4=g4,((rowI v4).drop (0+(Int.toNat (tokens - 6))*1)).take 1=[.int .i64 e],(decide (e<1152921504606846976))=false,false=false,InR .i64 2,false=false,0=0])
 (hr:AvLe (.tup [.rsl [.int .i64 (v7_0:Int),.int .i64 (v7_1:Int)] 0 2,.int .i64 price]) res):G Try.prog E (Xz Try.prog) (YS price tokens left v2 v4 v6 v7_0 v7_1 g2 g4 g6) :=
 Qd (n:=400) (evs:=[.b true,.auto,.auto,.ld (.int .i64 e),.b false,.b false,.b false]) (obs:=_) hE Try.func186 Qi (by kernel_rfl) ho hr
theorem p186_1005_3 (price:Int) (tokens:Int) (left:Int) (v2:List Int) (v4:List Int) (v6:List Int) (v7_0:Nat) (v7_1:Nat) (g2:Nat) (g4:Nat) (g6:Nat) {E:Env} {res:AV} (hE:Qg Try.prog 186 res E) (ho:AllP [(decide (tokens≥6))=false,false=false,false=false,InR .i64 2,false=false,0=0])
 (hr:AvLe (.tup [.rsl [.int .i64 (v7_0:Int),.int .i64 (v7_1:Int)] 0 2,.int .i64 price]) res):G Try.prog E (Xz Try.prog) (YS price tokens left v2 v4 v6 v7_0 v7_1 g2 g4 g6) :=
 Qd (n:=400) (evs:=[.b false,.b false,.b false,.b false]) (obs:=_) hE Try.func186 Qi (by kernel_rfl) ho hr
theorem f186W1005 (price:Int) (tokens:Int) (left:Int) (v2:List Int) (v4:List Int) (v6:List Int) (v7_0:Nat) (v7_1:Nat) {E:Env} {rv:((List Int) × Int)} (hE:Qg Try.prog 186 (.tup [.rsl (rowI rv.1) 0 rv.1.length,.int .i64 rv.2]) E)
 (h:((tokens≥6→((I6 (tokens - 6))∧(0≤(tokens - 6)∧(∃ e:Int,v4[Int.toNat (tokens - 6)]?=some e∧((e<1152921504606846976→((I6 (tokens - 6))∧((I6 (e+1000))∧(((e+1000)=left→((I6 (tokens - 6))∧((I6 ((v7_1:Int)+1))∧XY E price (tokens - 6) e v2 v4 v6 v7_0 (v7_1+1))))∧(¬ ((e+1000)=left)→rv=([(v7_0:Int),(v7_1:Int)],price))))))∧(¬ (e<1152921504606846976)→rv=([(v7_0:Int),(v7_1:Int)],price)))))))∧(¬ (tokens≥6)→rv=([(v7_0:Int),(v7_1:Int)],price)))):XY E price tokens left v2 v4 v6 v7_0 v7_1:=by
 intro g2 g4 g6
 rcases bft (decide (tokens≥6)) with hc0 | hc0
 · have h:=h.1 (odt hc0)
   obtain ⟨q4_1,h⟩:=h
   obtain ⟨h2,h⟩:=h
   obtain ⟨e,h1,h⟩:=h
   rcases bft (decide (e<1152921504606846976)) with hc1 | hc1
   · have h:=h.1 (odt hc1)
     obtain ⟨q14_2,h⟩:=h
     obtain ⟨q19_2,h⟩:=h
     rcases bft ((e+1000) == left) with hc2 | hc2
     · have h:=h.1 (eq_of_beq hc2)
       obtain ⟨q21_3,h⟩:=h
       obtain ⟨q25_3,h⟩:=h
       exact p186_1005_0 price tokens left v2 v4 v6 v7_0 v7_1 g2 g4 g6 e hE ⟨hc0,(⟨by decide,by decide⟩),rfl,rfl,q4_1,(Qh h2 h1),rfl,rfl,(rp cI 1 0 1 h1),hc1,(⟨by decide,by decide⟩),rfl,rfl,q14_2,(Qh h2 h1),rfl,rfl,(rp cI 1 0 1 h1),q19_2,hc2,q21_3,(⟨by decide,by decide⟩),rfl,rfl,q25_3,(⟨by decide,by decide⟩),rfl,(by decide),rfl,(⟨by decide,by decide⟩),rfl,rfl,(Qh h2 h1),rfl,rfl,(rp cI 1 0 1 h1),trivial⟩ (h g2 g4 g6)
     · have h:=h.2 (ne_of_beq_false hc2)
       exact p186_1005_1 price tokens left v2 v4 v6 v7_0 v7_1 g2 g4 g6 e hE ⟨hc0,(⟨by decide,by decide⟩),rfl,rfl,q4_1,(Qh h2 h1),rfl,rfl,(rp cI 1 0 1 h1),hc1,(⟨by decide,by decide⟩),rfl,rfl,q14_2,(Qh h2 h1),rfl,rfl,(rp cI 1 0 1 h1),q19_2,hc2,(⟨by decide,by decide⟩),rfl,rfl,trivial⟩ (AvLe.of_eq (by rw [h]; try rfl))
   · have h:=h.2 (odf hc1)
     exact p186_1005_2 price tokens left v2 v4 v6 v7_0 v7_1 g2 g4 g6 e hE ⟨hc0,(⟨by decide,by decide⟩),rfl,rfl,q4_1,(Qh h2 h1),rfl,rfl,(rp cI 1 0 1 h1),hc1,rfl,(⟨by decide,by decide⟩),rfl,rfl,trivial⟩ (AvLe.of_eq (by rw [h]; try rfl))
 · have h:=h.2 (odf hc0)
   exact p186_1005_3 price tokens left v2 v4 v6 v7_0 v7_1 g2 g4 g6 hE ⟨hc0,rfl,rfl,(⟨by decide,by decide⟩),rfl,rfl,trivial⟩ (AvLe.of_eq (by rw [h]; try rfl))
theorem p186_2_0 (v4:List Int) (v6:List Int) (j:Nat) (v2:List Int) (g4:Nat) (g6:Nat) (g2:Nat) (e:Int) (e1:Int) (e2:Int) (e3:Int) {E:Env} {rv:AV} (hE:Qg Try.prog 186 rv E) (ho:AllP [(decide ((j:Int)<(((List.replicate (Int.toNat (1008:Int)) (1152921504606846976:Int)).length:Nat):Int)))=true,(0:Int)≤0∧(0:Int)<((3:Nat):Int),0=0,0=0,InR .i64 1,(0:Int)≤1∧(1:Int)<((3:Nat):Int),0=0,0=0,0≤(j:Int)∧(j:Int)<(v4.length:Int),g4=g4,g4=g4,((rowI v4).drop (0+(Int.toNat (j:Int))*1)).take 1=[.int .i64 e],0≤(j:Int)∧(j:Int)<(v2.length:Int),g2=g2,((0+(Int.toNat (j:Int))*1)+1)≤(rowI v2).length,g2=g2,(0:Int)≤0∧(0:Int)<((2:Nat):Int),InR .i64 ((j:Int) - 1),(decide (((j:Int) - 1)≥0))=true,(0:Int)≤0∧(0:Int)<((3:Nat):Int),0=0,0=0,0≤((j:Int) - 1)∧((j:Int) - 1)<(v2.length:Int),g2=g2,g2=g2,((QF (rowI v2) (0+(Int.toNat (j:Int))*1) [.int .i64 e]).drop (0+(Int.toNat ((j:Int) - 1))*1)).take 1=[.int .i64 e2],(decide (e2<1152921504606846976))=true,(0:Int)≤0∧(0:Int)<((3:Nat):Int),0=0,0=0,(0:Int)≤0∧(0:Int)<((3:Nat):Int),0=0,0=0,0≤(j:Int)∧(j:Int)<(v2.length:Int),g2=g2,g2=g2,((QF (rowI v2) (0+(Int.toNat (j:Int))*1) [.int .i64 e]).drop (0+(Int.toNat (j:Int))*1)).take 1=[.int .i64 e3],(0:Int)≤0∧(0:Int)<((3:Nat):Int),0=0,0=0,0≤((j:Int) - 1)∧((j:Int) - 1)<(v2.length:Int),g2=g2,g2=g2,((QF (rowI v2) (0+(Int.toNat (j:Int))*1) [.int .i64 e]).drop (0+(Int.toNat ((j:Int) - 1))*1)).take 1=[.int .i64 e2],(0:Int)≤0∧(0:Int)<((2:Nat):Int),InR .i64 (e2+200),0≤(j:Int)∧(j:Int)<(v2.length:Int),g2=g2,((0+(Int.toNat (j:Int))*1)+1)≤(QF (rowI v2) (0+(Int.toNat (j:Int))*1) [.int .i64 e]).length,g2=g2,InR .i64 ((j:Int)+1)])
 (hg:G Try.prog E (VE Try.prog) ⟨([.rsl [.int .i64 1,.int .i64 200,.int .i64 6,.int .i64 1000] 0 2,.int .i64 7,J,J,J,J,.int .i64 1007,.sl 0 0 0 3 1,J,.int .i64 0]++jj 43 ([.int .i64 (((List.replicate (Int.toNat (1008:Int)) (1152921504606846976:Int)).length:Nat):Int),.int .i64 ((j:Int)+1)]++Js 163)),[⟨true,0,1,false,[.sl 2 g2 0 v2.length 1,.sl 4 g4 0 v4.length 1,.sl 6 g6 0 v6.length 1],true⟩,⟨false,1,1,true,[],false⟩,⟨true,g2,1,true,(QF (QF (rowI v2) (0+(Int.toNat (j:Int))*1) [.int .i64 e]) (0+(Int.toNat (j:Int))*1) [.int .i64 (iMin e3 (e2+200))]),true⟩,⟨false,1,1,true,[],false⟩,⟨true,g4,1,true,(rowI v4),true⟩,⟨false,1,1,true,[],false⟩,⟨true,g6,1,true,(rowI v6),true⟩]⟩):G Try.prog E (VE Try.prog) (Wp v4 v6 j v2 g4 g6 g2) :=
 Qj (n:=400) (ds:=[]) (cs:=[]) (live:=[0,1,6,7,9,53,54]) (m:=7) (evs:=[.b true,.auto,.auto,.ld (.int .i64 e),.b true,.auto,.ld (.int .i64 e2),.b true,.auto,.auto,.ld (.int .i64 e3),.auto,.ld (.int .i64 e2),.stop]) (obs:=_) hE.2.1 (hE.nogh _) Qi (by kernel_rfl) ho hg
theorem p186_2_1 (v4:List Int) (v6:List Int) (j:Nat) (v2:List Int) (g4:Nat) (g6:Nat) (g2:Nat) (e:Int) (e1:Int) (e2:Int) {E:Env} {rv:AV} (hE:Qg Try.prog 186 rv E) (ho:AllP [(decide ((j:Int)<(((List.replicate (Int.toNat (1008:Int)) (1152921504606846976:Int)).length:Nat):Int)))=true,(0:Int)≤0∧(0:Int)<((3:Nat):Int),0=0,0=0,InR .i64 1,(0:Int)≤1∧(1:Int)<((3:Nat):Int),0=0,0=0,0≤(j:Int)∧(j:Int)<(v4.length:Int),g4=g4,g4=g4,((rowI v4).drop (0+(Int.toNat (j:Int))*1)).take 1=[.int .i64 e],0≤(j:Int)∧(j:Int)<(v2.length:Int),g2=g2,((0+(Int.toNat (j:Int))*1)+1)≤(rowI v2).length,g2=g2,(0:Int)≤0∧(0:Int)<((2:Nat):Int),InR .i64 ((j:Int) - 1),(decide (((j:Int) - 1)≥0))=true,(0:Int)≤0∧(0:Int)<((3:Nat):Int),0=0,0=0,0≤((j:Int) - 1)∧((j:Int) - 1)<(v2.length:Int),g2=g2,g2=g2,((QF (rowI v2) (0+(Int.toNat (j:Int))*1) [.int .i64 e]).drop (0+(Int.toNat ((j:Int) - 1))*1)).take 1=[.int .i64 e2],(decide (e2<1152921504606846976))=false,InR .i64 ((j:Int)+1)])
 (hg:G Try.prog E (VE Try.prog) ⟨([.rsl [.int .i64 1,.int .i64 200,.int .i64 6,.int .i64 1000] 0 2,.int .i64 7,J,J,J,J,.int .i64 1007,.sl 0 0 0 3 1,J,.int .i64 0]++jj 43 ([.int .i64 (((List.replicate (Int.toNat (1008:Int)) (1152921504606846976:Int)).length:Nat):Int),.int .i64 ((j:Int)+1)]++Js 163)),[⟨true,0,1,false,[.sl 2 g2 0 v2.length 1,.sl 4 g4 0 v4.length 1,.sl 6 g6 0 v6.length 1],true⟩,⟨false,1,1,true,[],false⟩,⟨true,g2,1,true,(QF (rowI v2) (0+(Int.toNat (j:Int))*1) [.int .i64 e]),true⟩,⟨false,1,1,true,[],false⟩,⟨true,g4,1,true,(rowI v4),true⟩,⟨false,1,1,true,[],false⟩,⟨true,g6,1,true,(rowI v6),true⟩]⟩):G Try.prog E (VE Try.prog) (Wp v4 v6 j v2 g4 g6 g2) :=
 Qj (n:=400) (ds:=[]) (cs:=[]) (live:=[0,1,6,7,9,53,54]) (m:=7) (evs:=[.b true,.auto,.auto,.ld (.int .i64 e),.b true,.auto,.ld (.int .i64 e2),.b false,.stop]) (obs:=_) hE.2.1 (hE.nogh _) Qi (by kernel_rfl) ho hg
theorem p186_2_2 (v4:List Int) (v6:List Int) (j:Nat) (v2:List Int) (g4:Nat) (g6:Nat) (g2:Nat) (e:Int) (e1:Int) {E:Env} {rv:AV} (hE:Qg Try.prog 186 rv E) (ho:AllP [(decide ((j:Int)<(((List.replicate (Int.toNat (1008:Int)) (1152921504606846976:Int)).length:Nat):Int)))=true,(0:Int)≤0∧(0:Int)<((3:Nat):Int),0=0,0=0,InR .i64 1,(0:Int)≤1∧(1:Int)<((3:Nat):Int),0=0,0=0,0≤(j:Int)∧(j:Int)<(v4.length:Int),g4=g4,g4=g4,((rowI v4).drop (0+(Int.toNat (j:Int))*1)).take 1=[.int .i64 e],0≤(j:Int)∧(j:Int)<(v2.length:Int),g2=g2,((0+(Int.toNat (j:Int))*1)+1)≤(rowI v2).length,g2=g2,(0:Int)≤0∧(0:Int)<((2:Nat):Int),InR .i64 ((j:Int) - 1),(decide (((j:Int) - 1)≥0))=false,false=false,InR .i64 ((j:Int)+1)])
 (hg:G Try.prog E (VE Try.prog) ⟨([.rsl YJ 0 2,.int .i64 7,J,J,J,J,.int .i64 1007,.sl 0 0 0 3 1,J,.int .i64 0]++jj 43 ([.int .i64 (((List.replicate (Int.toNat (1008:Int)) (1152921504606846976:Int)).length:Nat):Int),.int .i64 ((j:Int)+1)]++Js 163)),[⟨true,0,1,false,(qG g2 v2 g4 v4 g6 v6),true⟩,⟨false,1,1,true,[],false⟩,⟨true,g2,1,true,(QF (rowI v2) (0+(Int.toNat (j:Int))*1) [.int .i64 e]),true⟩,⟨false,1,1,true,[],false⟩,⟨true,g4,1,true,(rowI v4),true⟩,⟨false,1,1,true,[],false⟩,⟨true,g6,1,true,(rowI v6),true⟩]⟩):G Try.prog E (VE Try.prog) (Wp v4 v6 j v2 g4 g6 g2) :=
 Qj (n:=400) (ds:=[]) (cs:=[]) (live:=[0,1,6,7,9,53,54]) (m:=7) (evs:=[.b true,.auto,.auto,.ld (.int .i64 e),.b false,.b false,.stop]) (obs:=_) hE.2.1 (hE.nogh _) Qi (by kernel_rfl) ho hg
theorem p186_2_3 (v4:List Int) (v6:List Int) (j:Nat) (v2:List Int) (g4:Nat) (g6:Nat) (g2:Nat) {E:Env} {rv:AV} (hE:Qg Try.prog 186 rv E) (ho:AllP [(decide ((j:Int)<(((List.replicate (Int.toNat (1008:Int)) (1152921504606846976:Int)).length:Nat):Int)))=false,InR .i64 (-1),false=false])
 (hg:G Try.prog E (Wq Try.prog) ⟨([.rsl YJ 0 2]++jj 5 ([.int .i64 1007,.sl 0 0 0 3 1,J,J,J,J,.int .i64 7,.int .i64 7]++Js 204)),(z186_3 g2 v2 g4 v4 g6 v6)⟩):G Try.prog E (VE Try.prog) (Wp v4 v6 j v2 g4 g6 g2) :=
 Qj (n:=400) (ds:=[]) (cs:=[]) (live:=[0,6,7,12,13]) (m:=7) (evs:=[.b false,.b false,.stop]) (obs:=_) hE.2.1 (hE.nogh _) Qi (by kernel_rfl) ho hg
theorem f186W2 (v4:List Int) (v6:List Int) (j:Nat) (v2:List Int) {E:Env} {rv:((List Int) × Int)} (hE:Qg Try.prog 186 (.tup [.rsl (rowI rv.1) 0 rv.1.length,.int .i64 rv.2]) E)
 (h:(((j:Int)<(((List.replicate (Int.toNat (1008:Int)) (1152921504606846976:Int)).length:Nat):Int)→(∃ e:Int,v4[j]?=some e∧(∃ e1:Int,v2[j]?=some e1∧((I6 ((j:Int) - 1))∧((((j:Int) - 1)≥0→(0≤((j:Int) - 1)∧(∃ e2:Int,(v2.set j e)[Int.toNat ((j:Int) - 1)]?=some e2∧((e2<1152921504606846976→(∃ e3:Int,(v2.set j e)[j]?=some e3∧((I6 (e2+200))∧((I6 ((j:Int)+1))∧qW E v4 v6 (j+1) ((v2.set j e).set j (iMin e3 (e2+200)))))))∧(¬ (e2<1152921504606846976)→((I6 ((j:Int)+1))∧qW E v4 v6 (j+1) (v2.set j e)))))))∧(¬ (((j:Int) - 1)≥0)→((I6 ((j:Int)+1))∧qW E v4 v6 (j+1) (v2.set j e))))))))∧(¬ ((j:Int)<(((List.replicate (Int.toNat (1008:Int)) (1152921504606846976:Int)).length:Nat):Int))→f186G3 E v2 v4 v6 7 7))):qW E v4 v6 j v2:=by
 intro g4 g6 g2
 rcases bft (decide ((j:Int)<(((List.replicate (Int.toNat (1008:Int)) (1152921504606846976:Int)).length:Nat):Int))) with hc0 | hc0
 · have h:=h.1 (odt hc0)
   obtain ⟨e,h1,h⟩:=h
   obtain ⟨e1,h2,h⟩:=h
   obtain ⟨q19_1,h⟩:=h
   rcases bft (decide (((j:Int) - 1)≥0)) with hc1 | hc1
   · have h:=h.1 (odt hc1)
     obtain ⟨h4,h⟩:=h
     obtain ⟨e2,h3,h⟩:=h
     rcases bft (decide (e2<1152921504606846976)) with hc2 | hc2
     · have h:=h.1 (odt hc2)
       obtain ⟨e3,h5,h⟩:=h
       obtain ⟨q49_3,h⟩:=h
       obtain ⟨q54_3,h⟩:=h
       refine p186_2_0 v4 v6 j v2 g4 g6 g2 e e1 e2 e3 hE ⟨hc0,(⟨by decide,by decide⟩),rfl,rfl,(⟨by decide,by decide⟩),(⟨by decide,by decide⟩),rfl,rfl,(Qr h1),rfl,rfl,(rp cI 1 0 1 h1),(Qr h2),rfl,(rf cI 1 0 1 h2),rfl,(⟨by decide,by decide⟩),q19_1,hc1,(⟨by decide,by decide⟩),rfl,rfl,(by have hx:=Qh h4 h3; simpa using hx),rfl,rfl,(by rw [(show QF (rowI v2) (0+(Int.toNat (j:Int))*1) [.int .i64 e]=rowI (v2.set j e) from QU cI (s:=1) (k:=0) (fun _=>rfl) h2 rfl (by first | decide | simp))]; exact rp cI 1 0 1 h3),hc2,(⟨by decide,by decide⟩),rfl,rfl,(⟨by decide,by decide⟩),rfl,rfl,(by have hx:=Qr h5; simpa using hx),rfl,rfl,(by rw [(show QF (rowI v2) (0+(Int.toNat (j:Int))*1) [.int .i64 e]=rowI (v2.set j e) from QU cI (s:=1) (k:=0) (fun _=>rfl) h2 rfl (by first | decide | simp))]; exact rp cI 1 0 1 h5),(⟨by decide,by decide⟩),rfl,rfl,(by have hx:=Qh h4 h3; simpa using hx),rfl,rfl,(by rw [(show QF (rowI v2) (0+(Int.toNat (j:Int))*1) [.int .i64 e]=rowI (v2.set j e) from QU cI (s:=1) (k:=0) (fun _=>rfl) h2 rfl (by first | decide | simp))]; exact rp cI 1 0 1 h3),(⟨by decide,by decide⟩),q49_3,(by have hx:=Qr h5; simpa using hx),rfl,(by rw [(show QF (rowI v2) (0+(Int.toNat (j:Int))*1) [.int .i64 e]=rowI (v2.set j e) from QU cI (s:=1) (k:=0) (fun _=>rfl) h2 rfl (by first | decide | simp))]; exact rf cI 1 0 1 h5),rfl,q54_3,trivial⟩ ?_
       have h:=(h g4 g6 g2)
       simp only [Wp,List.length_set] at h
       rw [(show QF (rowI v2) (0+(Int.toNat (j:Int))*1) [.int .i64 e]=rowI (v2.set j e) from QU cI (s:=1) (k:=0) (fun _=>rfl) h2 rfl (by first | decide | simp))]; rw [(show QF (rowI (v2.set j e)) (0+(Int.toNat (j:Int))*1) [.int .i64 (iMin e3 (e2+200))]=rowI ((v2.set j e).set j (iMin e3 (e2+200))) from QU cI (s:=1) (k:=0) (fun _=>rfl) h5 rfl (by first | decide | simp))]
       exact h
     · have h:=h.2 (odf hc2)
       obtain ⟨q30_3,h⟩:=h
       refine p186_2_1 v4 v6 j v2 g4 g6 g2 e e1 e2 hE ⟨hc0,(⟨by decide,by decide⟩),rfl,rfl,(⟨by decide,by decide⟩),(⟨by decide,by decide⟩),rfl,rfl,(Qr h1),rfl,rfl,(rp cI 1 0 1 h1),(Qr h2),rfl,(rf cI 1 0 1 h2),rfl,(⟨by decide,by decide⟩),q19_1,hc1,(⟨by decide,by decide⟩),rfl,rfl,(by have hx:=Qh h4 h3; simpa using hx),rfl,rfl,(by rw [(show QF (rowI v2) (0+(Int.toNat (j:Int))*1) [.int .i64 e]=rowI (v2.set j e) from QU cI (s:=1) (k:=0) (fun _=>rfl) h2 rfl (by first | decide | simp))]; exact rp cI 1 0 1 h3),hc2,q30_3,trivial⟩ ?_
       have h:=(h g4 g6 g2)
       simp only [Wp,List.length_set] at h
       rw [(show QF (rowI v2) (0+(Int.toNat (j:Int))*1) [.int .i64 e]=rowI (v2.set j e) from QU cI (s:=1) (k:=0) (fun _=>rfl) h2 rfl (by first | decide | simp))]
       exact h
   · have h:=h.2 (odf hc1)
     obtain ⟨q22_2,h⟩:=h
     refine p186_2_2 v4 v6 j v2 g4 g6 g2 e e1 hE ⟨hc0,(⟨by decide,by decide⟩),rfl,rfl,(⟨by decide,by decide⟩),(⟨by decide,by decide⟩),rfl,rfl,(Qr h1),rfl,rfl,(rp cI 1 0 1 h1),(Qr h2),rfl,(rf cI 1 0 1 h2),rfl,(⟨by decide,by decide⟩),q19_1,hc1,rfl,q22_2,trivial⟩ ?_
     have h:=(h g4 g6 g2)
     simp only [Wp,List.length_set] at h
     rw [(show QF (rowI v2) (0+(Int.toNat (j:Int))*1) [.int .i64 e]=rowI (v2.set j e) from QU cI (s:=1) (k:=0) (fun _=>rfl) h2 rfl (by first | decide | simp))]
     exact h
 · have h:=h.2 (odf hc0)
   exact p186_2_3 v4 v6 j v2 g4 g6 g2 hE ⟨hc0,(⟨by decide,by decide⟩),rfl,trivial⟩ (h g2 g4 g6)
theorem p186_3_0 (v2:List Int) (v4:List Int) (v6:List Int) (t:Nat) (tokens:Nat) (g2:Nat) (g4:Nat) (g6:Nat) (e:Int) (e1:Int) {E:Env} {rv:AV} (hE:Qg Try.prog 186 rv E) (ho:AllP [(decide ((t:Int)≤1007))=true,(0:Int)≤0∧(0:Int)<((3:Nat):Int),0=0,0=0,0≤(t:Int)∧(t:Int)<(v2.length:Int),g2=g2,g2=g2,((rowI v2).drop (0+(Int.toNat (t:Int))*1)).take 1=[.int .i64 e],(0:Int)≤0∧(0:Int)<((3:Nat):Int),0=0,0=0,0≤(tokens:Int)∧(tokens:Int)<(v2.length:Int),g2=g2,g2=g2,((rowI v2).drop (0+(Int.toNat (tokens:Int))*1)).take 1=[.int .i64 e1],(decide (e<e1))=true,InR .i64 ((t:Int)+1)])
 (hg:G Try.prog E (Wq Try.prog) ⟨([.rsl YJ 0 2]++jj 5 ([.int .i64 1007,.sl 0 0 0 3 1,J,J,J,J,.int .i64 (t:Int),.int .i64 ((t:Int)+1)]++Js 204)),(z186_3 g2 v2 g4 v4 g6 v6)⟩):G Try.prog E (Wq Try.prog) (f186S3 v2 v4 v6 t tokens g2 g4 g6) :=
 Qj (n:=400) (ds:=[]) (cs:=[]) (live:=[0,6,7,12,13]) (m:=7) (evs:=[.b true,.auto,.ld (.int .i64 e),.auto,.ld (.int .i64 e1),.b true,.stop]) (obs:=_) hE.2.1 (hE.nogh _) Qi (by kernel_rfl) ho hg
theorem p186_3_1 (v2:List Int) (v4:List Int) (v6:List Int) (t:Nat) (tokens:Nat) (g2:Nat) (g4:Nat) (g6:Nat) (e:Int) (e1:Int) {E:Env} {rv:AV} (hE:Qg Try.prog 186 rv E) (ho:AllP [(decide ((t:Int)≤1007))=true,(0:Int)≤0∧(0:Int)<((3:Nat):Int),0=0,0=0,0≤(t:Int)∧(t:Int)<(v2.length:Int),g2=g2,g2=g2,((rowI v2).drop (0+(Int.toNat (t:Int))*1)).take 1=[.int .i64 e],(0:Int)≤0∧(0:Int)<((3:Nat):Int),0=0,0=0,0≤(tokens:Int)∧(tokens:Int)<(v2.length:Int),g2=g2,g2=g2,((rowI v2).drop (0+(Int.toNat (tokens:Int))*1)).take 1=[.int .i64 e1],(decide (e<e1))=false,InR .i64 ((t:Int)+1)])
 (hg:G Try.prog E (Wq Try.prog) ⟨([.rsl YJ 0 2]++jj 5 ([.int .i64 1007,.sl 0 0 0 3 1,J,J,J,J,.int .i64 (tokens:Int),.int .i64 ((t:Int)+1)]++Js 204)),(z186_3 g2 v2 g4 v4 g6 v6)⟩):G Try.prog E (Wq Try.prog) (f186S3 v2 v4 v6 t tokens g2 g4 g6) :=
 Qj (n:=400) (ds:=[]) (cs:=[]) (live:=[0,6,7,12,13]) (m:=7) (evs:=[.b true,.auto,.ld (.int .i64 e),.auto,.ld (.int .i64 e1),.b false,.stop]) (obs:=_) hE.2.1 (hE.nogh _) Qi (by kernel_rfl) ho hg
theorem p186_3_2 (v2:List Int) (v4:List Int) (v6:List Int) (t:Nat) (tokens:Nat) (g2:Nat) (g4:Nat) (g6:Nat) (e:Int) {E:Env} {res:AV} (hE:Qg Try.prog 186 res E) (ho:AllP [(decide ((t:Int)≤1007))=false,(0:Int)≤0∧(0:Int)<((3:Nat):Int),0=0,0=0,0≤(tokens:Int)∧(tokens:Int)<(v2.length:Int),g2=g2,g2=g2,((rowI v2).drop (0+(Int.toNat (tokens:Int))*1)).take 1=[.int .i64 e],(e == 1152921504606846976)=true])
 (hr:AvLe (.tup [.nilSl,.int .i64 0]) res):G Try.prog E (Wq Try.prog) (f186S3 v2 v4 v6 t tokens g2 g4 g6) :=
 Qd (n:=400) (evs:=[.b false,.auto,.ld (.int .i64 e),.b true]) (obs:=_) hE Try.func186 Qi (by kernel_rfl) ho hr
theorem p186_3_3 (v2:List Int) (v4:List Int) (v6:List Int) (t:Nat) (tokens:Nat) (g2:Nat) (g4:Nat) (g6:Nat) (e:Int) {E:Env} {rv:AV} (hE:Qg Try.prog 186 rv E) (ho:AllP [(decide ((t:Int)≤1007))=false,(0:Int)≤0∧(0:Int)<((3:Nat):Int),0=0,0=0,0≤(tokens:Int)∧(tokens:Int)<(v2.length:Int),g2=g2,g2=g2,((rowI v2).drop (0+(Int.toNat (tokens:Int))*1)).take 1=[.int .i64 e],(e == 1152921504606846976)=false,(0:Int)≤2∧(2:Int)≤2∧(2:Int)≤2147483648,true=true,(0:Int)≤0∧(0:Int)<((2:Nat):Int),2≤2,(0:Int)≤0∧(0:Int)<((3:Nat):Int),0=0,0=0,0≤(tokens:Int)∧(tokens:Int)<(v2.length:Int),g2=g2,g2=g2,((rowI v2).drop (0+(Int.toNat (tokens:Int))*1)).take 1=[.int .i64 e]])
 (hg:G Try.prog E (qn Try.prog) ⟨([J,J,J,J,.sl 7 0 0 2 1,.int .i64 e,J,.sl 0 0 0 3 1,J,J,J,J,.int .i64 (tokens:Int),J,.int .i64 0,.ptr 8 0 0,.int .i64 e]++jj 133 ([.rsl YJ 0 2,.int .i64 2,.int .i64 0]++Js 65)),[⟨true,0,1,false,(qG g2 v2 g4 v4 g6 v6),true⟩,⟨false,1,1,true,[],false⟩,⟨true,g2,1,true,(rowI v2),true⟩,⟨false,1,1,true,[],false⟩,⟨true,g4,1,true,(rowI v4),true⟩,⟨false,1,1,true,[],false⟩,⟨true,g6,1,true,(rowI v6),true⟩,⟨true,0,1,true,[.int .i64 0,.int .i64 0],true⟩,⟨true,0,1,true,[.int .i64 1,.int .i64 200],false⟩]⟩):G Try.prog E (Wq Try.prog) (f186S3 v2 v4 v6 t tokens g2 g4 g6) :=
 Qj (n:=400) (ds:=[]) (cs:=[]) (live:=[4,5,7,12,14,15,16,150,151,152]) (m:=9) (evs:=[.b false,.auto,.ld (.int .i64 e),.b false,.b true,.auto,.auto,.ld (.int .i64 e),.stop]) (obs:=_) hE.2.1 (hE.nogh _) Qi (by kernel_rfl) ho hg
theorem f186W3 (v2:List Int) (v4:List Int) (v6:List Int) (t:Nat) (tokens:Nat) {E:Env} {rv:((List Int) × Int)} (hE:Qg Try.prog 186 (.tup [.rsl (rowI rv.1) 0 rv.1.length,.int .i64 rv.2]) E)
 (h:(((t:Int)≤1007→(∃ e:Int,v2[t]?=some e∧(∃ e1:Int,v2[tokens]?=some e1∧((e<e1→((I6 ((t:Int)+1))∧f186G3 E v2 v4 v6 (t+1) t))∧(¬ (e<e1)→((I6 ((t:Int)+1))∧f186G3 E v2 v4 v6 (t+1) tokens))))))∧(¬ ((t:Int)≤1007)→(∃ e:Int,v2[tokens]?=some e∧((e=1152921504606846976→rv=(([]:List Int),0))∧(¬ (e=1152921504606846976)→f186G5 E e (tokens:Int) e v2 v4 v6 0)))))):f186G3 E v2 v4 v6 t tokens:=by
 intro g2 g4 g6
 rcases bft (decide ((t:Int)≤1007)) with hc0 | hc0
 · have h:=h.1 (odt hc0)
   obtain ⟨e,h1,h⟩:=h
   obtain ⟨e1,h2,h⟩:=h
   rcases bft (decide (e<e1)) with hc1 | hc1
   · have h:=h.1 (odt hc1)
     obtain ⟨q18_2,h⟩:=h
     exact p186_3_0 v2 v4 v6 t tokens g2 g4 g6 e e1 hE ⟨hc0,(⟨by decide,by decide⟩),rfl,rfl,(Qr h1),rfl,rfl,(rp cI 1 0 1 h1),(⟨by decide,by decide⟩),rfl,rfl,(Qr h2),rfl,rfl,(rp cI 1 0 1 h2),hc1,q18_2,trivial⟩ (h g2 g4 g6)
   · have h:=h.2 (odf hc1)
     obtain ⟨q18_2,h⟩:=h
     exact p186_3_1 v2 v4 v6 t tokens g2 g4 g6 e e1 hE ⟨hc0,(⟨by decide,by decide⟩),rfl,rfl,(Qr h1),rfl,rfl,(rp cI 1 0 1 h1),(⟨by decide,by decide⟩),rfl,rfl,(Qr h2),rfl,rfl,(rp cI 1 0 1 h2),hc1,q18_2,trivial⟩ (h g2 g4 g6)
 · have h:=h.2 (odf hc0)
   obtain ⟨e,h1,h⟩:=h
   rcases bft (e == 1152921504606846976) with hc1 | hc1
   · have h:=h.1 (eq_of_beq hc1)
     exact p186_3_2 v2 v4 v6 t tokens g2 g4 g6 e hE ⟨hc0,(⟨by decide,by decide⟩),rfl,rfl,(Qr h1),rfl,rfl,(rp cI 1 0 1 h1),hc1,trivial⟩ (by rw [h]; exact (Vr ⟨Vi,⟨AvLe.of_eq rfl,trivial⟩⟩))
   · have h:=h.2 (ne_of_beq_false hc1)
     exact p186_3_3 v2 v4 v6 t tokens g2 g4 g6 e hE ⟨hc0,(⟨by decide,by decide⟩),rfl,rfl,(Qr h1),rfl,rfl,(rp cI 1 0 1 h1),hc1,(⟨by decide,by decide,by decide⟩),rfl,(⟨by decide,by decide⟩),(by decide),(⟨by decide,by decide⟩),rfl,rfl,(Qr h1),rfl,rfl,(rp cI 1 0 1 h1),trivial⟩ (h g2 g4 g6)
theorem p186_5_0 (price:Int) (tokens:Int) (left:Int) (v2:List Int) (v4:List Int) (v6:List Int) (v7_0:Nat) (g2:Nat) (g4:Nat) (g6:Nat) (e:Int) {E:Env} {rv:AV} (hE:Qg Try.prog 186 rv E) (ho:AllP [(decide (tokens≥1))=true,(0:Int)≤0∧(0:Int)<((3:Nat):Int),0=0,0=0,InR .i64 (tokens - 1),0≤(tokens - 1)∧(tokens - 1)<(v2.length:Int),g2=g2,g2=g2,((rowI v2).drop (0+(Int.toNat (tokens - 1))*1)).take 1=[.int .i64 e],(decide (e<1152921504606846976))=true,(0:Int)≤0∧(0:Int)<((3:Nat):Int),0=0,0=0,InR .i64 (tokens - 1),0≤(tokens - 1)∧(tokens - 1)<(v2.length:Int),g2=g2,g2=g2,((rowI v2).drop (0+(Int.toNat (tokens - 1))*1)).take 1=[.int .i64 e],InR .i64 (e+200),((e+200) == left)=true,InR .i64 (tokens - 1),(0:Int)≤0∧(0:Int)<((2:Nat):Int),0=0,0=0,InR .i64 ((v7_0:Int)+1),(0:Int)≤0∧(0:Int)<((2:Nat):Int),0=0,1≤2,0=0,(0:Int)≤0∧(0:Int)<((3:Nat):Int),0=0,0=0,0≤(tokens - 1)∧(tokens - 1)<(v2.length:Int),g2=g2,g2=g2,((rowI v2).drop (0+(Int.toNat (tokens - 1))*1)).take 1=[.int .i64 e]])
 (hg:G Try.prog E (qn Try.prog) ⟨([J,J,J,J,.sl 7 0 0 2 1,.int .i64 price,J,.sl 0 0 0 3 1,J,J,J,J,.int .i64 (tokens - 1),J,.int .i64 0,.ptr 8 0 0,.int .i64 e]++jj 133 ([.rsl YJ 0 2,.int .i64 2,.int .i64 0]++Js 65)),[⟨true,0,1,false,(qG g2 v2 g4 v4 g6 v6),true⟩,⟨false,1,1,true,[],false⟩,⟨true,g2,1,true,(rowI v2),true⟩,⟨false,1,1,true,[],false⟩,⟨true,g4,1,true,(rowI v4),true⟩,⟨false,1,1,true,[],false⟩,⟨true,g6,1,true,(rowI v6),true⟩,⟨true,0,1,true,[.int .i64 ((v7_0:Int)+1),.int .i64 0],true⟩,⟨true,0,1,true,[.int .i64 1,.int .i64 200],false⟩]⟩):G Try.prog E (qn Try.prog) (f186S5 price tokens left v2 v4 v6 v7_0 g2 g4 g6) :=
 Qj (n:=400) (ds:=[]) (cs:=[]) (live:=[4,5,7,12,14,15,16,150,151,152]) (m:=9) (evs:=[.b true,.auto,.auto,.ld (.int .i64 e),.b true,.auto,.auto,.ld (.int .i64 e),.b true,.auto,.auto,.auto,.ld (.int .i64 e),.stop]) (obs:=_) hE.2.1 (hE.nogh _) Qi (by kernel_rfl) ho hg
theorem p186_5_1 (price:Int) (tokens:Int) (left:Int) (v2:List Int) (v4:List Int) (v6:List Int) (v7_0:Nat) (g2:Nat) (g4:Nat) (g6:Nat) (e:Int) (e1:Int) {E:Env} {rv:AV} (hE:Qg Try.prog 186 rv E) (ho:AllP [(decide (tokens≥1))=true,(0:Int)≤0∧(0:Int)<((3:Nat):Int),0=0,0=0,InR .i64 (tokens - 1),0≤(tokens - 1)∧(tokens - 1)<(v2.length:Int),g2=g2,g2=g2,((rowI v2).drop (0+(Int.toNat (tokens - 1))*1)).take 1=[.int .i64 e],(decide (e<1152921504606846976))=true,(0:Int)≤0∧(0:Int)<((3:Nat):Int),0=0,0=0,InR .i64 (tokens - 1),0≤(tokens - 1)∧(tokens - 1)<(v2.length:Int),g2=g2,g2=g2,((rowI v2).drop (0+(Int.toNat (tokens - 1))*1)).take 1=[.int .i64 e],InR .i64 (e+200),((e+200) == left)=false,InR .i64 1,true=true,(0:Int)≤1∧(1:Int)<((2:Nat):Int),2≤2,(0:Int)≤1∧(1:Int)<((3:Nat):Int),0=0,0=0,0≤tokens∧tokens<(v4.length:Int),g4=g4,g4=g4,((rowI v4).drop (0+(Int.toNat tokens)*1)).take 1=[.int .i64 e1]])
 (hg:G Try.prog E (Xz Try.prog) ⟨([J,J,J,J,.sl 7 0 0 2 1,.int .i64 price,J,.sl 0 0 0 3 1,J,J,J,J,.int .i64 tokens,J,.int .i64 1,.ptr 9 0 0,.int .i64 e1]++jj 133 z186_4),(z186_1 g2 v2 g4 v4 g6 v6 v7_0)⟩):G Try.prog E (qn Try.prog) (f186S5 price tokens left v2 v4 v6 v7_0 g2 g4 g6) :=
 Qj (n:=400) (ds:=[]) (cs:=[]) (live:=[4,5,7,12,14,15,16,150,151,152]) (m:=10) (evs:=[.b true,.auto,.auto,.ld (.int .i64 e),.b true,.auto,.auto,.ld (.int .i64 e),.b false,.b true,.auto,.auto,.ld (.int .i64 e1),.stop]) (obs:=_) hE.2.1 (hE.nogh _) Qi (by kernel_rfl) ho hg
theorem p186_5_2 (price:Int) (tokens:Int) (left:Int) (v2:List Int) (v4:List Int) (v6:List Int) (v7_0:Nat) (g2:Nat) (g4:Nat) (g6:Nat) (e:Int) (e1:Int) {E:Env} {rv:AV} (hE:Qg Try.prog 186 rv E) (ho:AllP [(decide (tokens≥1))=true,(0:Int)≤0∧(0:Int)<((3:Nat):Int),0=0,0=0,InR .i64 (tokens - 1),0≤(tokens - 1)∧(tokens - 1)<(v2.length:Int),g2=g2,g2=g2,((rowI v2).drop (0+(Int.toNat (tokens - 1))*1)).take 1=[.int .i64 e],(decide (e<1152921504606846976))=false,false=false,InR .i64 1,true=true,(0:Int)≤1∧(1:Int)<((2:Nat):Int),2≤2,(0:Int)≤1∧(1:Int)<((3:Nat):Int),0=0,0=0,0≤tokens∧tokens<(v4.length:Int),g4=g4,g4=g4,((rowI v4).drop (0+(Int.toNat tokens)*1)).take 1=[.int .i64 e1]])
 (hg:G Try.prog E (Xz Try.prog) ⟨([J,J,J,J,.sl 7 0 0 2 1,.int .i64 price,J,.sl 0 0 0 3 1,J,J,J,J,.int .i64 tokens,J,.int .i64 1,.ptr 9 0 0,.int .i64 e1]++jj 133 z186_4),(z186_1 g2 v2 g4 v4 g6 v6 v7_0)⟩):G Try.prog E (qn Try.prog) (f186S5 price tokens left v2 v4 v6 v7_0 g2 g4 g6) :=
 Qj (n:=400) (ds:=[]) (cs:=[]) (live:=[4,5,7,12,14,15,16,150,151,152]) (m:=10) (evs:=[.b true,.auto,.auto,.ld (.int .i64 e),.b false,.b false,.b true,.auto,.auto,.ld (.int .i64 e1),.stop]) (obs:=_) hE.2.1 (hE.nogh _) Qi (by kernel_rfl) ho hg
theorem p186_5_3 (price:Int) (tokens:Int) (left:Int) (v2:List Int) (v4:List Int) (v6:List Int) (v7_0:Nat) (g2:Nat) (g4:Nat) (g6:Nat) (e:Int) {E:Env} {rv:AV} (hE:Qg Try.prog 186 rv E) (ho:AllP [(decide (tokens≥1))=false,false=false,false=false,InR .i64 1,true=true,(0:Int)≤1∧(1:Int)<((2:Nat):Int),2≤2,(0:Int)≤1∧(1:Int)<((3:Nat):Int),0=0,0=0,0≤tokens∧tokens<(v4.length:Int),g4=g4,g4=g4,((rowI v4).drop (0+(Int.toNat tokens)*1)).take 1=[.int .i64 e]])
 (hg:G Try.prog E (Xz Try.prog) ⟨([J,J,J,J,.sl 7 0 0 2 1,.int .i64 price,J,.sl 0 0 0 3 1,J,J,J,J,.int .i64 tokens,J,.int .i64 1,.ptr 9 0 0,.int .i64 e]++jj 133 z186_4),(z186_1 g2 v2 g4 v4 g6 v6 v7_0)⟩):G Try.prog E (qn Try.prog) (f186S5 price tokens left v2 v4 v6 v7_0 g2 g4 g6) :=
 Qj (n:=400) (ds:=[]) (cs:=[]) (live:=[4,5,7,12,14,15,16,150,151,152]) (m:=10) (evs:=[.b false,.b false,.b false,.b true,.auto,.auto,.ld (.int .i64 e),.stop]) (obs:=_) hE.2.1 (hE.nogh _) Qi (by kernel_rfl) ho hg
theorem f186W5 (price:Int) (tokens:Int) (left:Int) (v2:List Int) (v4:List Int) (v6:List Int) (v7_0:Nat) {E:Env} {rv:((List Int) × Int)} (hE:Qg Try.prog 186 (.tup [.rsl (rowI rv.1) 0 rv.1.length,.int .i64 rv.2]) E)
 (h:((tokens≥1→((I6 (tokens - 1))∧(0≤(tokens - 1)∧(∃ e:Int,v2[Int.toNat (tokens - 1)]?=some e∧((e<1152921504606846976→((I6 (tokens - 1))∧((I6 (e+200))∧(((e+200)=left→((I6 (tokens - 1))∧((I6 ((v7_0:Int)+1))∧f186G5 E price (tokens - 1) e v2 v4 v6 (v7_0+1))))∧(¬ ((e+200)=left)→(0≤tokens∧(∃ e1:Int,v4[Int.toNat tokens]?=some e1∧XY E price tokens e1 v2 v4 v6 v7_0 0)))))))∧(¬ (e<1152921504606846976)→(0≤tokens∧(∃ e1:Int,v4[Int.toNat tokens]?=some e1∧XY E price tokens e1 v2 v4 v6 v7_0 0))))))))∧(¬ (tokens≥1)→(0≤tokens∧(∃ e:Int,v4[Int.toNat tokens]?=some e∧XY E price tokens e v2 v4 v6 v7_0 0))))):f186G5 E price tokens left v2 v4 v6 v7_0:=by
 intro g2 g4 g6
 rcases bft (decide (tokens≥1)) with hc0 | hc0
 · have h:=h.1 (odt hc0)
   obtain ⟨q4_1,h⟩:=h
   obtain ⟨h2,h⟩:=h
   obtain ⟨e,h1,h⟩:=h
   rcases bft (decide (e<1152921504606846976)) with hc1 | hc1
   · have h:=h.1 (odt hc1)
     obtain ⟨q14_2,h⟩:=h
     obtain ⟨q19_2,h⟩:=h
     rcases bft ((e+200) == left) with hc2 | hc2
     · have h:=h.1 (eq_of_beq hc2)
       obtain ⟨q21_3,h⟩:=h
       obtain ⟨q25_3,h⟩:=h
       exact p186_5_0 price tokens left v2 v4 v6 v7_0 g2 g4 g6 e hE ⟨hc0,(⟨by decide,by decide⟩),rfl,rfl,q4_1,(Qh h2 h1),rfl,rfl,(rp cI 1 0 1 h1),hc1,(⟨by decide,by decide⟩),rfl,rfl,q14_2,(Qh h2 h1),rfl,rfl,(rp cI 1 0 1 h1),q19_2,hc2,q21_3,(⟨by decide,by decide⟩),rfl,rfl,q25_3,(⟨by decide,by decide⟩),rfl,(by decide),rfl,(⟨by decide,by decide⟩),rfl,rfl,(Qh h2 h1),rfl,rfl,(rp cI 1 0 1 h1),trivial⟩ (h g2 g4 g6)
     · have h:=h.2 (ne_of_beq_false hc2)
       obtain ⟨h4,h⟩:=h
       obtain ⟨e1,h3,h⟩:=h
       exact p186_5_1 price tokens left v2 v4 v6 v7_0 g2 g4 g6 e e1 hE ⟨hc0,(⟨by decide,by decide⟩),rfl,rfl,q4_1,(Qh h2 h1),rfl,rfl,(rp cI 1 0 1 h1),hc1,(⟨by decide,by decide⟩),rfl,rfl,q14_2,(Qh h2 h1),rfl,rfl,(rp cI 1 0 1 h1),q19_2,hc2,(⟨by decide,by decide⟩),rfl,(⟨by decide,by decide⟩),(by decide),(⟨by decide,by decide⟩),rfl,rfl,(Qh h4 h3),rfl,rfl,(rp cI 1 0 1 h3),trivial⟩ (h g2 g4 g6)
   · have h:=h.2 (odf hc1)
     obtain ⟨h4,h⟩:=h
     obtain ⟨e1,h3,h⟩:=h
     exact p186_5_2 price tokens left v2 v4 v6 v7_0 g2 g4 g6 e e1 hE ⟨hc0,(⟨by decide,by decide⟩),rfl,rfl,q4_1,(Qh h2 h1),rfl,rfl,(rp cI 1 0 1 h1),hc1,rfl,(⟨by decide,by decide⟩),rfl,(⟨by decide,by decide⟩),(by decide),(⟨by decide,by decide⟩),rfl,rfl,(Qh h4 h3),rfl,rfl,(rp cI 1 0 1 h3),trivial⟩ (h g2 g4 g6)
 · have h:=h.2 (odf hc0)
   obtain ⟨h2,h⟩:=h
   obtain ⟨e,h1,h⟩:=h
   exact p186_5_3 price tokens left v2 v4 v6 v7_0 g2 g4 g6 e hE ⟨hc0,rfl,rfl,(⟨by decide,by decide⟩),rfl,(⟨by decide,by decide⟩),(by decide),(⟨by decide,by decide⟩),rfl,rfl,(Qh h2 h1),rfl,rfl,(rp cI 1 0 1 h1),trivial⟩ (h g2 g4 g6)
theorem buy_ok:Pure Try.prog 186 [.rsl [.int .i64 1,.int .i64 200,.int .i64 6,.int .i64 1000] 0 2,.int .i64 7] (.tup [.rsl (rowI [1,1]) 0 2,.int .i64 1200]):=Qy Try.func186 f186b fun E hE=>by
 have hl:(List.replicate (Int.toNat (1008:Int)) (1152921504606846976:Int)).length=1008:=by rw [List.length_replicate]; rfl
 -- the last loops
 have e5:XY E 1200 0 0 (LP c0 1008) (LP c1 1008) r2 1 1:=f186W1005 1200 0 0 _ _ _ 1 1 (rv:=([1,1],1200)) hE ⟨fun h=>by omega,fun _=>rfl⟩
 have a0:(LP c1 1008)[0]?=some 0:=Yk (by omega)
 have a6:(LP c1 1008)[6]?=some 1000:=Yk (by omega)
 have b6:(LP c0 1008)[6]?=some 1000:=Yk (by omega)
 have b5:(LP c0 1008)[5]?=some 1000:=Yk (by omega)
 have b7:(LP c0 1008)[7]?=some 1200:=Yk (by omega)
 have e4:XY E 1200 6 1000 (LP c0 1008) (LP c1 1008) r2 1 0:=f186W1005 1200 6 1000 _ _ _ 1 0 (rv:=([1,1],1200)) hE
  ⟨fun _=>⟨by omega,by omega,0,a0,fun _=>⟨by omega,by omega,fun _=>⟨by omega,by omega,e5⟩,fun h=>absurd rfl h⟩,fun h=>absurd (by omega) h⟩,fun h=>absurd (by omega) h⟩
 have e3:f186G5 E 1200 6 1000 (LP c0 1008) (LP c1 1008) r2 1:=f186W5 1200 6 1000 _ _ _ 1 (rv:=([1,1],1200)) hE
  ⟨fun _=>⟨by omega,by omega,1000,b5,fun _=>⟨by omega,by omega,fun h=>absurd h (by omega),fun _=>⟨by omega,1000,a6,e4⟩⟩,fun h=>absurd (by omega) h⟩,fun h=>absurd (by omega) h⟩
 have e2:f186G5 E 1200 7 1200 (LP c0 1008) (LP c1 1008) r2 0:=f186W5 1200 7 1200 _ _ _ 0 (rv:=([1,1],1200)) hE
  ⟨fun _=>⟨by omega,by omega,1000,b6,fun _=>⟨by omega,by omega,fun _=>⟨by omega,by omega,e3⟩,fun h=>absurd rfl h⟩,fun h=>absurd (by omega) h⟩,fun h=>absurd (by omega) h⟩
 -- the least price
 have l3:∀ (d t:Nat),t+d=1008→7≤t→f186G3 E (LP c0 1008) (LP c1 1008) r2 t 7:=by
  intro d
  induction d with
  | zero =>
   intro t ht h7
   exact f186W3 _ _ _ t 7 (rv:=([1,1],1200)) hE ⟨fun h=>by omega,fun _=>⟨1200,b7,fun h=>absurd h (by omega),fun _=>e2⟩⟩
  | succ d ih =>
   intro t ht h7
   have hg:(LP c0 1008)[t]?=some (c0 t):=by rw [Yk (by omega),if_pos (by omega)]
   have hge:¬ c0 t<1200:=by unfold c0; omega
   exact f186W3 _ _ _ t 7 (rv:=([1,1],1200)) hE ⟨fun _=>⟨_,hg,1200,b7,fun h=>absurd h hge,fun _=>⟨by omega,ih (t+1) (by omega) (by omega)⟩⟩,fun h=>by omega⟩
 -- the rows
 have l2:∀ (d j:Nat),j+d=1008→qW E (LP c1 1008) r2 j (LP c0 j):=by
  intro d
  induction d with
  | zero =>
   intro j hj
   have ej:j=1008:=by omega
   subst ej
   exact f186W2 _ _ _ _ (rv:=([1,1],1200)) hE ⟨fun h=>by rw [hl] at h; omega,fun _=>l3 1001 7 (by omega) (by omega)⟩
  | succ d ih =>
   intro j hj
   have g1:(LP c1 1008)[j]?=some (c1 j):=by rw [Yk (by omega),if_pos (by omega)]
   have g2:(LP c0 j)[j]?=some NN:=by rw [Yk (by omega),if_neg (by omega)]
   have nx:=ih (j+1) (by omega)
   rw [← LP_set (f:=c0) (j:=j) (by omega)] at nx
   refine f186W2 _ _ j _ (rv:=([1,1],1200)) hE ⟨fun _=>⟨_,g1,_,g2,by omega,fun h1=>?_,fun h1=>⟨by omega,?_⟩⟩,fun h=>by rw [hl] at h; omega⟩
   · have ej:Int.toNat ((j:Int) - 1)=j - 1:=by omega
     have bd:=c0_bd (t:=j - 1) (by omega)
     have g3:((LP c0 j).set j (c1 j))[Int.toNat ((j:Int) - 1)]?=some (c0 (j - 1)):=by rw [ej,List.getElem?_set_ne (by omega),Yk (by omega),if_pos (by omega)]
     have g4:((LP c0 j).set j (c1 j))[j]?=some (c1 j):=List.getElem?_set_self (by rw [yh]; omega)
     refine ⟨by omega,_,g3,fun _=>⟨_,g4,by omega,by omega,?_⟩,fun h=>absurd (by omega) h⟩
     rw [List.set_set,c0_step (by omega) (by omega)]
     exact nx
   · have e0:j=0:=by omega
     subst e0
     exact nx
 have l1:∀ (d j:Nat),j+d=1008→Yu E r2 j (LP c1 j):=by
  intro d
  induction d with
  | zero =>
   intro j hj
   have ej:j=1008:=by omega
   subst ej
   refine f186W1002 _ _ _ (rv:=([1,1],1200)) hE ⟨fun h=>by rw [hl] at h; omega,fun _=>?_⟩
   have:=l2 1008 0 (by omega)
   rw [← LP_zero] at this
   exact this
  | succ d ih =>
   intro j hj
   have g1:=r2_get (j:=j) (by omega)
   have g2:(LP c1 j)[j]?=some NN:=by rw [Yk (by omega),if_neg (by omega)]
   have nx:=ih (j+1) (by omega)
   rw [← LP_set (f:=c1) (j:=j) (by omega)] at nx
   refine f186W1002 _ j _ (rv:=([1,1],1200)) hE ⟨fun _=>⟨_,g1,_,g2,by omega,fun h1=>?_,fun h1=>⟨by omega,?_⟩⟩,fun h=>by rw [hl] at h; omega⟩
   · have ej:Int.toNat ((j:Int) - 6)=j - 6:=by omega
     rw [if_neg (show ¬ j=0 by omega)]
     have g3:((LP c1 j).set j NN)[Int.toNat ((j:Int) - 6)]?=some (c1 (j - 6)):=by rw [ej,List.getElem?_set_ne (by omega),Yk (by omega),if_pos (by omega)]
     have g4:((LP c1 j).set j NN)[j]?=some NN:=List.getElem?_set_self (by rw [yh]; omega)
     refine ⟨by omega,_,g3,fun h2=>⟨_,g4,?_,by omega,?_⟩,fun h2=>⟨by omega,?_⟩⟩
     · by_cases h6:(j - 6) % 6=0
       · have:=VH (t:=j - 6) (by omega) h6
         omega
       · rw [qw h6] at h2
         exact absurd h2 (by decide)
     · have h6:(j - 6) % 6=0:=Decidable.byContradiction fun h6=>by
        rw [qw h6] at h2
        exact absurd h2 (by decide)
       rw [List.set_set,c1_step (by omega) (by omega) h6]
       exact nx
     · have h6:¬ j % 6=0:=fun h6=>by
        have:=VH (t:=j - 6) (by omega) (by omega)
        omega
       rw [qw h6] at nx
       exact nx
   · by_cases e0:j=0
     · subst e0
       exact nx
     · rw [if_neg e0]
       have h6:¬ j % 6=0:=by omega
       rw [qw h6] at nx
       exact nx
 have z:(List.replicate (Int.toNat (1008:Int)) (1152921504606846976:Int))[0]?=some NN:=by rw [List.getElem?_replicate,if_pos (by decide)]
 have fin:=l1 1008 0 (by omega)
 rw [← LP_zero] at fin
 exact f186W (rv:=([1,1],1200)) hE ⟨by omega,by omega,by omega,NN,z,fin⟩
end Go.Proofs.Ytemklbioijmjiaa
namespace Go.Proofs.Ytemklbioijmjiaa
open Go Ax
open Go.Proofs
def exF:Fair:=⟨0,0,[5],[0],[⟨1,200⟩,⟨6,1000⟩],0,0,1⟩
theorem f116b:Try.f116.body=some (Qe Try.prog 116):=by kernel_rfl
theorem u116 {a c k:List AV} {r:AV} (h:Pure Try.prog 116 (a++c++k) r):Qf Try.prog (.clos 116 a k) c r:=Qn Try.func116 (by kernel_rfl) f116b h
theorem p116_start_0 {E:Env} {res:AV} (hE:Qg Try.prog 116 res E) (ho:AllP [Qf Try.prog (.clos 186 [] []) [.rsl [.int .i64 1,.int .i64 200,.int .i64 6,.int .i64 1000] 0 2,.int .i64 7] (.tup [.rsl (rowI [1,1]) 0 2,.int .i64 1200]),2 ≠ 0,false=false])
 (hr:AvLe (.tup [.rsl (rowI [1,1]) 0 2,.int .i64 1200,.int .i64 0]) res):G Try.prog E [.code (Qe Try.prog 116)] ⟨[.agg [.int .i64 0,.int .i64 0,.rsl [.int .i64 5] 0 1,.rsl [.int .i64 0] 0 1,.rsl [.int .i64 1,.int .i64 200,.int .i64 6,.int .i64 1000] 0 2,.int .i64 0,.int .i64 0,.int .i64 1],.int .i64 7]++unds (Try.f116.ntmps - 2),[]⟩ :=
 Qd (n:=400) (evs:=[.v (.tup [.rsl (rowI [1,1]) 0 2,.int .i64 1200]),.b false]) (obs:=_) hE Try.func116 Qi (by kernel_rfl) ho hr
theorem f116W {E:Env} {rv:((List Int) × Int × Int)} (hE:Qg Try.prog 116 (.tup [.rsl (rowI rv.1) 0 rv.1.length,.int .i64 rv.2.1,.int .i64 rv.2.2]) E)
 (h:rv=((([1,1]:List Int).take 2),1200,0)):G Try.prog E [.code (Qe Try.prog 116)] ⟨[.agg [.int .i64 0,.int .i64 0,.rsl [.int .i64 5] 0 1,.rsl [.int .i64 0] 0 1,.rsl [.int .i64 1,.int .i64 200,.int .i64 6,.int .i64 1000] 0 2,.int .i64 0,.int .i64 0,.int .i64 1],.int .i64 7]++unds (Try.f116.ntmps - 2),[]⟩:=by
 exact p116_start_0 hE ⟨(u186 buy_ok),(by decide),rfl,trivial⟩ (AvLe.of_eq (by rw [h]; rw [(show AV.rsl (rowI [1,1]) 0 2=AV.rsl (rowI ([1,1]:List Int)) 0 ([1,1]:List Int).length from by rw [show 2=([1,1]:List Int).length from by simp]; try rfl)]; try rfl))
theorem bought_ok:Pure Try.prog 116 [.agg [.int .i64 0,.int .i64 0,.rsl [.int .i64 5] 0 1,.rsl [.int .i64 0] 0 1,.rsl [.int .i64 1,.int .i64 200,.int .i64 6,.int .i64 1000] 0 2,.int .i64 0,.int .i64 0,.int .i64 1],.int .i64 7] (.tup [.rsl (rowI [1,1]) 0 2,.int .i64 1200,.int .i64 0]):=Qy Try.func116 f116b fun E hE=>f116W (rv:=([1,1],1200,0)) hE rfl
theorem f48b:Try.f48.body=some (Qe Try.prog 48):=by kernel_rfl
theorem u48 {a c k:List AV} {r:AV} (h:Pure Try.prog 48 (a++c++k) r):Qf Try.prog (.clos 48 a k) c r:=Qn Try.func48 (by kernel_rfl) f48b h
abbrev z48_1:List AV:=[.int .i64 0,.int .i64 0,.rsl [.int .i64 5] 0 1,.rsl [.int .i64 0] 0 1,.rsl [.int .i64 1,.int .i64 200,.int .i64 6,.int .i64 1000] 0 2,.int .i64 0,.int .i64 0,.int .i64 1]
theorem p48_start_0 {E:Env} {res:AV} (hE:Qg Try.prog 48 res E) (ho:AllP [Qf Try.prog (.clos 114 [] []) [.agg z48_1] (.int .i64 (Yr exF)),((Yr exF) != 0)=true])
 (hr:AvLe (.tup [.nilSl,.int .i64 0,.int .i64 (Yr exF)]) res):G Try.prog E [.code (Qe Try.prog 48)] ⟨[.agg z48_1,.int .i64 7]++unds (Try.f48.ntmps - 2),[]⟩ :=
 Qd (n:=400) (evs:=[.v (.int .i64 (Yr exF)),.b true]) (obs:=_) hE Try.func48 Qi (by kernel_rfl) ho hr
theorem p48_start_1 {E:Env} {res:AV} (hE:Qg Try.prog 48 res E) (ho:AllP [Qf Try.prog (.clos 114 [] []) [.agg z48_1] (.int .i64 (Yr exF)),((Yr exF) != 0)=false,Qf Try.prog (.clos 115 [] []) [.int .i64 7,.int .i64 0,.int .i64 1000] (.bool (Qb 7 0 1000)),(!(Qb 7 0 1000))=true])
 (hr:AvLe (.tup [.nilSl,.int .i64 0,.int .i64 1]) res):G Try.prog E [.code (Qe Try.prog 48)] ⟨[.agg z48_1,.int .i64 7]++unds (Try.f48.ntmps - 2),[]⟩ :=
 Qd (n:=400) (evs:=[.v (.int .i64 (Yr exF)),.b false,.v (.bool (Qb 7 0 1000)),.b true]) (obs:=_) hE Try.func48 Qi (by kernel_rfl) ho hr
theorem p48_start_2 {E:Env} {res:AV} (hE:Qg Try.prog 48 res E) (ho:AllP [Qf Try.prog (.clos 114 [] []) [.agg [.int .i64 0,.int .i64 0,.rsl [.int .i64 5] 0 1,.rsl [.int .i64 0] 0 1,.rsl [.int .i64 1,.int .i64 200,.int .i64 6,.int .i64 1000] 0 2,.int .i64 0,.int .i64 0,.int .i64 1]] (.int .i64 (Yr exF)),((Yr exF) != 0)=false,Qf Try.prog (.clos 115 [] []) [.int .i64 7,.int .i64 0,.int .i64 1000] (.bool (Qb 7 0 1000)),(!(Qb 7 0 1000))=false,Qf Try.prog (.clos 116 [] []) [.agg [.int .i64 0,.int .i64 0,.rsl [.int .i64 5] 0 1,.rsl [.int .i64 0] 0 1,.rsl [.int .i64 1,.int .i64 200,.int .i64 6,.int .i64 1000] 0 2,.int .i64 0,.int .i64 0,.int .i64 1],.int .i64 7] (.tup [.rsl (rowI [1,1]) 0 2,.int .i64 1200,.int .i64 0])])
 (hr:AvLe (.tup [.rsl (rowI [1,1]) 0 2,.int .i64 1200,.int .i64 0]) res):G Try.prog E [.code (Qe Try.prog 48)] ⟨[.agg [.int .i64 0,.int .i64 0,.rsl [.int .i64 5] 0 1,.rsl [.int .i64 0] 0 1,.rsl [.int .i64 1,.int .i64 200,.int .i64 6,.int .i64 1000] 0 2,.int .i64 0,.int .i64 0,.int .i64 1],.int .i64 7]++unds (Try.f48.ntmps - 2),[]⟩ :=
 Qd (n:=400) (evs:=[.v (.int .i64 (Yr exF)),.b false,.v (.bool (Qb 7 0 1000)),.b false,.v (.tup [.rsl (rowI [1,1]) 0 2,.int .i64 1200,.int .i64 0])]) (obs:=_) hE Try.func48 Qi (by kernel_rfl) ho hr
theorem f48W {E:Env} {rv:((List Int) × Int × Int)} (hE:Qg Try.prog 48 (.tup [.rsl (rowI rv.1) 0 rv.1.length,.int .i64 rv.2.1,.int .i64 rv.2.2]) E)
 (h:((¬ ((Yr exF)=0)→rv=(([]:List Int),0,(Yr exF)))∧((Yr exF)=0→(((Qb 7 0 1000)=false→rv=(([]:List Int),0,1))∧((Qb 7 0 1000)=true→rv=((([1,1]:List Int).take 2),1200,0)))))):G Try.prog E [.code (Qe Try.prog 48)] ⟨[.agg [.int .i64 0,.int .i64 0,.rsl [.int .i64 5] 0 1,.rsl [.int .i64 0] 0 1,.rsl [.int .i64 1,.int .i64 200,.int .i64 6,.int .i64 1000] 0 2,.int .i64 0,.int .i64 0,.int .i64 1],.int .i64 7]++unds (Try.f48.ntmps - 2),[]⟩:=by
 rcases bft ((Yr exF) != 0) with hc0 | hc0
 · have h:=h.1 (bneT hc0)
   exact p48_start_0 hE ⟨(u114 (WK exF ⟨by decide,by decide,by decide⟩)),hc0,trivial⟩ (by rw [h]; exact (Vr ⟨Vi,⟨AvLe.of_eq rfl,⟨AvLe.of_eq rfl,trivial⟩⟩⟩))
 · have h:=h.2 (bneF hc0)
   rcases bft (!(Qb 7 0 1000)) with hc1 | hc1
   · have h:=h.1 (bnT hc1)
     exact p48_start_1 hE ⟨(u114 (WK exF ⟨by decide,by decide,by decide⟩)),hc0,(u115 (Qk 7 0 1000)),hc1,trivial⟩ (by rw [h]; exact (Vr ⟨Vi,⟨AvLe.of_eq rfl,⟨AvLe.of_eq rfl,trivial⟩⟩⟩))
   · have h:=h.2 (bnF hc1)
     exact p48_start_2 hE ⟨(u114 (WK exF ⟨by decide,by decide,by decide⟩)),hc0,(u115 (Qk 7 0 1000)),hc1,(u116 bought_ok),trivial⟩ (AvLe.of_eq (by rw [h]; rw [(show AV.rsl (rowI [1,1]) 0 2=AV.rsl (rowI ([1,1]:List Int)) 0 ([1,1]:List Int).length from by rw [show 2=([1,1]:List Int).length from by simp]; try rfl)]; try rfl))
theorem exF_ok:Yr exF=0:=by decide
theorem Buy_ok:Pure Try.prog 48 [.agg [.int .i64 0,.int .i64 0,.rsl [.int .i64 5] 0 1,.rsl [.int .i64 0] 0 1,.rsl [.int .i64 1,.int .i64 200,.int .i64 6,.int .i64 1000] 0 2,.int .i64 0,.int .i64 0,.int .i64 1],.int .i64 7] (.tup [.rsl (rowI [1,1]) 0 2,.int .i64 1200,.int .i64 0]):=Qy Try.func48 f48b fun E hE=>f48W (rv:=([1,1],1200,0)) hE ⟨fun h=>absurd exF_ok h,fun _=>⟨fun h=>absurd h (by decide),fun _=>rfl⟩⟩
theorem f31b:Try.f31.body=some (Qe Try.prog 31):=by kernel_rfl
theorem u31 {a c k:List AV} {r:AV} (h:Pure Try.prog 31 (a++c++k) r):Qf Try.prog (.clos 31 a k) c r:=Qn Try.func31 (by kernel_rfl) f31b h
def f31K0 (P:Program):List Item:=kAt 400 [.code (Qe P 31)] [.b false,.stop]
def f31S0 (a:(List Int)) (b:(List Int)) (i:Nat):St:=⟨([.rsl (rowI a) 0 a.length,.rsl (rowI b) 0 b.length,J,J,J,.int .i64 (i:Int)]++Js 20),[]⟩
def f31G0 (E:Env) (a:(List Int)) (b:(List Int)) (i:Nat):Prop:=G Try.prog E (f31K0 Try.prog) (f31S0 a b i )
theorem p31_start_0 (a:(List Int)) (b:(List Int)) {E:Env} {res:AV} (hE:Qg Try.prog 31 res E) (ho:AllP [((a.length:Int) != (b.length:Int))=true])
 (hr:AvLe (.bool false) res):G Try.prog E [.code (Qe Try.prog 31)] ⟨[.rsl (rowI a) 0 a.length,.rsl (rowI b) 0 b.length]++unds (Try.f31.ntmps - 2),[]⟩ :=
 Qd (n:=400) (evs:=[.b true]) (obs:=_) hE Try.func31 Qi (by kernel_rfl) ho hr
theorem p31_start_1 (a:(List Int)) (b:(List Int)) {E:Env} {rv:AV} (hE:Qg Try.prog 31 rv E) (ho:AllP [((a.length:Int) != (b.length:Int))=false])
 (hg:G Try.prog E (f31K0 Try.prog) ⟨([.rsl (rowI a) 0 a.length,.rsl (rowI b) 0 b.length,J,J,J,.int .i64 0]++Js 20),[]⟩):G Try.prog E [.code (Qe Try.prog 31)] ⟨[.rsl (rowI a) 0 a.length,.rsl (rowI b) 0 b.length]++unds (Try.f31.ntmps - 2),[]⟩ :=
 Qj (n:=400) (ds:=[]) (cs:=[]) (live:=[0,1,5]) (m:=0) (evs:=[.b false,.stop]) (obs:=_) hE.2.1 (hE.nogh _) Qi (by kernel_rfl) ho hg
theorem f31W (a:(List Int)) (b:(List Int)) {E:Env} {rv:Bool} (hE:Qg Try.prog 31 (.bool rv) E)
 (h:((¬ ((a.length:Int)=(b.length:Int))→rv=false)∧((a.length:Int)=(b.length:Int)→f31G0 E a b 0))):G Try.prog E [.code (Qe Try.prog 31)] ⟨[.rsl (rowI a) 0 a.length,.rsl (rowI b) 0 b.length]++unds (Try.f31.ntmps - 2),[]⟩:=by
 rcases bft ((a.length:Int) != (b.length:Int)) with hc0 | hc0
 · have h:=h.1 (bneT hc0)
   exact p31_start_0 a b hE ⟨hc0,trivial⟩ (AvLe.of_eq (by rw [h]; try rfl))
 · have h:=h.2 (bneF hc0)
   exact p31_start_1 a b hE ⟨hc0,trivial⟩ h
theorem p31_0_0 (a:(List Int)) (b:(List Int)) (i:Nat) (e:Int) (e1:Int) {E:Env} {res:AV} (hE:Qg Try.prog 31 res E) (ho:AllP [(decide ((i:Int)<(a.length:Int)))=true,0≤(i:Int)∧(i:Int)<(a.length:Int),((rowI a).drop (0+(Int.toNat (i:Int))*1)).take 1=[.int .i64 e],0≤(i:Int)∧(i:Int)<(b.length:Int),((rowI b).drop (0+(Int.toNat (i:Int))*1)).take 1=[.int .i64 e1],(e != e1)=true])
 (hr:AvLe (.bool false) res):G Try.prog E (f31K0 Try.prog) (f31S0 a b i ) :=
 Qd (n:=400) (evs:=[.b true,.ld (.int .i64 e),.ld (.int .i64 e1),.b true]) (obs:=_) hE Try.func31 Qi (by kernel_rfl) ho hr
theorem p31_0_1 (a:(List Int)) (b:(List Int)) (i:Nat) (e:Int) (e1:Int) {E:Env} {rv:AV} (hE:Qg Try.prog 31 rv E) (ho:AllP [(decide ((i:Int)<(a.length:Int)))=true,0≤(i:Int)∧(i:Int)<(a.length:Int),((rowI a).drop (0+(Int.toNat (i:Int))*1)).take 1=[.int .i64 e],0≤(i:Int)∧(i:Int)<(b.length:Int),((rowI b).drop (0+(Int.toNat (i:Int))*1)).take 1=[.int .i64 e1],(e != e1)=false,InR .i64 ((i:Int)+1)])
 (hg:G Try.prog E (f31K0 Try.prog) ⟨([.rsl (rowI a) 0 a.length,.rsl (rowI b) 0 b.length,J,J,J,.int .i64 ((i:Int)+1)]++Js 20),[]⟩):G Try.prog E (f31K0 Try.prog) (f31S0 a b i ) :=
 Qj (n:=400) (ds:=[]) (cs:=[]) (live:=[0,1,5]) (m:=0) (evs:=[.b true,.ld (.int .i64 e),.ld (.int .i64 e1),.b false,.stop]) (obs:=_) hE.2.1 (hE.nogh _) Qi (by kernel_rfl) ho hg
theorem p31_0_2 (a:(List Int)) (b:(List Int)) (i:Nat) {E:Env} {res:AV} (hE:Qg Try.prog 31 res E) (ho:AllP [(decide ((i:Int)<(a.length:Int)))=false])
 (hr:AvLe (.bool true) res):G Try.prog E (f31K0 Try.prog) (f31S0 a b i ) :=
 Qd (n:=400) (evs:=[.b false]) (obs:=_) hE Try.func31 Qi (by kernel_rfl) ho hr
theorem f31W0 (a:(List Int)) (b:(List Int)) (i:Nat) {E:Env} {rv:Bool} (hE:Qg Try.prog 31 (.bool rv) E)
 (h:(((i:Int)<(a.length:Int)→(∃ e:Int,a[i]?=some e∧(∃ e1:Int,b[i]?=some e1∧((¬ (e=e1)→rv=false)∧(e=e1→((I6 ((i:Int)+1))∧f31G0 E a b (i+1)))))))∧(¬ ((i:Int)<(a.length:Int))→rv=true))):f31G0 E a b i:=by
 rcases bft (decide ((i:Int)<(a.length:Int))) with hc0 | hc0
 · have h:=h.1 (odt hc0)
   obtain ⟨e,h1,h⟩:=h
   obtain ⟨e1,h2,h⟩:=h
   rcases bft (e != e1) with hc1 | hc1
   · have h:=h.1 (bneT hc1)
     exact p31_0_0 a b i e e1 hE ⟨hc0,(Qr h1),(rp cI 1 0 1 h1),(Qr h2),(rp cI 1 0 1 h2),hc1,trivial⟩ (AvLe.of_eq (by rw [h]; try rfl))
   · have h:=h.2 (bneF hc1)
     obtain ⟨q8_2,h⟩:=h
     exact p31_0_1 a b i e e1 hE ⟨hc0,(Qr h1),(rp cI 1 0 1 h1),(Qr h2),(rp cI 1 0 1 h2),hc1,q8_2,trivial⟩ h
 · have h:=h.2 (odf hc0)
   exact p31_0_2 a b i hE ⟨hc0,trivial⟩ (AvLe.of_eq (by rw [h]; try rfl))
theorem tsame_ok (a b:List Int) (h:a=b∧a.length≤1000000):Pure Try.prog 31 [.rsl (rowI a) 0 a.length,.rsl (rowI b) 0 b.length] (.bool true):=Qy Try.func31 f31b fun E hE=>by
 obtain ⟨rfl,hl⟩:=h
 have key:∀ (d i:Nat),i+d=a.length→f31G0 E a a i:=by
  intro d
  induction d with
  | zero=>intro i hi; exact f31W0 a a i (rv:=true) hE ⟨fun h=>by omega,fun _=>rfl⟩
  | succ d ih =>
   intro i hi
   have hx:a[i]?=some (a[i]'(by omega)):=List.getElem?_eq_getElem (by omega)
   exact f31W0 a a i (rv:=true) hE ⟨fun _=>⟨_,hx,_,hx,fun h=>absurd rfl h,fun _=>⟨by omega,ih (i+1) (by omega)⟩⟩,fun h=>by omega⟩
 exact f31W a a (rv:=true) hE ⟨fun h=>absurd rfl h,fun _=>key a.length 0 (by omega)⟩
theorem f13b:Try.f13.body=some (Qe Try.prog 13):=by kernel_rfl
theorem u13 {a c k:List AV} {r:AV} (h:Pure Try.prog 13 (a++c++k) r):Qf Try.prog (.clos 13 a k) c r:=Qn Try.func13 (by kernel_rfl) f13b h
theorem p13_start_0 {E:Env} {res:AV} (hE:Qg Try.prog 13 res E) (ho:AllP [8≤8,Xo Try.prog (.clos 48 [] []) [.agg [.int .i64 0,.int .i64 0,.sl 0 0 0 1 1,.sl 1 0 0 1 1,.sl 2 0 0 2 2,.int .i64 0,.int .i64 0,.int .i64 1],.int .i64 7] [⟨true,0,1,true,[.int .i64 5],true⟩,⟨true,0,1,true,[.int .i64 0],true⟩,⟨true,0,2,true,[.int .i64 1,.int .i64 200,.int .i64 6,.int .i64 1000],true⟩] (.tup [.rsl (rowI [1,1]) 0 2,.int .i64 1200,.int .i64 0]) [⟨false,1,1,true,[],false⟩,⟨false,1,1,true,[],false⟩,⟨false,1,2,true,[],false⟩],true=true,true=true,Qf Try.prog (.clos 31 [] []) [.rsl (rowI [1,1]) 0 2,.rsl [.int .i64 1,.int .i64 1] 0 2] (.bool true),0=0])
 (hr:AvLe (.bool true) res):G Try.prog E [.code (Qe Try.prog 13)] ⟨[]++unds (Try.f13.ntmps - 0),[]⟩ :=
 Qd (n:=400) (evs:=[.lent [0,1,2] (.tup [.rsl (rowI [1,1]) 0 2,.int .i64 1200,.int .i64 0]) [⟨false,1,1,true,[],false⟩,⟨false,1,1,true,[],false⟩,⟨false,1,2,true,[],false⟩],.b true,.b true,.v (.bool true)]) (obs:=_) hE Try.func13 Qi (by kernel_rfl) ho hr
theorem f13W {E:Env} {rv:Bool} (hE:Qg Try.prog 13 (.bool rv) E)
 (h:(((([1,1]:List Int).take 2)=([1,1])∧(([1,1]:List Int).take 2).length≤1000000)∧rv=true)):G Try.prog E [.code (Qe Try.prog 13)] ⟨[]++unds (Try.f13.ntmps - 0),[]⟩:=by
 obtain ⟨h1,h⟩:=h
 exact p13_start_0 hE ⟨(by decide),(Qo (fv':=.clos 48 [] []) (args':=[.agg [.int .i64 0,.int .i64 0,.rsl [.int .i64 5] 0 1,.rsl [.int .i64 0] 0 1,.rsl [.int .i64 1,.int .i64 200,.int .i64 6,.int .i64 1000] 0 2,.int .i64 0,.int .i64 0,.int .i64 1],.int .i64 7]) (o1:=[]) (o2:=[0=0,0=0,0=0]) (by kernel_rfl) trivial (by kernel_rfl) ⟨rfl,rfl,rfl,trivial⟩ (u48 Buy_ok)),rfl,rfl,(Qf.le (args:=[.rsl (rowI (([1,1]:List Int).take 2)) 0 ((([1,1]:List Int).take 2).length),.rsl (rowI ([1,1])) 0 (([1,1]).length)]) (u31 (tsame_ok (([1,1]:List Int).take 2) ([1,1]) h1)) ⟨(by exact rsl_take cI (s:=1) (fun _=>rfl) (by first | omega | decide | simp)),⟨AvLe.of_eq rfl,trivial⟩⟩),rfl,trivial⟩ (AvLe.of_eq (by rw [h]; try rfl))
theorem XZ:Pure Try.prog 13 [] (.bool true):=Qy Try.func13 f13b fun E hE=>f13W (rv:=true) hE ⟨⟨rfl,by decide⟩,rfl⟩
end Go.Proofs.Ytemklbioijmjiaa
namespace Go.Proofs.Ytemklbioijmjiaa
open Go Ax
open Go.Proofs
structure Gd where
 w:Int
 h:Int
 cells:List Int
 hts:List Int
structure Sit where
 cell:Int
 turned:Bool
def cSit (t:Sit):List AV:=[.int .i64 t.cell,.bool t.turned]
def Vu (l:List Sit):List AV:=l.flatMap cSit
structure GdSmall (g:Gd):Prop where
 cells:g.cells.length≤100
 hts:g.hts.length≤100
def QX (g:Gd):Bool:=Qb g.w 1 8 && (Qb g.h 1 8 && (decide ((g.cells.length:Int)=g.w*g.h) && (decide (g.hts.length=g.cells.length) && (!(g.cells.any (outB 0 3)) && !(g.hts.any (outB 0 100))))))
def Qt (g:Gd):List Int:=List.replicate (Int.toNat (g.cells.length:Int)) (-1:Int)
def fldV (g:Gd):AV:=.rptr [.int .i64 g.w,.int .i64 g.h,.rsl (rowI g.cells) 0 g.cells.length,.rsl (rowI g.hts) 0 g.hts.length,.nilSl,.rsl [] 0 0,.rsl (rowI (Qt g)) 0 (Qt g).length] 0
theorem gnd_dims {g:Gd} (h1:Qb g.w 1 8=true) (h2:Qb g.h 1 8=true):1≤g.w*g.h∧g.w*g.h≤64:=by
 have a:=QI.1 h1
 have b:=QI.1 h2
 have m1:=Int.mul_le_mul a.2 b.2 (by omega) (by omega)
 have m2:=Int.mul_le_mul a.1 b.1 (by omega) (by omega)
 omega
theorem VT {g:Gd} (h:QX g=true):1≤g.cells.length∧g.cells.length≤64:=by
 simp only [QX,Bool.and_eq_true,decide_eq_true_eq] at h
 have:=gnd_dims h.1 h.2.1
 omega
theorem f129b:Try.f129.body=some (Qe Try.prog 129):=by kernel_rfl
theorem u129 {a c k:List AV} {r:AV} (h:Pure Try.prog 129 (a++c++k) r):Qf Try.prog (.clos 129 a k) c r:=Qn Try.func129 (by kernel_rfl) f129b h
theorem p129_start_0 (n:Int) (lo:Int) (hi:Int) {E:Env} {res:AV} (hE:Qg Try.prog 129 res E) (ho:AllP [(decide (n≥lo))=true])
 (hr:AvLe (.bool (decide (n≤hi))) res):G Try.prog E [.code (Qe Try.prog 129)] ⟨[.int .i64 n,.int .i64 lo,.int .i64 hi]++unds (Try.f129.ntmps - 3),[]⟩ :=
 Qd (n:=400) (evs:=[.b true]) (obs:=_) hE Try.func129 Qi (by kernel_rfl) ho hr
theorem p129_start_1 (n:Int) (lo:Int) (hi:Int) {E:Env} {res:AV} (hE:Qg Try.prog 129 res E) (ho:AllP [(decide (n≥lo))=false])
 (hr:AvLe (.bool false) res):G Try.prog E [.code (Qe Try.prog 129)] ⟨[.int .i64 n,.int .i64 lo,.int .i64 hi]++unds (Try.f129.ntmps - 3),[]⟩ :=
 Qd (n:=400) (evs:=[.b false]) (obs:=_) hE Try.func129 Qi (by kernel_rfl) ho hr
theorem f129W (n:Int) (lo:Int) (hi:Int) {E:Env} {rv:Bool} (hE:Qg Try.prog 129 (.bool rv) E)
 (h:((n≥lo→rv=(decide (n≤hi)))∧(¬ (n≥lo)→rv=false))):G Try.prog E [.code (Qe Try.prog 129)] ⟨[.int .i64 n,.int .i64 lo,.int .i64 hi]++unds (Try.f129.ntmps - 3),[]⟩:=by
 rcases bft (decide (n≥lo)) with hc0 | hc0
 · have h:=h.1 (odt hc0)
   exact p129_start_0 n lo hi hE ⟨hc0,trivial⟩ (AvLe.of_eq (by rw [h]; try rfl))
 · have h:=h.2 (odf hc0)
   exact p129_start_1 n lo hi hE ⟨hc0,trivial⟩ (AvLe.of_eq (by rw [h]; try rfl))
theorem QT (n lo hi:Int):Pure Try.prog 129 [.int .i64 n,.int .i64 lo,.int .i64 hi] (.bool (Qb n lo hi)):=Qy Try.func129 f129b fun E hE=>by
 refine f129W n lo hi hE ⟨fun h=>by simp [Qb,h],fun h=>by simp [Qb,h]⟩
theorem f264b:Try.f264.body=some (Qe Try.prog 264):=by kernel_rfl
theorem u264 {a c k:List AV} {r:AV} (h:Pure Try.prog 264 (a++c++k) r):Qf Try.prog (.clos 264 a k) c r:=Qn Try.func264 (by kernel_rfl) f264b h
theorem p264_start_0 (n:Int) {E:Env} {res:AV} (hE:Qg Try.prog 264 res E) (ho:AllP [Qf Try.prog (.clos 129 [] []) [.int .i64 n,.int .i64 0,.int .i64 3] (.bool (Qb n 0 3))])
 (hr:AvLe (.bool (!(Qb n 0 3))) res):G Try.prog E [.code (Qe Try.prog 264)] ⟨[.int .i64 n]++unds (Try.f264.ntmps - 1),[]⟩ :=
 Qd (n:=400) (evs:=[.v (.bool (Qb n 0 3))]) (obs:=_) hE Try.func264 Qi (by kernel_rfl) ho hr
theorem f264W (n:Int) {E:Env} {rv:Bool} (hE:Qg Try.prog 264 (.bool rv) E)
 (h:rv=(!(Qb n 0 3))):G Try.prog E [.code (Qe Try.prog 264)] ⟨[.int .i64 n]++unds (Try.f264.ntmps - 1),[]⟩:=by
 exact p264_start_0 n hE ⟨(u129 (QT n 0 3)),trivial⟩ (AvLe.of_eq (by rw [h]; try rfl))
theorem gr1_ok (n:Int):Pure Try.prog 264 [.int .i64 n] (.bool (outB 0 3 n)):=Qy Try.func264 f264b fun E hE=>f264W n (rv:=outB 0 3 n) hE rfl
theorem f59g3b:Try.f59.body=some (Qe Try.prog 59):=by kernel_rfl
def VV (P:Program):List Item:=kAt 400 [.code (Qe P 59)] [.stop]
def yT (l:(List Int)) (i:Nat):St:=⟨([.rsl (rowI l) 0 l.length,.clos 264 [] []]++jj 5 ([.int .i64 (l.length:Int),.int .i64 (i:Int)]++Js 10)),[]⟩
def yU (E:Env) (l:(List Int)) (i:Nat):Prop:=G Try.prog E (VV Try.prog) (yT l i )
theorem yz (l:(List Int)) {E:Env} {rv:AV} (hE:Qg Try.prog 59 rv E) (ho:AllP [])
 (hg:G Try.prog E (VV Try.prog) ⟨([.rsl (rowI l) 0 l.length,.clos 264 [] []]++jj 5 ([.int .i64 (l.length:Int),.int .i64 0]++Js 10)),[]⟩):G Try.prog E [.code (Qe Try.prog 59)] ⟨[.rsl (rowI l) 0 l.length,.clos 264 [] []]++unds (Try.f59.ntmps - 2),[]⟩ :=
 Qj (n:=400) (ds:=[]) (cs:=[]) (live:=[0,1,7,8]) (m:=0) (evs:=[.stop]) (obs:=_) hE.2.1 (hE.nogh _) Qi (by kernel_rfl) ho hg
theorem f59g3W (l:(List Int)) {E:Env} {rv:Int} (hE:Qg Try.prog 59 (.int .i64 rv) E)
 (h:yU E l 0):G Try.prog E [.code (Qe Try.prog 59)] ⟨[.rsl (rowI l) 0 l.length,.clos 264 [] []]++unds (Try.f59.ntmps - 2),[]⟩:=by
 exact yz l hE trivial h
theorem p59g3_0_0 (l:(List Int)) (i:Nat) (e:Int) {E:Env} {res:AV} (hE:Qg Try.prog 59 res E) (ho:AllP [(decide ((i:Int)<(l.length:Int)))=true,0≤(i:Int)∧(i:Int)<(l.length:Int),((rowI l).drop (0+(Int.toNat (i:Int))*1)).take 1=[.int .i64 e],Qf Try.prog (.clos 264 [] []) [.int .i64 e] (.bool (outB 0 3 e)),(outB 0 3 e)=true])
 (hr:AvLe (.int .i64 (i:Int)) res):G Try.prog E (VV Try.prog) (yT l i ) :=
 Qd (n:=400) (evs:=[.b true,.ld (.int .i64 e),.v (.bool (outB 0 3 e)),.b true]) (obs:=_) hE Try.func59 Qi (by kernel_rfl) ho hr
theorem p59g3_0_1 (l:(List Int)) (i:Nat) (e:Int) {E:Env} {rv:AV} (hE:Qg Try.prog 59 rv E) (ho:AllP [(decide ((i:Int)<(l.length:Int)))=true,0≤(i:Int)∧(i:Int)<(l.length:Int),((rowI l).drop (0+(Int.toNat (i:Int))*1)).take 1=[.int .i64 e],Qf Try.prog (.clos 264 [] []) [.int .i64 e] (.bool (outB 0 3 e)),(outB 0 3 e)=false,InR .i64 ((i:Int)+1)])
 (hg:G Try.prog E (VV Try.prog) ⟨([.rsl (rowI l) 0 l.length,.clos 264 [] []]++jj 5 ([.int .i64 (l.length:Int),.int .i64 ((i:Int)+1)]++Js 10)),[]⟩):G Try.prog E (VV Try.prog) (yT l i ) :=
 Qj (n:=400) (ds:=[]) (cs:=[]) (live:=[0,1,7,8]) (m:=0) (evs:=[.b true,.ld (.int .i64 e),.v (.bool (outB 0 3 e)),.b false,.stop]) (obs:=_) hE.2.1 (hE.nogh _) Qi (by kernel_rfl) ho hg
theorem p59g3_0_2 (l:(List Int)) (i:Nat) {E:Env} {res:AV} (hE:Qg Try.prog 59 res E) (ho:AllP [(decide ((i:Int)<(l.length:Int)))=false])
 (hr:AvLe (.int .i64 (-1)) res):G Try.prog E (VV Try.prog) (yT l i ) :=
 Qd (n:=400) (evs:=[.b false]) (obs:=_) hE Try.func59 Qi (by kernel_rfl) ho hr
theorem f59g3W0 (l:(List Int)) (i:Nat) {E:Env} {rv:Int} (hE:Qg Try.prog 59 (.int .i64 rv) E)
 (h:(((i:Int)<(l.length:Int)→(∃ e:Int,l[i]?=some e∧(((outB 0 3 e)=true→rv=(i:Int))∧((outB 0 3 e)=false→((I6 ((i:Int)+1))∧yU E l (i+1))))))∧(¬ ((i:Int)<(l.length:Int))→rv=(-1)))):yU E l i:=by
 rcases bft (decide ((i:Int)<(l.length:Int))) with hc0 | hc0
 · have h:=h.1 (odt hc0)
   obtain ⟨e,h1,h⟩:=h
   rcases bft (outB 0 3 e) with hc1 | hc1
   · have h:=h.1 hc1
     exact p59g3_0_0 l i e hE ⟨hc0,(Qr h1),(rp cI 1 0 1 h1),(u264 (gr1_ok e)),hc1,trivial⟩ (AvLe.of_eq (by rw [h]; try rfl))
   · have h:=h.2 hc1
     obtain ⟨q6_2,h⟩:=h
     exact p59g3_0_1 l i e hE ⟨hc0,(Qr h1),(rp cI 1 0 1 h1),(u264 (gr1_ok e)),hc1,q6_2,trivial⟩ h
 · have h:=h.2 (odf hc0)
   exact p59g3_0_2 l i hE ⟨hc0,trivial⟩ (AvLe.of_eq (by rw [h]; try rfl))
theorem idxGr3_ok (l:List Int) (h:l.length≤9223372036854775807):Pure Try.prog 59 [.rsl (rowI l) 0 l.length,.clos 264 [] []] (.int .i64 (idxG (outB 0 3) l)):=Qy Try.func59 f59g3b fun E hE=>by
 have hl:=h
 refine f59g3W l (rv:=idxG (outB 0 3) l) hE (Yp (outB 0 3) l l.length 0 (by omega) (fun j x hj=>by omega) (fun i=>yU E l i) (fun i hi' h1 h2=>?_) (fun _ h2=>?_))
 · have hx:l[i]?=some l[i]:=List.getElem?_eq_getElem hi'
   have hm:=List.mem_of_getElem? hx
   exact f59g3W0 l i (rv:=idxG (outB 0 3) l) hE ⟨fun _=>⟨_,hx,fun hp=>h1 _ hx (by simpa using hp),fun hp=>⟨by omega,h2 _ hx (by simpa using hp)⟩⟩,fun h=>by omega⟩
 · exact f59g3W0 l _ (rv:=idxG (outB 0 3) l) hE ⟨fun h=>by omega,fun _=>h2⟩
theorem f76g3b:Try.f76.body=some (Qe Try.prog 76):=by kernel_rfl
theorem yx (l:(List Int)) {E:Env} {res:AV} (hE:Qg Try.prog 76 res E) (ho:AllP [Qf Try.prog (.clos 59 [] []) [.rsl (rowI l) 0 l.length,.clos 264 [] []] (.int .i64 (idxG (outB 0 3) l))])
 (hr:AvLe (.bool (decide ((idxG (outB 0 3) l)≥0))) res):G Try.prog E [.code (Qe Try.prog 76)] ⟨[.rsl (rowI l) 0 l.length,.clos 264 [] []]++unds (Try.f76.ntmps - 2),[]⟩ :=
 Qd (n:=400) (evs:=[.v (.int .i64 (idxG (outB 0 3) l))]) (obs:=_) hE Try.func76 Qi (by kernel_rfl) ho hr
theorem f76g3W (l:(List Int)) {E:Env} {rv:Bool} (hE:Qg Try.prog 76 (.bool rv) E)
 (h:((l.length≤9223372036854775807)∧rv=(decide ((idxG (outB 0 3) l)≥0)))):G Try.prog E [.code (Qe Try.prog 76)] ⟨[.rsl (rowI l) 0 l.length,.clos 264 [] []]++unds (Try.f76.ntmps - 2),[]⟩:=by
 obtain ⟨h1,h⟩:=h
 exact yx l hE ⟨(Qn Try.func59 (by kernel_rfl) f59g3b (idxGr3_ok l h1)),trivial⟩ (AvLe.of_eq (by rw [h]; try rfl))
theorem anyGr3_ok (l:List Int) (h:l.length≤9223372036854775807):Pure Try.prog 76 [.rsl (rowI l) 0 l.length,.clos 264 [] []] (.bool (l.any (outB 0 3))):=Qy Try.func76 f76g3b fun E hE =>
 f76g3W l (rv:=l.any (outB 0 3)) hE ⟨h,(Vz _ _).symm⟩
theorem f265b:Try.f265.body=some (Qe Try.prog 265):=by kernel_rfl
theorem u265 {a c k:List AV} {r:AV} (h:Pure Try.prog 265 (a++c++k) r):Qf Try.prog (.clos 265 a k) c r:=Qn Try.func265 (by kernel_rfl) f265b h
theorem p265_start_0 (n:Int) {E:Env} {res:AV} (hE:Qg Try.prog 265 res E) (ho:AllP [Qf Try.prog (.clos 129 [] []) [.int .i64 n,.int .i64 0,.int .i64 100] (.bool (Qb n 0 100))])
 (hr:AvLe (.bool (!(Qb n 0 100))) res):G Try.prog E [.code (Qe Try.prog 265)] ⟨[.int .i64 n]++unds (Try.f265.ntmps - 1),[]⟩ :=
 Qd (n:=400) (evs:=[.v (.bool (Qb n 0 100))]) (obs:=_) hE Try.func265 Qi (by kernel_rfl) ho hr
theorem f265W (n:Int) {E:Env} {rv:Bool} (hE:Qg Try.prog 265 (.bool rv) E)
 (h:rv=(!(Qb n 0 100))):G Try.prog E [.code (Qe Try.prog 265)] ⟨[.int .i64 n]++unds (Try.f265.ntmps - 1),[]⟩:=by
 exact p265_start_0 n hE ⟨(u129 (QT n 0 100)),trivial⟩ (AvLe.of_eq (by rw [h]; try rfl))
theorem gr2_ok (n:Int):Pure Try.prog 265 [.int .i64 n] (.bool (outB 0 100 n)):=Qy Try.func265 f265b fun E hE=>f265W n (rv:=outB 0 100 n) hE rfl
theorem f59g100b:Try.f59.body=some (Qe Try.prog 59):=by kernel_rfl
def Yt (P:Program):List Item:=kAt 400 [.code (Qe P 59)] [.stop]
def VC (l:(List Int)) (i:Nat):St:=⟨([.rsl (rowI l) 0 l.length,.clos 265 [] []]++jj 5 ([.int .i64 (l.length:Int),.int .i64 (i:Int)]++Js 10)),[]⟩
def VD (E:Env) (l:(List Int)) (i:Nat):Prop:=G Try.prog E (Yt Try.prog) (VC l i )
theorem WT (l:(List Int)) {E:Env} {rv:AV} (hE:Qg Try.prog 59 rv E) (ho:AllP [])
 (hg:G Try.prog E (Yt Try.prog) ⟨([.rsl (rowI l) 0 l.length,.clos 265 [] []]++jj 5 ([.int .i64 (l.length:Int),.int .i64 0]++Js 10)),[]⟩):G Try.prog E [.code (Qe Try.prog 59)] ⟨[.rsl (rowI l) 0 l.length,.clos 265 [] []]++unds (Try.f59.ntmps - 2),[]⟩ :=
 Qj (n:=400) (ds:=[]) (cs:=[]) (live:=[0,1,7,8]) (m:=0) (evs:=[.stop]) (obs:=_) hE.2.1 (hE.nogh _) Qi (by kernel_rfl) ho hg
theorem f59g100W (l:(List Int)) {E:Env} {rv:Int} (hE:Qg Try.prog 59 (.int .i64 rv) E)
 (h:VD E l 0):G Try.prog E [.code (Qe Try.prog 59)] ⟨[.rsl (rowI l) 0 l.length,.clos 265 [] []]++unds (Try.f59.ntmps - 2),[]⟩:=by
 exact WT l hE trivial h
theorem p59g100_0_0 (l:(List Int)) (i:Nat) (e:Int) {E:Env} {res:AV} (hE:Qg Try.prog 59 res E) (ho:AllP [(decide ((i:Int)<(l.length:Int)))=true,0≤(i:Int)∧(i:Int)<(l.length:Int),((rowI l).drop (0+(Int.toNat (i:Int))*1)).take 1=[.int .i64 e],Qf Try.prog (.clos 265 [] []) [.int .i64 e] (.bool (outB 0 100 e)),(outB 0 100 e)=true])
 (hr:AvLe (.int .i64 (i:Int)) res):G Try.prog E (Yt Try.prog) (VC l i ) :=
 Qd (n:=400) (evs:=[.b true,.ld (.int .i64 e),.v (.bool (outB 0 100 e)),.b true]) (obs:=_) hE Try.func59 Qi (by kernel_rfl) ho hr
theorem p59g100_0_1 (l:(List Int)) (i:Nat) (e:Int) {E:Env} {rv:AV} (hE:Qg Try.prog 59 rv E) (ho:AllP [(decide ((i:Int)<(l.length:Int)))=true,0≤(i:Int)∧(i:Int)<(l.length:Int),((rowI l).drop (0+(Int.toNat (i:Int))*1)).take 1=[.int .i64 e],Qf Try.prog (.clos 265 [] []) [.int .i64 e] (.bool (outB 0 100 e)),(outB 0 100 e)=false,InR .i64 ((i:Int)+1)])
 (hg:G Try.prog E (Yt Try.prog) ⟨([.rsl (rowI l) 0 l.length,.clos 265 [] []]++jj 5 ([.int .i64 (l.length:Int),.int .i64 ((i:Int)+1)]++Js 10)),[]⟩):G Try.prog E (Yt Try.prog) (VC l i ) :=
 Qj (n:=400) (ds:=[]) (cs:=[]) (live:=[0,1,7,8]) (m:=0) (evs:=[.b true,.ld (.int .i64 e),.v (.bool (outB 0 100 e)),.b false,.stop]) (obs:=_) hE.2.1 (hE.nogh _) Qi (by kernel_rfl) ho hg
theorem p59g100_0_2 (l:(List Int)) (i:Nat) {E:Env} {res:AV} (hE:Qg Try.prog 59 res E) (ho:AllP [(decide ((i:Int)<(l.length:Int)))=false])
 (hr:AvLe (.int .i64 (-1)) res):G Try.prog E (Yt Try.prog) (VC l i ) :=
 Qd (n:=400) (evs:=[.b false]) (obs:=_) hE Try.func59 Qi (by kernel_rfl) ho hr
theorem f59g100W0 (l:(List Int)) (i:Nat) {E:Env} {rv:Int} (hE:Qg Try.prog 59 (.int .i64 rv) E)
 (h:(((i:Int)<(l.length:Int)→(∃ e:Int,l[i]?=some e∧(((outB 0 100 e)=true→rv=(i:Int))∧((outB 0 100 e)=false→((I6 ((i:Int)+1))∧VD E l (i+1))))))∧(¬ ((i:Int)<(l.length:Int))→rv=(-1)))):VD E l i:=by
 rcases bft (decide ((i:Int)<(l.length:Int))) with hc0 | hc0
 · have h:=h.1 (odt hc0)
   obtain ⟨e,h1,h⟩:=h
   rcases bft (outB 0 100 e) with hc1 | hc1
   · have h:=h.1 hc1
     exact p59g100_0_0 l i e hE ⟨hc0,(Qr h1),(rp cI 1 0 1 h1),(u265 (gr2_ok e)),hc1,trivial⟩ (AvLe.of_eq (by rw [h]; try rfl))
   · have h:=h.2 hc1
     obtain ⟨q6_2,h⟩:=h
     exact p59g100_0_1 l i e hE ⟨hc0,(Qr h1),(rp cI 1 0 1 h1),(u265 (gr2_ok e)),hc1,q6_2,trivial⟩ h
 · have h:=h.2 (odf hc0)
   exact p59g100_0_2 l i hE ⟨hc0,trivial⟩ (AvLe.of_eq (by rw [h]; try rfl))
theorem idxGr100_ok (l:List Int) (h:l.length≤9223372036854775807):Pure Try.prog 59 [.rsl (rowI l) 0 l.length,.clos 265 [] []] (.int .i64 (idxG (outB 0 100) l)):=Qy Try.func59 f59g100b fun E hE=>by
 have hl:=h
 refine f59g100W l (rv:=idxG (outB 0 100) l) hE (Yp (outB 0 100) l l.length 0 (by omega) (fun j x hj=>by omega) (fun i=>VD E l i) (fun i hi' h1 h2=>?_) (fun _ h2=>?_))
 · have hx:l[i]?=some l[i]:=List.getElem?_eq_getElem hi'
   have hm:=List.mem_of_getElem? hx
   exact f59g100W0 l i (rv:=idxG (outB 0 100) l) hE ⟨fun _=>⟨_,hx,fun hp=>h1 _ hx (by simpa using hp),fun hp=>⟨by omega,h2 _ hx (by simpa using hp)⟩⟩,fun h=>by omega⟩
 · exact f59g100W0 l _ (rv:=idxG (outB 0 100) l) hE ⟨fun h=>by omega,fun _=>h2⟩
theorem f76g100b:Try.f76.body=some (Qe Try.prog 76):=by kernel_rfl
theorem WS (l:(List Int)) {E:Env} {res:AV} (hE:Qg Try.prog 76 res E) (ho:AllP [Qf Try.prog (.clos 59 [] []) [.rsl (rowI l) 0 l.length,.clos 265 [] []] (.int .i64 (idxG (outB 0 100) l))])
 (hr:AvLe (.bool (decide ((idxG (outB 0 100) l)≥0))) res):G Try.prog E [.code (Qe Try.prog 76)] ⟨[.rsl (rowI l) 0 l.length,.clos 265 [] []]++unds (Try.f76.ntmps - 2),[]⟩ :=
 Qd (n:=400) (evs:=[.v (.int .i64 (idxG (outB 0 100) l))]) (obs:=_) hE Try.func76 Qi (by kernel_rfl) ho hr
theorem f76g100W (l:(List Int)) {E:Env} {rv:Bool} (hE:Qg Try.prog 76 (.bool rv) E)
 (h:((l.length≤9223372036854775807)∧rv=(decide ((idxG (outB 0 100) l)≥0)))):G Try.prog E [.code (Qe Try.prog 76)] ⟨[.rsl (rowI l) 0 l.length,.clos 265 [] []]++unds (Try.f76.ntmps - 2),[]⟩:=by
 obtain ⟨h1,h⟩:=h
 exact WS l hE ⟨(Qn Try.func59 (by kernel_rfl) f59g100b (idxGr100_ok l h1)),trivial⟩ (AvLe.of_eq (by rw [h]; try rfl))
theorem anyGr100_ok (l:List Int) (h:l.length≤9223372036854775807):Pure Try.prog 76 [.rsl (rowI l) 0 l.length,.clos 265 [] []] (.bool (l.any (outB 0 100))):=Qy Try.func76 f76g100b fun E hE =>
 f76g100W l (rv:=l.any (outB 0 100)) hE ⟨h,(Vz _ _).symm⟩
theorem f221b:Try.f221.body=some (Qe Try.prog 221):=by kernel_rfl
theorem u221 {a c k:List AV} {r:AV} (h:Pure Try.prog 221 (a++c++k) r):Qf Try.prog (.clos 221 a k) c r:=Qn Try.func221 (by kernel_rfl) f221b h
abbrev qF (g:Gd):List AV:=[.agg [.int .i64 g.w,.int .i64 g.h,.rsl (rowI g.cells) 0 g.cells.length,.rsl (rowI g.hts) 0 g.hts.length]]
theorem p221_start_0 (g:Gd) {E:Env} {res:AV} (hE:Qg Try.prog 221 res E) (ho:AllP [Qf Try.prog (.clos 129 [] []) [.int .i64 g.w,.int .i64 1,.int .i64 8] (.bool (Qb g.w 1 8)),(!(Qb g.w 1 8))=true,true=true,true=true,true=true])
 (hr:AvLe (.bool false) res):G Try.prog E [.code (Qe Try.prog 221)] ⟨(qF g)++unds (Try.f221.ntmps - 1),[]⟩ :=
 Qd (n:=400) (evs:=[.v (.bool (Qb g.w 1 8)),.b true,.b true,.b true,.b true]) (obs:=_) hE Try.func221 Qi (by kernel_rfl) ho hr
theorem p221_start_1 (g:Gd) {E:Env} {res:AV} (hE:Qg Try.prog 221 res E) (ho:AllP [Qf Try.prog (.clos 129 [] []) [.int .i64 g.w,.int .i64 1,.int .i64 8] (.bool (Qb g.w 1 8)),(!(Qb g.w 1 8))=false,Qf Try.prog (.clos 129 [] []) [.int .i64 g.h,.int .i64 1,.int .i64 8] (.bool (Qb g.h 1 8)),(!(Qb g.h 1 8))=true,true=true,true=true])
 (hr:AvLe (.bool false) res):G Try.prog E [.code (Qe Try.prog 221)] ⟨(qF g)++unds (Try.f221.ntmps - 1),[]⟩ :=
 Qd (n:=400) (evs:=[.v (.bool (Qb g.w 1 8)),.b false,.v (.bool (Qb g.h 1 8)),.b true,.b true,.b true]) (obs:=_) hE Try.func221 Qi (by kernel_rfl) ho hr
theorem p221_start_2 (g:Gd) {E:Env} {res:AV} (hE:Qg Try.prog 221 res E) (ho:AllP [Qf Try.prog (.clos 129 [] []) [.int .i64 g.w,.int .i64 1,.int .i64 8] (.bool (Qb g.w 1 8)),(!(Qb g.w 1 8))=false,Qf Try.prog (.clos 129 [] []) [.int .i64 g.h,.int .i64 1,.int .i64 8] (.bool (Qb g.h 1 8)),(!(Qb g.h 1 8))=false,InR .i64 (g.w*g.h),((g.cells.length:Int) != (g.w*g.h))=true,true=true])
 (hr:AvLe (.bool false) res):G Try.prog E [.code (Qe Try.prog 221)] ⟨(qF g)++unds (Try.f221.ntmps - 1),[]⟩ :=
 Qd (n:=400) (evs:=[.v (.bool (Qb g.w 1 8)),.b false,.v (.bool (Qb g.h 1 8)),.b false,.b true,.b true]) (obs:=_) hE Try.func221 Qi (by kernel_rfl) ho hr
theorem p221_start_3 (g:Gd) {E:Env} {res:AV} (hE:Qg Try.prog 221 res E) (ho:AllP [Qf Try.prog (.clos 129 [] []) [.int .i64 g.w,.int .i64 1,.int .i64 8] (.bool (Qb g.w 1 8)),(!(Qb g.w 1 8))=false,Qf Try.prog (.clos 129 [] []) [.int .i64 g.h,.int .i64 1,.int .i64 8] (.bool (Qb g.h 1 8)),(!(Qb g.h 1 8))=false,InR .i64 (g.w*g.h),((g.cells.length:Int) != (g.w*g.h))=false,((g.hts.length:Int) != (g.cells.length:Int))=true])
 (hr:AvLe (.bool false) res):G Try.prog E [.code (Qe Try.prog 221)] ⟨(qF g)++unds (Try.f221.ntmps - 1),[]⟩ :=
 Qd (n:=400) (evs:=[.v (.bool (Qb g.w 1 8)),.b false,.v (.bool (Qb g.h 1 8)),.b false,.b false,.b true]) (obs:=_) hE Try.func221 Qi (by kernel_rfl) ho hr
theorem p221_start_4 (g:Gd) {E:Env} {res:AV} (hE:Qg Try.prog 221 res E) (ho:AllP [Qf Try.prog (.clos 129 [] []) [.int .i64 g.w,.int .i64 1,.int .i64 8] (.bool (Qb g.w 1 8)),(!(Qb g.w 1 8))=false,Qf Try.prog (.clos 129 [] []) [.int .i64 g.h,.int .i64 1,.int .i64 8] (.bool (Qb g.h 1 8)),(!(Qb g.h 1 8))=false,InR .i64 (g.w*g.h),((g.cells.length:Int) != (g.w*g.h))=false,((g.hts.length:Int) != (g.cells.length:Int))=false,Qf Try.prog (.clos 76 [] []) [.rsl (rowI g.cells) 0 g.cells.length,.clos 264 [] []] (.bool (g.cells.any (outB 0 3))),(!(g.cells.any (outB 0 3)))=true,Qf Try.prog (.clos 76 [] []) [.rsl (rowI g.hts) 0 g.hts.length,.clos 265 [] []] (.bool (g.hts.any (outB 0 100)))])
 (hr:AvLe (.bool (!(g.hts.any (outB 0 100)))) res):G Try.prog E [.code (Qe Try.prog 221)] ⟨(qF g)++unds (Try.f221.ntmps - 1),[]⟩ :=
 Qd (n:=400) (evs:=[.v (.bool (Qb g.w 1 8)),.b false,.v (.bool (Qb g.h 1 8)),.b false,.b false,.b false,.v (.bool (g.cells.any (outB 0 3))),.b true,.v (.bool (g.hts.any (outB 0 100)))]) (obs:=_) hE Try.func221 Qi (by kernel_rfl) ho hr
theorem p221_start_5 (g:Gd) {E:Env} {res:AV} (hE:Qg Try.prog 221 res E) (ho:AllP [Qf Try.prog (.clos 129 [] []) [.int .i64 g.w,.int .i64 1,.int .i64 8] (.bool (Qb g.w 1 8)),(!(Qb g.w 1 8))=false,Qf Try.prog (.clos 129 [] []) [.int .i64 g.h,.int .i64 1,.int .i64 8] (.bool (Qb g.h 1 8)),(!(Qb g.h 1 8))=false,InR .i64 (g.w*g.h),((g.cells.length:Int) != (g.w*g.h))=false,((g.hts.length:Int) != (g.cells.length:Int))=false,Qf Try.prog (.clos 76 [] []) [.rsl (rowI g.cells) 0 g.cells.length,.clos 264 [] []] (.bool (g.cells.any (outB 0 3))),(!(g.cells.any (outB 0 3)))=false])
 (hr:AvLe (.bool false) res):G Try.prog E [.code (Qe Try.prog 221)] ⟨(qF g)++unds (Try.f221.ntmps - 1),[]⟩ :=
 Qd (n:=400) (evs:=[.v (.bool (Qb g.w 1 8)),.b false,.v (.bool (Qb g.h 1 8)),.b false,.b false,.b false,.v (.bool (g.cells.any (outB 0 3))),.b false]) (obs:=_) hE Try.func221 Qi (by kernel_rfl) ho hr
theorem f221W (g:Gd) {E:Env} {rv:Bool} (hE:Qg Try.prog 221 (.bool rv) E)
 (h:(((Qb g.w 1 8)=false→rv=false)∧((Qb g.w 1 8)=true→(((Qb g.h 1 8)=false→rv=false)∧((Qb g.h 1 8)=true→((I6 (g.w*g.h))∧((¬ ((g.cells.length:Int)=(g.w*g.h))→rv=false)∧((g.cells.length:Int)=(g.w*g.h)→((¬ ((g.hts.length:Int)=(g.cells.length:Int))→rv=false)∧((g.hts.length:Int)=(g.cells.length:Int)→((g.cells.length≤9223372036854775807)∧(((g.cells.any (outB 0 3))=false→((g.hts.length≤9223372036854775807)∧rv=(!(g.hts.any (outB 0 100)))))∧((g.cells.any (outB 0 3))=true→rv=false))))))))))))):G Try.prog E [.code (Qe Try.prog 221)] ⟨[.agg [.int .i64 g.w,.int .i64 g.h,.rsl (rowI g.cells) 0 g.cells.length,.rsl (rowI g.hts) 0 g.hts.length]]++unds (Try.f221.ntmps - 1),[]⟩:=by
 rcases bft (!(Qb g.w 1 8)) with hc0 | hc0
 · have h:=h.1 (bnT hc0)
   exact p221_start_0 g hE ⟨(u129 (QT g.w 1 8)),hc0,rfl,rfl,rfl,trivial⟩ (AvLe.of_eq (by rw [h]; try rfl))
 · have h:=h.2 (bnF hc0)
   rcases bft (!(Qb g.h 1 8)) with hc1 | hc1
   · have h:=h.1 (bnT hc1)
     exact p221_start_1 g hE ⟨(u129 (QT g.w 1 8)),hc0,(u129 (QT g.h 1 8)),hc1,rfl,rfl,trivial⟩ (AvLe.of_eq (by rw [h]; try rfl))
   · have h:=h.2 (bnF hc1)
     obtain ⟨q4_2,h⟩:=h
     rcases bft ((g.cells.length:Int) != (g.w*g.h)) with hc2 | hc2
     · have h:=h.1 (bneT hc2)
       exact p221_start_2 g hE ⟨(u129 (QT g.w 1 8)),hc0,(u129 (QT g.h 1 8)),hc1,q4_2,hc2,rfl,trivial⟩ (AvLe.of_eq (by rw [h]; try rfl))
     · have h:=h.2 (bneF hc2)
       rcases bft ((g.hts.length:Int) != (g.cells.length:Int)) with hc3 | hc3
       · have h:=h.1 (bneT hc3)
         exact p221_start_3 g hE ⟨(u129 (QT g.w 1 8)),hc0,(u129 (QT g.h 1 8)),hc1,q4_2,hc2,hc3,trivial⟩ (AvLe.of_eq (by rw [h]; try rfl))
       · have h:=h.2 (bneF hc3)
         obtain ⟨h1,h⟩:=h
         rcases bft (!(g.cells.any (outB 0 3))) with hc4 | hc4
         · have h:=h.1 (bnT hc4)
           obtain ⟨h2,h⟩:=h
           exact p221_start_4 g hE ⟨(u129 (QT g.w 1 8)),hc0,(u129 (QT g.h 1 8)),hc1,q4_2,hc2,hc3,(Qn Try.func76 (by kernel_rfl) f76g3b (anyGr3_ok g.cells h1)),hc4,(Qn Try.func76 (by kernel_rfl) f76g100b (anyGr100_ok g.hts h2)),trivial⟩ (AvLe.of_eq (by rw [h]; try rfl))
         · have h:=h.2 (bnF hc4)
           exact p221_start_5 g hE ⟨(u129 (QT g.w 1 8)),hc0,(u129 (QT g.h 1 8)),hc1,q4_2,hc2,hc3,(Qn Try.func76 (by kernel_rfl) f76g3b (anyGr3_ok g.cells h1)),hc4,trivial⟩ (AvLe.of_eq (by rw [h]; try rfl))
theorem qi (g:Gd) (hs:GdSmall g):Pure Try.prog 221 [.agg [.int .i64 g.w,.int .i64 g.h,.rsl (rowI g.cells) 0 g.cells.length,.rsl (rowI g.hts) 0 g.hts.length]] (.bool (QX g)):=Qy Try.func221 f221b fun E hE=>by
 have s1:=hs.cells
 have s2:=hs.hts
 refine f221W g (rv:=QX g) hE ⟨fun h1=>?_,fun h1=>⟨fun h2=>?_,fun h2=>⟨?_,fun h3=>?_,fun h3=>⟨fun h4=>?_,fun h4=>⟨by omega,fun h5=>⟨by omega,?_⟩,fun h5=>?_⟩⟩⟩⟩⟩
 · unfold QX; rw [h1]; rfl
 · unfold QX; rw [h2]; simp
 · have:=gnd_dims h1 h2
   exact ⟨by omega,by omega⟩
 · unfold QX; rw [decide_eq_false h3]; simp
 · unfold QX; rw [decide_eq_false (show ¬ g.hts.length=g.cells.length by omega)]; simp
 · unfold QX; rw [h1,h2,decide_eq_true h3,decide_eq_true (show g.hts.length=g.cells.length by omega),h5]; simp
 · unfold QX; rw [h5]; simp
theorem f222nb:Try.f222.body=some (Qe Try.prog 222):=by kernel_rfl
def f222nK0 (P:Program):List Item:=kAt 400 [.code (Qe P 222)] [.stop]
def f222nS0 (g:Gd):St:=⟨([.nilSl,.clos 223 [] [.rptr [.int .i64 g.w,.int .i64 g.h,.rsl (rowI g.cells) 0 g.cells.length,.rsl (rowI g.hts) 0 g.hts.length] 0]]++jj 5 ([.int .i64 0,.int .i64 0]++Js 10)),[]⟩
def f222nG0 (E:Env) (g:Gd):Prop:=G Try.prog E (f222nK0 Try.prog) (f222nS0 g )
abbrev z222n_1 (g:Gd):List AV:=[.nilSl,.clos 223 [] [.rptr [.int .i64 g.w,.int .i64 g.h,.rsl (rowI g.cells) 0 g.cells.length,.rsl (rowI g.hts) 0 g.hts.length] 0]]
theorem yC (g:Gd) {E:Env} {rv:AV} (hE:Qg Try.prog 222 rv E) (ho:AllP [])
 (hg:G Try.prog E (f222nK0 Try.prog) ⟨((z222n_1 g)++jj 5 ([.int .i64 0,.int .i64 0]++Js 10)),[]⟩):G Try.prog E [.code (Qe Try.prog 222)] ⟨(z222n_1 g)++unds (Try.f222.ntmps - 2),[]⟩ :=
 Qj (n:=400) (ds:=[]) (cs:=[]) (live:=[0,1,7,8]) (m:=0) (evs:=[.stop]) (obs:=_) hE.2.1 (hE.nogh _) Qi (by kernel_rfl) ho hg
theorem f222nW (g:Gd) {E:Env} {rv:Int} (hE:Qg Try.prog 222 (.int .i64 rv) E)
 (h:f222nG0 E g ):G Try.prog E [.code (Qe Try.prog 222)] ⟨[.nilSl,.clos 223 [] [.rptr [.int .i64 g.w,.int .i64 g.h,.rsl (rowI g.cells) 0 g.cells.length,.rsl (rowI g.hts) 0 g.hts.length] 0]]++unds (Try.f222.ntmps - 2),[]⟩:=by
 exact yC g hE trivial h
theorem p222n_0_0 (g:Gd) {E:Env} {res:AV} (hE:Qg Try.prog 222 res E) (ho:AllP [false=false])
 (hr:AvLe (.int .i64 (-1)) res):G Try.prog E (f222nK0 Try.prog) (f222nS0 g ) :=
 Qd (n:=400) (evs:=[.b false]) (obs:=_) hE Try.func222 Qi (by kernel_rfl) ho hr
theorem f222nW0 (g:Gd) {E:Env} {rv:Int} (hE:Qg Try.prog 222 (.int .i64 rv) E)
 (h:rv=(-1)):f222nG0 E g:=by
 exact p222n_0_0 g hE ⟨rfl,trivial⟩ (AvLe.of_eq (by rw [h]; try rfl))
theorem noPitch (g:Gd):Pure Try.prog 222 [.nilSl,.clos 223 [] [.rptr [.int .i64 g.w,.int .i64 g.h,.rsl (rowI g.cells) 0 g.cells.length,.rsl (rowI g.hts) 0 g.hts.length] 0]] (.int .i64 (-1)):=Qy Try.func222 f222nb fun E hE=>f222nW g (rv:=-1) hE (f222nW0 g (rv:=-1) hE rfl)
theorem f225b:Try.f225.body=some (Qe Try.prog 225):=by kernel_rfl
def f225K0 (P:Program):List Item:=kAt 400 [.code (Qe P 225)] [.b false,.b false,.stop]
def f225S0:St:=⟨(jj 7 ([.sl 0 0 0 0 2,.int .i64 0]++Js 39)),[⟨true,0,2,true,[],true⟩]⟩
def f225G0 (E:Env):Prop:=G Try.prog E (f225K0 Try.prog) (f225S0 )
theorem p225_start_0 {E:Env} {rv:AV} {bs2:List Blk} (hE:LentE Try.prog 225 [] rv bs2 E) (ho:AllP [false=false,InR .u64 1,InR .u64 0,Qf Try.prog (.clos 130 [] []) [.int .u64 1,.int .u64 0] (.tup [.int .u64 0,.int .u64 0]),false=false,false=false,InR .i64 0,(0:Int)≤0∧(0:Int)≤0∧(0:Int)≤2147483648,Nat.min 1 0=0,0=0])
 (hg:G Try.prog E (f225K0 Try.prog) ⟨(jj 7 ([.sl 0 0 0 0 2,.int .i64 0]++Js 39)),[⟨true,0,2,true,[],true⟩]⟩):G Try.prog E [.code (Qe Try.prog 225)] ⟨[.rsl [.int .i64 (-1),.bool false] 0 1,.int .i64 0]++unds (Try.f225.ntmps - 2),[]⟩ :=
 Qj (n:=400) (ds:=[]) (cs:=[]) (live:=[7,8]) (m:=1) (evs:=[.b false,.v (.tup [.int .u64 0,.int .u64 0]),.b false,.b false,.mnone,.stop]) (obs:=_) hE.kind (hE.nogh0 _) Qi (by kernel_rfl) ho hg
theorem f225W {E:Env} {rv:Unit} {l2:List Sit} (hE:LentE Try.prog 225 [] (.sl 0 0 0 l2.length 2) [⟨true,0,2,true,(Vu l2),true⟩] E)
 (h:(((0:Int)≤(0:Int)∧(0:Int)<4294967296)∧(Nat.min 1 0=0∧f225G0 E ))):G Try.prog E [.code (Qe Try.prog 225)] ⟨[.rsl [.int .i64 (-1),.bool false] 0 1,.int .i64 0]++unds (Try.f225.ntmps - 2),[]⟩:=by
 obtain ⟨h1,h⟩:=h
 obtain ⟨h2,h⟩:=h
 exact p225_start_0 hE ⟨rfl,(⟨by decide,by decide⟩),(⟨by decide,by decide⟩),(u130 (mul_ok (0:Int) h1)),rfl,rfl,(⟨by decide,by decide⟩),(⟨by decide,by decide,by decide⟩),h2,rfl,trivial⟩ h
theorem p225_0_0 {E:Env} {res:AV} {bs2:List Blk} (hE:LentE Try.prog 225 [] res bs2 E) (ho:AllP [0=0,false=false])
 (hr:(.sl 0 0 0 0 2)=res) (hb:[⟨true,0,2,true,[],true⟩]=bs2):G Try.prog E (f225K0 Try.prog) (f225S0 ) :=
 endB_step (n:=400) (live:=[4]) (m:=1) (evs:=[.b false]) (obs:=_) hE (hE.nogh0 _) Try.func225 Qi (by kernel_rfl) ho hr hb
theorem f225W0 {E:Env} {rv:Unit} {l2:List Sit} (hE:LentE Try.prog 225 [] (.sl 0 0 0 l2.length 2) [⟨true,0,2,true,(Vu l2),true⟩] E)
 (h:l2=[]):f225G0 E:=by
 have qe0:=h
 exact p225_0_0 hE ⟨rfl,rfl,trivial⟩ (by rw [qe0]; try rfl) (by rw [qe0]; all_goals (first | rfl | (simp only [List.length_set]; done) | (simp only [List.length_set]; rfl) | (simp only [List.length_set,List.length_replicate]; done)))
theorem noSites:Lent Try.prog 225 [.rsl [.int .i64 (-1),.bool false] 0 1,.int .i64 0] [] (.sl 0 0 0 ([]:List Sit).length 2) [⟨true,0,2,true,Vu [],true⟩]:=lent_of0 Try.func225 f225b fun E hE=>f225W (rv:=()) hE ⟨⟨by omega,by omega⟩,rfl,f225W0 (rv:=()) hE rfl⟩
theorem scal_Sit:∀ x ∈ Vu [],XM x=true:=fun x hx=>absurd hx (by simp [Vu])
theorem f163b:Try.f163.body=some (Qe Try.prog 163):=by kernel_rfl
theorem u163 {a c k:List AV} {r:AV} (h:Pure Try.prog 163 (a++c++k) r):Qf Try.prog (.clos 163 a k) c r:=Qn Try.func163 (by kernel_rfl) f163b h
abbrev z163_1 (g:Gd):List AV:=[.int .i64 g.w,.int .i64 g.h,.rsl (rowI g.cells) 0 g.cells.length,.rsl (rowI g.hts) 0 g.hts.length]
theorem p163_start_0 (g:Gd) {E:Env} {res:AV} (hE:Qg Try.prog 163 res E) (ho:AllP [Qf Try.prog (.clos 221 [] []) [.agg (z163_1 g)] (.bool (QX g)),(!(QX g))=true])
 (hr:AvLe (.tup [.nilPtr,.int .i64 0,.int .i64 40]) res):G Try.prog E [.code (Qe Try.prog 163)] ⟨[.agg (z163_1 g),.nilSl]++unds (Try.f163.ntmps - 2),[]⟩ :=
 Qd (n:=400) (evs:=[.v (.bool (QX g)),.b true]) (obs:=_) hE Try.func163 Qi (by kernel_rfl) ho hr
theorem p163_start_1 (g:Gd) {E:Env} {res:AV} (hE:Qg Try.prog 163 res E) (ho:AllP [Qf Try.prog (.clos 221 [] []) [.agg (z163_1 g)] (.bool (QX g)),(!(QX g))=false,false=false,Qf Try.prog (.clos 222 [] []) [.nilSl,.clos 223 [] [.rptr (z163_1 g) 0]] (.int .i64 (-1)),false=false,PureO Try.prog (.clos 225 [] []) [.rsl [.int .i64 (-1),.bool false] 0 1,.int .i64 0] (([]:List Sit).length) 2 (Vu ([]:List Sit)),0=0,PureO Try.prog (.clos 55 [] []) [.rsl [.int .i64 (-1)] 0 1,.int .i64 (g.cells.length:Int)] ((List.replicate (Int.toNat ((g.cells.length:Int):Int)) ((-1):Int)).length) 1 (rowI (List.replicate (Int.toNat ((g.cells.length:Int):Int)) ((-1):Int))),0=0,0=0,0=0])
 (hr:AvLe (.tup [.rptr [.int .i64 g.w,.int .i64 g.h,.rsl (rowI g.cells) 0 g.cells.length,.rsl (rowI g.hts) 0 g.hts.length,.nilSl,.rsl (Vu ([]:List Sit)) 0 (([]:List Sit).length),.rsl (rowI (List.replicate (Int.toNat ((g.cells.length:Int):Int)) ((-1):Int))) 0 ((List.replicate (Int.toNat ((g.cells.length:Int):Int)) ((-1):Int)).length)] 0,.int .i64 0,.int .i64 0]) res):G Try.prog E [.code (Qe Try.prog 163)] ⟨[.agg (z163_1 g),.nilSl]++unds (Try.f163.ntmps - 2),[]⟩ :=
 Qd (n:=400) (evs:=[.v (.bool (QX g)),.b false,.b false,.v (.int .i64 (-1)),.b false,.lent [] (.sl 0 0 0 (([]:List Sit).length) 2) [⟨true,0,2,true,(Vu ([]:List Sit)),true⟩],.lent [] (.sl 0 0 0 ((List.replicate (Int.toNat ((g.cells.length:Int):Int)) ((-1):Int)).length) 1) [⟨true,0,1,true,(rowI (List.replicate (Int.toNat ((g.cells.length:Int):Int)) ((-1):Int))),true⟩]]) (obs:=_) hE Try.func163 Qi (by kernel_rfl) ho hr
theorem f163W (g:Gd) {E:Env} {rv:AV} (hE:Qg Try.prog 163 rv E)
 (h:((GdSmall g)∧(((QX g)=false→rv=(.tup [.nilPtr,.int .i64 0,.int .i64 40]))∧((QX g)=true→(((1:Int)≤((g.cells.length:Int):Int)∧((g.cells.length:Int):Int)≤2147483648)∧rv=(.tup [.rptr [.int .i64 g.w,.int .i64 g.h,.rsl (rowI g.cells) 0 g.cells.length,.rsl (rowI g.hts) 0 g.hts.length,.nilSl,.rsl (Vu ([]:List Sit)) 0 (([]:List Sit).length),.rsl (rowI (List.replicate (Int.toNat ((g.cells.length:Int):Int)) ((-1):Int))) 0 ((List.replicate (Int.toNat ((g.cells.length:Int):Int)) ((-1):Int)).length)] 0,.int .i64 0,.int .i64 0])))))):G Try.prog E [.code (Qe Try.prog 163)] ⟨[.agg [.int .i64 g.w,.int .i64 g.h,.rsl (rowI g.cells) 0 g.cells.length,.rsl (rowI g.hts) 0 g.hts.length],.nilSl]++unds (Try.f163.ntmps - 2),[]⟩:=by
 obtain ⟨h1,h⟩:=h
 rcases bft (!(QX g)) with hc0 | hc0
 · have h:=h.1 (bnT hc0)
   exact p163_start_0 g hE ⟨(u221 (qi g h1)),hc0,trivial⟩ (AvLe.of_eq (by rw [h]; try rfl))
 · have h:=h.2 (bnF hc0)
   obtain ⟨h2,h⟩:=h
   exact p163_start_1 g hE ⟨(u221 (qi g h1)),hc0,rfl,(Qn Try.func222 (by kernel_rfl) f222nb (noPitch g)),rfl,(Vv Try.func225 (by kernel_rfl) f225b noSites (by decide) scal_Sit),rfl,(Vv Try.func55 (by kernel_rfl) f55b (YO ((-1):Int) ((g.cells.length:Int):Int) h2) (by decide) (scal_Int _)),rfl,rfl,rfl,trivial⟩ (AvLe.of_eq (by rw [h]; try rfl))
theorem empty_gen (g:Gd) (hs:GdSmall g):Pure Try.prog 163 [.agg [.int .i64 g.w,.int .i64 g.h,.rsl (rowI g.cells) 0 g.cells.length,.rsl (rowI g.hts) 0 g.hts.length],.nilSl] (if QX g=true then .tup [fldV g,.int .i64 0,.int .i64 0] else .tup [.nilPtr,.int .i64 0,.int .i64 40]):=Qy Try.func163 f163b fun E hE=>by
 refine f163W g (rv:=_) hE ⟨hs,fun h=>?_,fun h=>⟨?_,?_⟩⟩
 · rw [if_neg (by rw [h]; exact Bool.false_ne_true)]
 · have:=VT h
   exact ⟨by omega,by omega⟩
 · rw [if_pos h]; rfl
theorem empty_ok (g:Gd) (hs:GdSmall g) (h:QX g=true):Pure Try.prog 163 [.agg [.int .i64 g.w,.int .i64 g.h,.rsl (rowI g.cells) 0 g.cells.length,.rsl (rowI g.hts) 0 g.hts.length],.nilSl] (.tup [fldV g,.int .i64 0,.int .i64 0]):=by
 have:=empty_gen g hs
 rw [if_pos h] at this; exact this
theorem empty_bad (g:Gd) (hs:GdSmall g) (h:QX g=false):Pure Try.prog 163 [.agg [.int .i64 g.w,.int .i64 g.h,.rsl (rowI g.cells) 0 g.cells.length,.rsl (rowI g.hts) 0 g.hts.length],.nilSl] (.tup [.nilPtr,.int .i64 0,.int .i64 40]):=by
 have:=empty_gen g hs
 rw [if_neg (by rw [h]; exact Bool.false_ne_true)] at this; exact this
theorem f89b:Try.f89.body=some (Qe Try.prog 89):=by kernel_rfl
theorem u89 {a c k:List AV} {r:AV} (h:Pure Try.prog 89 (a++c++k) r):Qf Try.prog (.clos 89 a k) c r:=Qn Try.func89 (by kernel_rfl) f89b h
def f89K0 (P:Program):List Item:=kAt 400 [.code (Qe P 89)] [.b false,.b false,.stop]
def f89S0 (g:Gd):St:=⟨(jj 6 ([.rptr [.int .i64 g.w,.int .i64 g.h,.rsl (rowI g.cells) 0 g.cells.length,.rsl (rowI g.hts) 0 g.hts.length,.nilSl,.rsl [] 0 0,.rsl (rowI (Qt g)) 0 ((Qt g).length)] 0]++jj 22 ([.nilSl,.int .i64 0,.int .i64 0]++Js 19))),[⟨true,0,1,true,[.int .i64 g.w,.int .i64 g.h,.rsl (rowI g.cells) 0 g.cells.length,.rsl (rowI g.hts) 0 g.hts.length],false⟩]⟩
def f89G0 (E:Env) (g:Gd):Prop:=G Try.prog E (f89K0 Try.prog) (f89S0 g )
abbrev z89_1 (g:Gd):List AV:=[.int .i64 g.w,.int .i64 g.h,.rsl (rowI g.cells) 0 g.cells.length,.rsl (rowI g.hts) 0 g.hts.length,.nilSl,.rsl [] 0 0,.rsl (rowI (Qt g)) 0 ((Qt g).length)]
abbrev z89_2 (g:Gd):List AV:=[.int .i64 g.w,.int .i64 g.h,.rsl (rowI g.cells) 0 g.cells.length,.rsl (rowI g.hts) 0 g.hts.length]
theorem p89_start_0 (g:Gd) {E:Env} {rv:AV} (hE:Qg Try.prog 89 rv E) (ho:AllP [Qf Try.prog (.clos 163 [] []) [.agg (z89_2 g),.nilSl] (.tup [.rptr (z89_1 g) 0,.int .i64 0,.int .i64 0]),false=false,false=false])
 (hg:G Try.prog E (f89K0 Try.prog) ⟨(jj 6 ([.rptr (z89_1 g) 0]++jj 22 ([.nilSl,.int .i64 0,.int .i64 0]++Js 19))),[⟨true,0,1,true,(z89_2 g),false⟩]⟩):G Try.prog E [.code (Qe Try.prog 89)] ⟨[.agg (z89_2 g),.nilSl,.nilSl]++unds (Try.f89.ntmps - 3),[]⟩ :=
 Qj (n:=400) (ds:=[]) (cs:=[]) (live:=[6,29,30,31]) (m:=1) (evs:=[.v (.tup [.rptr (z89_1 g) 0,.int .i64 0,.int .i64 0]),.b false,.b false,.stop]) (obs:=_) hE.2.1 (hE.nogh _) Qi (by kernel_rfl) ho hg
theorem p89_start_1 (g:Gd) {E:Env} {res:AV} (hE:Qg Try.prog 89 res E) (ho:AllP [Qf Try.prog (.clos 163 [] []) [.agg (z89_2 g),.nilSl] (.tup [.nilPtr,.int .i64 0,.int .i64 40]),true=true])
 (hr:AvLe (.tup [.nilPtr,.int .i64 0,.int .i64 40]) res):G Try.prog E [.code (Qe Try.prog 89)] ⟨[.agg (z89_2 g),.nilSl,.nilSl]++unds (Try.f89.ntmps - 3),[]⟩ :=
 Qd (n:=400) (evs:=[.v (.tup [.nilPtr,.int .i64 0,.int .i64 40]),.b true]) (obs:=_) hE Try.func89 Qi (by kernel_rfl) ho hr
theorem f89W (g:Gd) {E:Env} {rv:AV} (hE:Qg Try.prog 89 rv E)
 (h:(((QX g)=true→((GdSmall g)∧f89G0 E g ))∧((QX g)=false→((GdSmall g)∧rv=(.tup [.nilPtr,.int .i64 0,.int .i64 40]))))):G Try.prog E [.code (Qe Try.prog 89)] ⟨[.agg [.int .i64 g.w,.int .i64 g.h,.rsl (rowI g.cells) 0 g.cells.length,.rsl (rowI g.hts) 0 g.hts.length],.nilSl,.nilSl]++unds (Try.f89.ntmps - 3),[]⟩:=by
 rcases bft (QX g) with hc0 | hc0
 · have h:=h.1 hc0
   obtain ⟨h1,h⟩:=h
   exact p89_start_0 g hE ⟨(u163 (empty_ok g h1 hc0)),rfl,rfl,trivial⟩ h
 · have h:=h.2 hc0
   obtain ⟨h1,h⟩:=h
   exact p89_start_1 g hE ⟨(u163 (empty_bad g h1 hc0)),rfl,trivial⟩ (AvLe.of_eq (by rw [h]; try rfl))
theorem p89_0_0 (g:Gd) {E:Env} {res:AV} (hE:Qg Try.prog 89 res E) (ho:AllP [false=false])
 (hr:AvLe (.tup [.rptr (z89_1 g) 0,.int .i64 0,.int .i64 0]) res):G Try.prog E (f89K0 Try.prog) (f89S0 g ) :=
 Qd (n:=400) (evs:=[.b false]) (obs:=_) hE Try.func89 Qi (by kernel_rfl) ho hr
theorem f89W0 (g:Gd) {E:Env} {rv:AV} (hE:Qg Try.prog 89 rv E)
 (h:rv=(.tup [.rptr [.int .i64 g.w,.int .i64 g.h,.rsl (rowI g.cells) 0 g.cells.length,.rsl (rowI g.hts) 0 g.hts.length,.nilSl,.rsl [] 0 0,.rsl (rowI (Qt g)) 0 ((Qt g).length)] 0,.int .i64 0,.int .i64 0])):f89G0 E g:=by
 exact p89_0_0 g hE ⟨rfl,trivial⟩ (AvLe.of_eq (by rw [h]; try rfl))
theorem Wl (g:Gd) (hs:GdSmall g):Pure Try.prog 89 [.agg [.int .i64 g.w,.int .i64 g.h,.rsl (rowI g.cells) 0 g.cells.length,.rsl (rowI g.hts) 0 g.hts.length],.nilSl,.nilSl] (if QX g=true then .tup [fldV g,.int .i64 0,.int .i64 0] else .tup [.nilPtr,.int .i64 0,.int .i64 40]):=Qy Try.func89 f89b fun E hE=>by
 refine f89W g (rv:=_) hE ⟨fun h=>⟨hs,f89W0 g (rv:=_) hE ?_⟩,fun h=>⟨hs,?_⟩⟩
 · rw [if_pos h]; rfl
 · rw [if_neg (by rw [h]; exact Bool.false_ne_true)]
theorem WY (g:Gd) (hs:GdSmall g) (h:QX g=true):Pure Try.prog 89 [.agg [.int .i64 g.w,.int .i64 g.h,.rsl (rowI g.cells) 0 g.cells.length,.rsl (rowI g.hts) 0 g.hts.length],.nilSl,.nilSl] (.tup [fldV g,.int .i64 0,.int .i64 0]):=by
 have:=Wl g hs
 rw [if_pos h] at this; exact this
theorem newField_bad (g:Gd) (hs:GdSmall g) (h:QX g=false):Pure Try.prog 89 [.agg [.int .i64 g.w,.int .i64 g.h,.rsl (rowI g.cells) 0 g.cells.length,.rsl (rowI g.hts) 0 g.hts.length],.nilSl,.nilSl] (.tup [.nilPtr,.int .i64 0,.int .i64 40]):=by
 have:=Wl g hs
 rw [if_neg (by rw [h]; exact Bool.false_ne_true)] at this; exact this
theorem f128b:Try.f128.body=some (Qe Try.prog 128):=by kernel_rfl
theorem u128 {a c k:List AV} {r:AV} (h:Pure Try.prog 128 (a++c++k) r):Qf Try.prog (.clos 128 a k) c r:=Qn Try.func128 (by kernel_rfl) f128b h
theorem p128_start_0 (c:Int) (g:Gd) {E:Env} {res:AV} (hE:Qg Try.prog 128 res E) (ho:AllP [InR .i64 ((g.cells.length:Int) - 1),Qf Try.prog (.clos 129 [] []) [.int .i64 c,.int .i64 0,.int .i64 ((g.cells.length:Int) - 1)] (.bool (Qb c 0 ((g.cells.length:Int) - 1)))])
 (hr:AvLe (.bool (!(Qb c 0 ((g.cells.length:Int) - 1)))) res):G Try.prog E [.code (Qe Try.prog 128)] ⟨[.int .i64 c,.rptr [.int .i64 g.w,.int .i64 g.h,.rsl (rowI g.cells) 0 g.cells.length,.rsl (rowI g.hts) 0 g.hts.length] 0]++unds (Try.f128.ntmps - 2),[]⟩ :=
 Qd (n:=400) (evs:=[.v (.bool (Qb c 0 ((g.cells.length:Int) - 1)))]) (obs:=_) hE Try.func128 Qi (by kernel_rfl) ho hr
theorem f128W (c:Int) (g:Gd) {E:Env} {rv:Bool} (hE:Qg Try.prog 128 (.bool rv) E)
 (h:((I6 ((g.cells.length:Int) - 1))∧rv=(!(Qb c 0 ((g.cells.length:Int) - 1))))):G Try.prog E [.code (Qe Try.prog 128)] ⟨[.int .i64 c,.rptr [.int .i64 g.w,.int .i64 g.h,.rsl (rowI g.cells) 0 g.cells.length,.rsl (rowI g.hts) 0 g.hts.length] 0]++unds (Try.f128.ntmps - 2),[]⟩:=by
 obtain ⟨q0_0,h⟩:=h
 exact p128_start_0 c g hE ⟨q0_0,(u129 (QT c 0 ((g.cells.length:Int) - 1))),trivial⟩ (AvLe.of_eq (by rw [h]; try rfl))
/-- A cell that is not on the ground. -/
def offG (g:Gd) (c:Int):Bool:=outB 0 ((g.cells.length:Int) - 1) c
theorem offG_ok (c:Int) (g:Gd) (h:g.cells.length≤100):Pure Try.prog 128 [.int .i64 c,.rptr [.int .i64 g.w,.int .i64 g.h,.rsl (rowI g.cells) 0 g.cells.length,.rsl (rowI g.hts) 0 g.hts.length] 0] (.bool (offG g c)):=Qy Try.func128 f128b fun E hE=>by
 refine f128W c g (rv:=offG g c) hE ⟨⟨by omega,by omega⟩,rfl⟩
theorem f59wcb:Try.f59.body=some (Qe Try.prog 59):=by kernel_rfl
def VU (P:Program):List Item:=kAt 400 [.code (Qe P 59)] [.stop]
def yR (l:(List Int)) (g:Gd) (i:Nat):St:=⟨([.rsl (rowI l) 0 l.length,.clos 128 [] [.rptr [.int .i64 g.w,.int .i64 g.h,.rsl (rowI g.cells) 0 g.cells.length,.rsl (rowI g.hts) 0 g.hts.length] 0]]++jj 5 ([.int .i64 (l.length:Int),.int .i64 (i:Int)]++Js 10)),[]⟩
def yS (E:Env) (l:(List Int)) (g:Gd) (i:Nat):Prop:=G Try.prog E (VU Try.prog) (yR l g i )
abbrev WB (g:Gd):List AV:=[.rptr [.int .i64 g.w,.int .i64 g.h,.rsl (rowI g.cells) 0 g.cells.length,.rsl (rowI g.hts) 0 g.hts.length] 0]
theorem yy (l:(List Int)) (g:Gd) {E:Env} {rv:AV} (hE:Qg Try.prog 59 rv E) (ho:AllP [])
 (hg:G Try.prog E (VU Try.prog) ⟨([.rsl (rowI l) 0 l.length,.clos 128 [] (WB g)]++jj 5 ([.int .i64 (l.length:Int),.int .i64 0]++Js 10)),[]⟩):G Try.prog E [.code (Qe Try.prog 59)] ⟨[.rsl (rowI l) 0 l.length,.clos 128 [] (WB g)]++unds (Try.f59.ntmps - 2),[]⟩ :=
 Qj (n:=400) (ds:=[]) (cs:=[]) (live:=[0,1,7,8]) (m:=0) (evs:=[.stop]) (obs:=_) hE.2.1 (hE.nogh _) Qi (by kernel_rfl) ho hg
theorem f59wcW (l:(List Int)) (g:Gd) {E:Env} {rv:Int} (hE:Qg Try.prog 59 (.int .i64 rv) E)
 (h:yS E l g 0):G Try.prog E [.code (Qe Try.prog 59)] ⟨[.rsl (rowI l) 0 l.length,.clos 128 [] [.rptr [.int .i64 g.w,.int .i64 g.h,.rsl (rowI g.cells) 0 g.cells.length,.rsl (rowI g.hts) 0 g.hts.length] 0]]++unds (Try.f59.ntmps - 2),[]⟩:=by
 exact yy l g hE trivial h
theorem p59wc_0_0 (l:(List Int)) (g:Gd) (i:Nat) (e:Int) {E:Env} {res:AV} (hE:Qg Try.prog 59 res E) (ho:AllP [(decide ((i:Int)<(l.length:Int)))=true,0≤(i:Int)∧(i:Int)<(l.length:Int),((rowI l).drop (0+(Int.toNat (i:Int))*1)).take 1=[.int .i64 e],Qf Try.prog (.clos 128 [] (WB g)) [.int .i64 e] (.bool (offG g e)),(offG g e)=true])
 (hr:AvLe (.int .i64 (i:Int)) res):G Try.prog E (VU Try.prog) (yR l g i ) :=
 Qd (n:=400) (evs:=[.b true,.ld (.int .i64 e),.v (.bool (offG g e)),.b true]) (obs:=_) hE Try.func59 Qi (by kernel_rfl) ho hr
theorem p59wc_0_1 (l:(List Int)) (g:Gd) (i:Nat) (e:Int) {E:Env} {rv:AV} (hE:Qg Try.prog 59 rv E) (ho:AllP [(decide ((i:Int)<(l.length:Int)))=true,0≤(i:Int)∧(i:Int)<(l.length:Int),((rowI l).drop (0+(Int.toNat (i:Int))*1)).take 1=[.int .i64 e],Qf Try.prog (.clos 128 [] (WB g)) [.int .i64 e] (.bool (offG g e)),(offG g e)=false,InR .i64 ((i:Int)+1)])
 (hg:G Try.prog E (VU Try.prog) ⟨([.rsl (rowI l) 0 l.length,.clos 128 [] (WB g)]++jj 5 ([.int .i64 (l.length:Int),.int .i64 ((i:Int)+1)]++Js 10)),[]⟩):G Try.prog E (VU Try.prog) (yR l g i ) :=
 Qj (n:=400) (ds:=[]) (cs:=[]) (live:=[0,1,7,8]) (m:=0) (evs:=[.b true,.ld (.int .i64 e),.v (.bool (offG g e)),.b false,.stop]) (obs:=_) hE.2.1 (hE.nogh _) Qi (by kernel_rfl) ho hg
theorem p59wc_0_2 (l:(List Int)) (g:Gd) (i:Nat) {E:Env} {res:AV} (hE:Qg Try.prog 59 res E) (ho:AllP [(decide ((i:Int)<(l.length:Int)))=false])
 (hr:AvLe (.int .i64 (-1)) res):G Try.prog E (VU Try.prog) (yR l g i ) :=
 Qd (n:=400) (evs:=[.b false]) (obs:=_) hE Try.func59 Qi (by kernel_rfl) ho hr
theorem f59wcW0 (l:(List Int)) (g:Gd) (i:Nat) {E:Env} {rv:Int} (hE:Qg Try.prog 59 (.int .i64 rv) E)
 (h:(((i:Int)<(l.length:Int)→(∃ e:Int,l[i]?=some e∧((g.cells.length≤100)∧(((offG g e)=true→rv=(i:Int))∧((offG g e)=false→((I6 ((i:Int)+1))∧yS E l g (i+1)))))))∧(¬ ((i:Int)<(l.length:Int))→rv=(-1)))):yS E l g i:=by
 rcases bft (decide ((i:Int)<(l.length:Int))) with hc0 | hc0
 · have h:=h.1 (odt hc0)
   obtain ⟨e,h1,h⟩:=h
   obtain ⟨h2,h⟩:=h
   rcases bft (offG g e) with hc1 | hc1
   · have h:=h.1 hc1
     exact p59wc_0_0 l g i e hE ⟨hc0,(Qr h1),(rp cI 1 0 1 h1),(u128 (offG_ok e g h2)),hc1,trivial⟩ (AvLe.of_eq (by rw [h]; try rfl))
   · have h:=h.2 hc1
     obtain ⟨q6_2,h⟩:=h
     exact p59wc_0_1 l g i e hE ⟨hc0,(Qr h1),(rp cI 1 0 1 h1),(u128 (offG_ok e g h2)),hc1,q6_2,trivial⟩ h
 · have h:=h.2 (odf hc0)
   exact p59wc_0_2 l g i hE ⟨hc0,trivial⟩ (AvLe.of_eq (by rw [h]; try rfl))
theorem idxOff_ok (l:List Int) (g:Gd) (h:(∀ x ∈ l,g.cells.length≤100)∧l.length≤9223372036854775807):Pure Try.prog 59 [.rsl (rowI l) 0 l.length,.clos 128 [] [.rptr [.int .i64 g.w,.int .i64 g.h,.rsl (rowI g.cells) 0 g.cells.length,.rsl (rowI g.hts) 0 g.hts.length] 0]] (.int .i64 (idxG (offG g) l)):=Qy Try.func59 f59wcb fun E hE=>by
 have hl:=h.2
 refine f59wcW l g (rv:=idxG (offG g) l) hE (Yp (offG g) l l.length 0 (by omega) (fun j x hj=>by omega) (fun i=>yS E l g i) (fun i hi' h1 h2=>?_) (fun _ h2=>?_))
 · have hx:l[i]?=some l[i]:=List.getElem?_eq_getElem hi'
   have hm:=List.mem_of_getElem? hx
   exact f59wcW0 l g i (rv:=idxG (offG g) l) hE ⟨fun _=>⟨_,hx,h.1 _ hm,fun hp=>h1 _ hx (by simpa using hp),fun hp=>⟨by omega,h2 _ hx (by simpa using hp)⟩⟩,fun h=>by omega⟩
 · exact f59wcW0 l g _ (rv:=idxG (offG g) l) hE ⟨fun h=>by omega,fun _=>h2⟩
theorem f76wcb:Try.f76.body=some (Qe Try.prog 76):=by kernel_rfl
abbrev z76wc_1 (l:(List Int)) (g:Gd):List AV:=[.rsl (rowI l) 0 l.length,.clos 128 [] [.rptr [.int .i64 g.w,.int .i64 g.h,.rsl (rowI g.cells) 0 g.cells.length,.rsl (rowI g.hts) 0 g.hts.length] 0]]
theorem yw (l:(List Int)) (g:Gd) {E:Env} {res:AV} (hE:Qg Try.prog 76 res E) (ho:AllP [Qf Try.prog (.clos 59 [] []) (z76wc_1 l g) (.int .i64 (idxG (offG g) l))])
 (hr:AvLe (.bool (decide ((idxG (offG g) l)≥0))) res):G Try.prog E [.code (Qe Try.prog 76)] ⟨(z76wc_1 l g)++unds (Try.f76.ntmps - 2),[]⟩ :=
 Qd (n:=400) (evs:=[.v (.int .i64 (idxG (offG g) l))]) (obs:=_) hE Try.func76 Qi (by kernel_rfl) ho hr
theorem f76wcW (l:(List Int)) (g:Gd) {E:Env} {rv:Bool} (hE:Qg Try.prog 76 (.bool rv) E)
 (h:(((∀ x ∈ l,g.cells.length≤100)∧l.length≤9223372036854775807)∧rv=(decide ((idxG (offG g) l)≥0)))):G Try.prog E [.code (Qe Try.prog 76)] ⟨[.rsl (rowI l) 0 l.length,.clos 128 [] [.rptr [.int .i64 g.w,.int .i64 g.h,.rsl (rowI g.cells) 0 g.cells.length,.rsl (rowI g.hts) 0 g.hts.length] 0]]++unds (Try.f76.ntmps - 2),[]⟩:=by
 obtain ⟨h1,h⟩:=h
 exact yw l g hE ⟨(Qn Try.func59 (by kernel_rfl) f59wcb (idxOff_ok l g h1)),trivial⟩ (AvLe.of_eq (by rw [h]; try rfl))
theorem anyOff_ok (l:List Int) (g:Gd) (h:(∀ x ∈ l,g.cells.length≤100)∧l.length≤9223372036854775807):Pure Try.prog 76 [.rsl (rowI l) 0 l.length,.clos 128 [] [.rptr [.int .i64 g.w,.int .i64 g.h,.rsl (rowI g.cells) 0 g.cells.length,.rsl (rowI g.hts) 0 g.hts.length] 0]] (.bool (l.any (offG g))):=Qy Try.func76 f76wcb fun E hE =>
 f76wcW l g (rv:=l.any (offG g)) hE ⟨h,(Vz _ _).symm⟩
theorem f53b:Try.f53.body=some (Qe Try.prog 53):=by kernel_rfl
theorem u53 {a c k:List AV} {r:AV} (h:Pure Try.prog 53 (a++c++k) r):Qf Try.prog (.clos 53 a k) c r:=Qn Try.func53 (by kernel_rfl) f53b h
abbrev z53_1 (g:Gd):List AV:=[.int .i64 g.w,.int .i64 g.h,.rsl (rowI g.cells) 0 g.cells.length,.rsl (rowI g.hts) 0 g.hts.length]
abbrev z53_2 (g:Gd):List AV:=[.int .i64 g.w,.int .i64 g.h,.rsl (rowI g.cells) 0 g.cells.length,.rsl (rowI g.hts) 0 g.hts.length,.nilSl,.rsl [] 0 0,.rsl (rowI (Qt g)) 0 ((Qt g).length)]
abbrev z53_3 (g:Gd):AV:=.tup [.rptr (z53_2 g) 0,.int .i64 0,.int .i64 0]
theorem p53_start_0 (g:Gd) (a b:Int) {E:Env} {res:AV} (hE:Qg Try.prog 53 res E) (ho:AllP [Qf Try.prog (.clos 89 [] []) [.agg (z53_1 g),.nilSl,.nilSl] (z53_3 g),false=false,Qf Try.prog (.clos 76 [] []) [.rsl [.int .i64 a,.int .i64 b] 0 2,.clos 128 [] [.rptr (z53_1 g) 0]] (.bool (([a,b]).any (offG g))),(([a,b]).any (offG g))=true])
 (hr:AvLe (.tup [.nilPtr,.int .i64 1]) res):G Try.prog E [.code (Qe Try.prog 53)] ⟨[.agg (z53_1 g),.nilSl,.nilSl,.rsl [.int .i64 a,.int .i64 b] 0 2]++unds (Try.f53.ntmps - 4),[]⟩ :=
 Qd (n:=400) (evs:=[.v (z53_3 g),.b false,.v (.bool (([a,b]).any (offG g))),.b true]) (obs:=_) hE Try.func53 Qi (by kernel_rfl) ho hr
theorem p53_start_1 (g:Gd) (a b:Int) {E:Env} {res:AV} (hE:Qg Try.prog 53 res E) (ho:AllP [Qf Try.prog (.clos 89 [] []) [.agg (z53_1 g),.nilSl,.nilSl] (z53_3 g),false=false,Qf Try.prog (.clos 76 [] []) [.rsl [.int .i64 a,.int .i64 b] 0 2,.clos 128 [] [.rptr (z53_1 g) 0]] (.bool (([a,b]).any (offG g))),(([a,b]).any (offG g))=false])
 (hr:AvLe (.tup [.rptr (z53_2 g) 0,.int .i64 0]) res):G Try.prog E [.code (Qe Try.prog 53)] ⟨[.agg (z53_1 g),.nilSl,.nilSl,.rsl [.int .i64 a,.int .i64 b] 0 2]++unds (Try.f53.ntmps - 4),[]⟩ :=
 Qd (n:=400) (evs:=[.v (z53_3 g),.b false,.v (.bool (([a,b]).any (offG g))),.b false]) (obs:=_) hE Try.func53 Qi (by kernel_rfl) ho hr
theorem p53_start_2 (g:Gd) (a b:Int) {E:Env} {res:AV} (hE:Qg Try.prog 53 res E) (ho:AllP [Qf Try.prog (.clos 89 [] []) [.agg (z53_1 g),.nilSl,.nilSl] (.tup [.nilPtr,.int .i64 0,.int .i64 40]),true=true])
 (hr:AvLe (.tup [.nilPtr,.int .i64 40]) res):G Try.prog E [.code (Qe Try.prog 53)] ⟨[.agg (z53_1 g),.nilSl,.nilSl,.rsl [.int .i64 a,.int .i64 b] 0 2]++unds (Try.f53.ntmps - 4),[]⟩ :=
 Qd (n:=400) (evs:=[.v (.tup [.nilPtr,.int .i64 0,.int .i64 40]),.b true]) (obs:=_) hE Try.func53 Qi (by kernel_rfl) ho hr
theorem f53W (g:Gd) (a b:Int) {E:Env} {rv:AV} (hE:Qg Try.prog 53 rv E)
 (h:(((QX g)=true→((GdSmall g)∧(((∀ x ∈ ([a,b]),g.cells.length≤100)∧([a,b]).length≤9223372036854775807)∧(((([a,b]).any (offG g))=true→rv=(.tup [.nilPtr,.int .i64 1]))∧((([a,b]).any (offG g))=false→rv=(.tup [.rptr [.int .i64 g.w,.int .i64 g.h,.rsl (rowI g.cells) 0 g.cells.length,.rsl (rowI g.hts) 0 g.hts.length,.nilSl,.rsl [] 0 0,.rsl (rowI (Qt g)) 0 ((Qt g).length)] 0,.int .i64 0]))))))∧((QX g)=false→((GdSmall g)∧rv=(.tup [.nilPtr,.int .i64 40]))))):G Try.prog E [.code (Qe Try.prog 53)] ⟨[.agg [.int .i64 g.w,.int .i64 g.h,.rsl (rowI g.cells) 0 g.cells.length,.rsl (rowI g.hts) 0 g.hts.length],.nilSl,.nilSl,.rsl [.int .i64 a,.int .i64 b] 0 2]++unds (Try.f53.ntmps - 4),[]⟩:=by
 rcases bft (QX g) with hc0 | hc0
 · have h:=h.1 hc0
   obtain ⟨h1,h⟩:=h
   obtain ⟨h2,h⟩:=h
   rcases bft (([a,b]).any (offG g)) with hc1 | hc1
   · have h:=h.1 hc1
     exact p53_start_0 g a b hE ⟨(u89 (WY g h1 hc0)),rfl,(Qn Try.func76 (by kernel_rfl) f76wcb (anyOff_ok ([a,b]) g h2)),hc1,trivial⟩ (AvLe.of_eq (by rw [h]; try rfl))
   · have h:=h.2 hc1
     exact p53_start_1 g a b hE ⟨(u89 (WY g h1 hc0)),rfl,(Qn Try.func76 (by kernel_rfl) f76wcb (anyOff_ok ([a,b]) g h2)),hc1,trivial⟩ (AvLe.of_eq (by rw [h]; try rfl))
 · have h:=h.2 hc0
   obtain ⟨h1,h⟩:=h
   exact p53_start_2 g a b hE ⟨(u89 (newField_bad g h1 hc0)),rfl,trivial⟩ (AvLe.of_eq (by rw [h]; try rfl))
def offs (g:Gd) (a b:Int):Bool:=[a,b].any (offG g)
def wcR (g:Gd) (a b:Int):AV:=if QX g=true then (if offs g a b=true then .tup [.nilPtr,.int .i64 1] else .tup [fldV g,.int .i64 0]) else .tup [.nilPtr,.int .i64 40]
theorem YK (g:Gd) (a b:Int) (hs:GdSmall g):Pure Try.prog 53 [.agg [.int .i64 g.w,.int .i64 g.h,.rsl (rowI g.cells) 0 g.cells.length,.rsl (rowI g.hts) 0 g.hts.length],.nilSl,.nilSl,.rsl [.int .i64 a,.int .i64 b] 0 2] (wcR g a b):=Qy Try.func53 f53b fun E hE=>by
 have h1:=hs.cells
 refine f53W g a b (rv:=wcR g a b) hE ⟨fun h=>⟨hs,⟨fun x _=>h1,by simp⟩,fun h2=>?_,fun h2=>?_⟩,fun h=>⟨hs,?_⟩⟩
 · unfold wcR; rw [if_pos h,if_pos (show offs g a b=true from h2)]
 · unfold wcR; rw [if_pos h,if_neg (by rw [show offs g a b=false from h2]; exact Bool.false_ne_true)]; rfl
 · unfold wcR; rw [if_neg (by rw [h]; exact Bool.false_ne_true)]
theorem Vl (g:Gd) (a b:Int) (hs:GdSmall g) (h:QX g=true) (h2:offs g a b=false):Pure Try.prog 53 [.agg [.int .i64 g.w,.int .i64 g.h,.rsl (rowI g.cells) 0 g.cells.length,.rsl (rowI g.hts) 0 g.hts.length],.nilSl,.nilSl,.rsl [.int .i64 a,.int .i64 b] 0 2] (.tup [fldV g,.int .i64 0]):=by
 have:=YK g a b hs
 unfold wcR at this; rw [if_pos h,if_neg (by rw [h2]; exact Bool.false_ne_true)] at this; exact this
theorem withCell_off (g:Gd) (a b:Int) (hs:GdSmall g) (h:QX g=true) (h2:offs g a b=true):Pure Try.prog 53 [.agg [.int .i64 g.w,.int .i64 g.h,.rsl (rowI g.cells) 0 g.cells.length,.rsl (rowI g.hts) 0 g.hts.length],.nilSl,.nilSl,.rsl [.int .i64 a,.int .i64 b] 0 2] (.tup [.nilPtr,.int .i64 1]):=by
 have:=YK g a b hs
 unfold wcR at this; rw [if_pos h,if_pos h2] at this; exact this
theorem withCell_bad (g:Gd) (a b:Int) (hs:GdSmall g) (h:QX g=false):Pure Try.prog 53 [.agg [.int .i64 g.w,.int .i64 g.h,.rsl (rowI g.cells) 0 g.cells.length,.rsl (rowI g.hts) 0 g.hts.length],.nilSl,.nilSl,.rsl [.int .i64 a,.int .i64 b] 0 2] (.tup [.nilPtr,.int .i64 40]):=by
 have:=YK g a b hs
 unfold wcR at this; rw [if_neg (by rw [h]; exact Bool.false_ne_true)] at this; exact this
end Go.Proofs.Ytemklbioijmjiaa
namespace Go.Proofs.Ytemklbioijmjiaa
open Go Ax
open Go.Proofs
def cellAt (g:Gd) (c:Int):Int:=g.cells.getD c.toNat 0
def htAt (g:Gd) (c:Int):Int:=g.hts.getD c.toNat 0
def Qx (g:Gd) (c:Int):Bool:=decide (¬ cellAt g c=1)
def Qu (g:Gd) (c:Int):Int:=if cellAt g c=2 then 3 else 0
def QM (g:Gd) (a b:Int):Int:=1+iMax (htAt g a - htAt g b) (htAt g b - htAt g a)
def Qq (g:Gd) (c:Int):List Int :=
 (if 0<Int.tdiv c g.w then [c - g.w] else [])++(if 0<Int.tmod c g.w then [c - 1] else [])++(if Int.tmod c g.w<g.w - 1 then [c+1] else [])++(if Int.tdiv c g.w<g.h - 1 then [c+g.w] else [])
structure OnG (g:Gd) (c:Int):Prop where
 ok:QX g=true
 lo:0≤c
 hi:c<(g.cells.length:Int)
structure GndP (g:Gd):Prop where
 w1:1≤g.w
 w8:g.w≤8
 h1:1≤g.h
 h8:g.h≤8
 len:(g.cells.length:Int)=g.w*g.h
 hl:g.hts.length=g.cells.length
 kind:∀ x ∈ g.cells,0≤x∧x≤3
 hts:∀ x ∈ g.hts,0≤x∧x≤100
theorem gnd_p {g:Gd} (h:QX g=true):GndP g:=by
 simp only [QX,Bool.and_eq_true,decide_eq_true_eq,Bool.not_eq_true',List.any_eq_false,outB,Bool.not_eq_true,Bool.not_eq_false'] at h
 obtain ⟨a,b,c,d,e,f⟩:=h
 have a':=QI.1 a
 have b':=QI.1 b
 exact ⟨a'.1,a'.2,b'.1,b'.2,c,d,fun x hx=>QI.1 (by simpa using e x hx),fun x hx=>QI.1 (by simpa using f x hx)⟩
theorem OnG.cell {g:Gd} {c:Int} (h:OnG g c):g.cells[c.toNat]?=some (cellAt g c):=by
 have:=h.lo; have:=h.hi
 rw [cellAt,List.getD_eq_getElem?_getD,List.getElem?_eq_getElem (show c.toNat<g.cells.length by omega)]; rfl
theorem OnG.ht {g:Gd} {c:Int} (h:OnG g c):g.hts[c.toNat]?=some (htAt g c):=by
 have:=h.lo; have:=h.hi; have:=(gnd_p h.ok).hl
 rw [htAt,List.getD_eq_getElem?_getD,List.getElem?_eq_getElem (show c.toNat<g.hts.length by omega)]; rfl
theorem OnG.tk {g:Gd} {c:Int} (h:OnG g c):(Qt g)[c.toNat]?=some (-1):=by
 have:=h.lo; have:=h.hi
 rw [Qt,List.getElem?_replicate,if_pos (by omega)]
theorem OnG.htb {g:Gd} {c:Int} (h:OnG g c):0≤htAt g c∧htAt g c≤100:=(gnd_p h.ok).hts _ (List.mem_of_getElem? h.ht)
theorem OnG.dims {g:Gd} {c:Int} (h:OnG g c):0≤Int.tdiv c g.w∧Int.tdiv c g.w<g.h∧0≤Int.tmod c g.w∧Int.tmod c g.w<g.w∧c=g.w*Int.tdiv c g.w+Int.tmod c g.w:=by
 have p:=gnd_p h.ok
 have h1:=h.lo; have h2:=h.hi; have h3:=p.w1; have h4:=p.len
 rw [Int.tdiv_eq_ediv_of_nonneg h1,Int.tmod_eq_emod_of_nonneg h1]
 refine ⟨Int.ediv_nonneg h1 (by omega),Int.ediv_lt_of_lt_mul (by omega) ?_,Int.emod_nonneg _ (by omega),Int.emod_lt_of_pos _ (by omega),?_⟩
 · rw [Int.mul_comm]; omega
 · have:=Int.mul_ediv_add_emod c g.w; omega
theorem WL {g:Gd} {a b:Int} (ha:OnG g a) (hb:OnG g b):1≤QM g a b∧QM g a b≤101:=by
 have h1:=ha.htb; have h2:=hb.htb
 unfold QM iMax
 split <;> omega
theorem YD (g:Gd) (c:Int):0≤Qu g c∧Qu g c≤3:=by
 unfold Qu; split <;> omega
theorem YU {g:Gd} {c k:Int} (h:OnG g c) (hk:k ∈ Qq g c):OnG g k:=by
 have p:=gnd_p h.ok
 obtain ⟨d1,d2,d3,d4,d5⟩:=h.dims
 have h1:=h.lo; have h2:=h.hi; have h3:=p.w1; have h4:=p.len
 have m1:g.w*Int.tdiv c g.w+g.w≤g.w*g.h:=by
  have:=Int.mul_le_mul_of_nonneg_left (show Int.tdiv c g.w+1≤g.h by omega) (show 0≤g.w by omega)
  rw [Int.mul_add,Int.mul_one] at this; exact this
 have m0:0≤g.w*Int.tdiv c g.w:=Int.mul_nonneg (by omega) d1
 have key:0≤k∧k<(g.cells.length:Int):=by
  simp only [Qq,List.mem_append] at hk
  rcases hk with ((hk | hk) | hk) | hk <;> split at hk <;> simp only [List.mem_singleton,List.not_mem_nil] at hk <;> subst hk
  · rename_i q
    have:=Int.mul_le_mul_of_nonneg_left (show 1≤Int.tdiv c g.w by omega) (show 0≤g.w by omega)
    omega
  · omega
  · omega
  · rename_i q
    have:=Int.mul_le_mul_of_nonneg_left (show Int.tdiv c g.w+1+1≤g.h by omega) (show 0≤g.w by omega)
    rw [Int.mul_add,Int.mul_add,Int.mul_one] at this
    omega
 exact ⟨h.ok,key.1,key.2⟩
theorem yg (g:Gd) (c:Int):(Qq g c).length≤4:=by
 simp only [Qq,List.length_append]
 split <;> split <;> split <;> split <;> simp
theorem f54b:Try.f54.body=some (Qe Try.prog 54):=by kernel_rfl
theorem u54 {a c k:List AV} {r:AV} (h:Pure Try.prog 54 (a++c++k) r):Qf Try.prog (.clos 54 a k) c r:=Qn Try.func54 (by kernel_rfl) f54b h
abbrev z54_1 (g:Gd) (c:Int):List AV:=[.rptr [.int .i64 g.w,.int .i64 g.h,.rsl (rowI g.cells) 0 g.cells.length,.rsl (rowI g.hts) 0 g.hts.length,.nilSl,.rsl [] 0 0,.rsl (rowI (Qt g)) 0 ((Qt g).length)] 0,.int .i64 c]
theorem p54_start_0 (c:Int) (g:Gd) (e:Int) (e1:Int) {E:Env} {res:AV} (hE:Qg Try.prog 54 res E) (ho:AllP [0≤c∧c<(g.cells.length:Int),((rowI g.cells).drop (0+(Int.toNat c)*1)).take 1=[.int .i64 e],(e != 1)=true,0≤c∧c<(((Qt g).length:Nat):Int),((rowI (Qt g)).drop (0+(Int.toNat c)*1)).take 1=[.int .i64 e1]])
 (hr:AvLe (.bool (decide (e1<0))) res):G Try.prog E [.code (Qe Try.prog 54)] ⟨(z54_1 g c)++unds (Try.f54.ntmps - 2),[]⟩ :=
 Qd (n:=400) (evs:=[.auto,.ld (.int .i64 e),.b true,.auto,.ld (.int .i64 e1)]) (obs:=_) hE Try.func54 Qi (by kernel_rfl) ho hr
theorem p54_start_1 (c:Int) (g:Gd) (e:Int) {E:Env} {res:AV} (hE:Qg Try.prog 54 res E) (ho:AllP [0≤c∧c<(g.cells.length:Int),((rowI g.cells).drop (0+(Int.toNat c)*1)).take 1=[.int .i64 e],(e != 1)=false])
 (hr:AvLe (.bool false) res):G Try.prog E [.code (Qe Try.prog 54)] ⟨(z54_1 g c)++unds (Try.f54.ntmps - 2),[]⟩ :=
 Qd (n:=400) (evs:=[.auto,.ld (.int .i64 e),.b false]) (obs:=_) hE Try.func54 Qi (by kernel_rfl) ho hr
theorem f54W (c:Int) (g:Gd) {E:Env} {rv:Bool} (hE:Qg Try.prog 54 (.bool rv) E)
 (h:(0≤c∧(∃ e:Int,g.cells[Int.toNat c]?=some e∧((¬ (e=1)→(0≤c∧(∃ e1:Int,(Qt g)[Int.toNat c]?=some e1∧rv=(decide (e1<0)))))∧(e=1→rv=false))))):G Try.prog E [.code (Qe Try.prog 54)] ⟨[.rptr [.int .i64 g.w,.int .i64 g.h,.rsl (rowI g.cells) 0 g.cells.length,.rsl (rowI g.hts) 0 g.hts.length,.nilSl,.rsl [] 0 0,.rsl (rowI (Qt g)) 0 ((Qt g).length)] 0,.int .i64 c]++unds (Try.f54.ntmps - 2),[]⟩:=by
 obtain ⟨h2,h⟩:=h
 obtain ⟨e,h1,h⟩:=h
 rcases bft (e != 1) with hc0 | hc0
 · have h:=h.1 (bneT hc0)
   obtain ⟨h4,h⟩:=h
   obtain ⟨e1,h3,h⟩:=h
   exact p54_start_0 c g e e1 hE ⟨(Qh h2 h1),(rp cI 1 0 1 h1),hc0,(Qh h4 h3),(rp cI 1 0 1 h3),trivial⟩ (AvLe.of_eq (by rw [h]; try rfl))
 · have h:=h.2 (bneF hc0)
   exact p54_start_1 c g e hE ⟨(Qh h2 h1),(rp cI 1 0 1 h1),hc0,trivial⟩ (AvLe.of_eq (by rw [h]; try rfl))
theorem f56b:Try.f56.body=some (Qe Try.prog 56):=by kernel_rfl
theorem u56 {a c k:List AV} {r:AV} (h:Pure Try.prog 56 (a++c++k) r):Qf Try.prog (.clos 56 a k) c r:=Qn Try.func56 (by kernel_rfl) f56b h
abbrev z56_1 (g:Gd) (c:Int):List AV:=[.rptr [.int .i64 g.w,.int .i64 g.h,.rsl (rowI g.cells) 0 g.cells.length,.rsl (rowI g.hts) 0 g.hts.length,.nilSl,.rsl [] 0 0,.rsl (rowI (Qt g)) 0 ((Qt g).length)] 0,.int .i64 c]
theorem p56_start_0 (c:Int) (g:Gd) (e:Int) {E:Env} {res:AV} (hE:Qg Try.prog 56 res E) (ho:AllP [0≤c∧c<(g.cells.length:Int),((rowI g.cells).drop (0+(Int.toNat c)*1)).take 1=[.int .i64 e],(e == 2)=true])
 (hr:AvLe (.int .i64 3) res):G Try.prog E [.code (Qe Try.prog 56)] ⟨(z56_1 g c)++unds (Try.f56.ntmps - 2),[]⟩ :=
 Qd (n:=400) (evs:=[.auto,.ld (.int .i64 e),.b true]) (obs:=_) hE Try.func56 Qi (by kernel_rfl) ho hr
theorem p56_start_1 (c:Int) (g:Gd) (e:Int) {E:Env} {res:AV} (hE:Qg Try.prog 56 res E) (ho:AllP [0≤c∧c<(g.cells.length:Int),((rowI g.cells).drop (0+(Int.toNat c)*1)).take 1=[.int .i64 e],(e == 2)=false])
 (hr:AvLe (.int .i64 0) res):G Try.prog E [.code (Qe Try.prog 56)] ⟨(z56_1 g c)++unds (Try.f56.ntmps - 2),[]⟩ :=
 Qd (n:=400) (evs:=[.auto,.ld (.int .i64 e),.b false]) (obs:=_) hE Try.func56 Qi (by kernel_rfl) ho hr
theorem f56W (c:Int) (g:Gd) {E:Env} {rv:Int} (hE:Qg Try.prog 56 (.int .i64 rv) E)
 (h:(0≤c∧(∃ e:Int,g.cells[Int.toNat c]?=some e∧((e=2→rv=3)∧(¬ (e=2)→rv=0))))):G Try.prog E [.code (Qe Try.prog 56)] ⟨[.rptr [.int .i64 g.w,.int .i64 g.h,.rsl (rowI g.cells) 0 g.cells.length,.rsl (rowI g.hts) 0 g.hts.length,.nilSl,.rsl [] 0 0,.rsl (rowI (Qt g)) 0 ((Qt g).length)] 0,.int .i64 c]++unds (Try.f56.ntmps - 2),[]⟩:=by
 obtain ⟨h2,h⟩:=h
 obtain ⟨e,h1,h⟩:=h
 rcases bft (e == 2) with hc0 | hc0
 · have h:=h.1 (eq_of_beq hc0)
   exact p56_start_0 c g e hE ⟨(Qh h2 h1),(rp cI 1 0 1 h1),hc0,trivial⟩ (AvLe.of_eq (by rw [h]; try rfl))
 · have h:=h.2 (ne_of_beq_false hc0)
   exact p56_start_1 c g e hE ⟨(Qh h2 h1),(rp cI 1 0 1 h1),hc0,trivial⟩ (AvLe.of_eq (by rw [h]; try rfl))
theorem f58b:Try.f58.body=some (Qe Try.prog 58):=by kernel_rfl
theorem u58 {a c k:List AV} {r:AV} (h:Pure Try.prog 58 (a++c++k) r):Qf Try.prog (.clos 58 a k) c r:=Qn Try.func58 (by kernel_rfl) f58b h
theorem p58_start_0 (a:Int) (b:Int) (g:Gd) (e:Int) (e1:Int) {E:Env} {res:AV} (hE:Qg Try.prog 58 res E) (ho:AllP [0≤a∧a<(g.hts.length:Int),((rowI g.hts).drop (0+(Int.toNat a)*1)).take 1=[.int .i64 e],0≤b∧b<(g.hts.length:Int),((rowI g.hts).drop (0+(Int.toNat b)*1)).take 1=[.int .i64 e1],InR .i64 (e - e1),0≤b∧b<(g.hts.length:Int),((rowI g.hts).drop (0+(Int.toNat b)*1)).take 1=[.int .i64 e1],0≤a∧a<(g.hts.length:Int),((rowI g.hts).drop (0+(Int.toNat a)*1)).take 1=[.int .i64 e],InR .i64 (e1 - e),InR .i64 (1+(iMax (e - e1) (e1 - e)))])
 (hr:AvLe (.int .i64 (1+(iMax (e - e1) (e1 - e)))) res):G Try.prog E [.code (Qe Try.prog 58)] ⟨[.rptr [.int .i64 g.w,.int .i64 g.h,.rsl (rowI g.cells) 0 g.cells.length,.rsl (rowI g.hts) 0 g.hts.length,.nilSl,.rsl [] 0 0,.rsl (rowI (Qt g)) 0 ((Qt g).length)] 0,.int .i64 a,.int .i64 b]++unds (Try.f58.ntmps - 3),[]⟩ :=
 Qd (n:=400) (evs:=[.auto,.ld (.int .i64 e),.auto,.ld (.int .i64 e1),.auto,.ld (.int .i64 e1),.auto,.ld (.int .i64 e)]) (obs:=_) hE Try.func58 Qi (by kernel_rfl) ho hr
theorem f58W (a:Int) (b:Int) (g:Gd) {E:Env} {rv:Int} (hE:Qg Try.prog 58 (.int .i64 rv) E)
 (h:(0≤a∧(∃ e:Int,g.hts[Int.toNat a]?=some e∧(0≤b∧(∃ e1:Int,g.hts[Int.toNat b]?=some e1∧((I6 (e - e1))∧((I6 (e1 - e))∧((I6 (1+(iMax (e - e1) (e1 - e))))∧rv=(1+(iMax (e - e1) (e1 - e))))))))))):G Try.prog E [.code (Qe Try.prog 58)] ⟨[.rptr [.int .i64 g.w,.int .i64 g.h,.rsl (rowI g.cells) 0 g.cells.length,.rsl (rowI g.hts) 0 g.hts.length,.nilSl,.rsl [] 0 0,.rsl (rowI (Qt g)) 0 ((Qt g).length)] 0,.int .i64 a,.int .i64 b]++unds (Try.f58.ntmps - 3),[]⟩:=by
 obtain ⟨h2,h⟩:=h
 obtain ⟨e,h1,h⟩:=h
 obtain ⟨h4,h⟩:=h
 obtain ⟨e1,h3,h⟩:=h
 obtain ⟨q6_0,h⟩:=h
 obtain ⟨q11_0,h⟩:=h
 obtain ⟨q12_0,h⟩:=h
 exact p58_start_0 a b g e e1 hE ⟨(Qh h2 h1),(rp cI 1 0 1 h1),(Qh h4 h3),(rp cI 1 0 1 h3),q6_0,(Qh h4 h3),(rp cI 1 0 1 h3),(Qh h2 h1),(rp cI 1 0 1 h1),q11_0,q12_0,trivial⟩ (AvLe.of_eq (by rw [h]; try rfl))
theorem Xx (g:Gd) (c:Int) (h:OnG g c):Pure Try.prog 54 [fldV g,.int .i64 c] (.bool (Qx g c)):=Qy Try.func54 f54b fun E hE=>by
 refine f54W c g (rv:=Qx g c) hE ⟨h.lo,_,h.cell,fun h1=>⟨h.lo,_,h.tk,?_⟩,fun h1=>?_⟩
 · unfold Qx; rw [decide_eq_true h1]; rfl
 · unfold Qx; rw [decide_eq_false (fun h2=>h2 h1)]
theorem VG (g:Gd) (c:Int) (h:OnG g c):Pure Try.prog 56 [fldV g,.int .i64 c] (.int .i64 (Qu g c)):=Qy Try.func56 f56b fun E hE=>by
 refine f56W c g (rv:=Qu g c) hE ⟨h.lo,_,h.cell,fun h1=>?_,fun h1=>?_⟩
 · unfold Qu; rw [if_pos h1]
 · unfold Qu; rw [if_neg h1]
theorem ym (g:Gd) (a b:Int) (h:OnG g a∧OnG g b):Pure Try.prog 58 [fldV g,.int .i64 a,.int .i64 b] (.int .i64 (QM g a b)):=Qy Try.func58 f58b fun E hE=>by
 have h1:=h.1.htb; have h2:=h.2.htb
 have h3:1≤QM g a b∧QM g a b≤101:=WL h.1 h.2
 unfold QM at h3
 exact f58W a b g (rv:=QM g a b) hE ⟨h.1.lo,_,h.1.ht,h.2.lo,_,h.2.ht,⟨by omega,by omega⟩,⟨by omega,by omega⟩,⟨by omega,by omega⟩,rfl⟩
theorem f57b:Try.f57.body=some (Qe Try.prog 57):=by kernel_rfl
theorem u57 {a c k:List AV} {r:AV} (h:Pure Try.prog 57 (a++c++k) r):Qf Try.prog (.clos 57 a k) c r:=Qn Try.func57 (by kernel_rfl) f57b h
abbrev Vf (g:Gd) (c:Int):List AV:=[.rptr [.int .i64 g.w,.int .i64 g.h,.rsl (rowI g.cells) 0 g.cells.length,.rsl (rowI g.hts) 0 g.hts.length,.nilSl,.rsl [] 0 0,.rsl (rowI (Qt g)) 0 ((Qt g).length)] 0,.int .i64 c]
theorem p57_start_0 (c:Int) (g:Gd) {E:Env} {res:AV} (hE:Qg Try.prog 57 res E) (ho:AllP [g.w ≠ 0,InR .i64 (Int.tdiv c g.w),g.w ≠ 0,(decide ((Int.tdiv c g.w) > 0))=true,InR .i64 (c - g.w),1≤2147483648,0=0,(decide ((Int.tmod c g.w) > 0))=true,InR .i64 (c - 1),0=0,1=1,2≤2147483648,0=0,InR .i64 (g.w - 1),(decide ((Int.tmod c g.w)<(g.w - 1)))=true,InR .i64 (c+1),1=1,2=2,3≤2147483648,0=0,InR .i64 (g.h - 1),(decide ((Int.tdiv c g.w)<(g.h - 1)))=true,InR .i64 (c+g.w),2=2,3=3,4≤2147483648,0=0,3=3])
 (hr:AvLe (.rsl [.int .i64 (c - g.w),.int .i64 (c - 1),.int .i64 (c+1),.int .i64 (c+g.w)] 0 4) res):G Try.prog E [.code (Qe Try.prog 57)] ⟨(Vf g c)++unds (Try.f57.ntmps - 2),[]⟩ :=
 Qd (n:=400) (evs:=[.b true,.b true,.b true,.b true]) (obs:=_) hE Try.func57 Qi (by kernel_rfl) ho hr
theorem p57_start_1 (c:Int) (g:Gd) {E:Env} {res:AV} (hE:Qg Try.prog 57 res E) (ho:AllP [g.w ≠ 0,InR .i64 (Int.tdiv c g.w),g.w ≠ 0,(decide ((Int.tdiv c g.w) > 0))=true,InR .i64 (c - g.w),1≤2147483648,0=0,(decide ((Int.tmod c g.w) > 0))=true,InR .i64 (c - 1),0=0,1=1,2≤2147483648,0=0,InR .i64 (g.w - 1),(decide ((Int.tmod c g.w)<(g.w - 1)))=true,InR .i64 (c+1),1=1,2=2,3≤2147483648,0=0,InR .i64 (g.h - 1),(decide ((Int.tdiv c g.w)<(g.h - 1)))=false,2=2])
 (hr:AvLe (.rsl [.int .i64 (c - g.w),.int .i64 (c - 1),.int .i64 (c+1)] 0 3) res):G Try.prog E [.code (Qe Try.prog 57)] ⟨(Vf g c)++unds (Try.f57.ntmps - 2),[]⟩ :=
 Qd (n:=400) (evs:=[.b true,.b true,.b true,.b false]) (obs:=_) hE Try.func57 Qi (by kernel_rfl) ho hr
theorem p57_start_2 (c:Int) (g:Gd) {E:Env} {res:AV} (hE:Qg Try.prog 57 res E) (ho:AllP [g.w ≠ 0,InR .i64 (Int.tdiv c g.w),g.w ≠ 0,(decide ((Int.tdiv c g.w) > 0))=true,InR .i64 (c - g.w),1≤2147483648,0=0,(decide ((Int.tmod c g.w) > 0))=true,InR .i64 (c - 1),0=0,1=1,2≤2147483648,0=0,InR .i64 (g.w - 1),(decide ((Int.tmod c g.w)<(g.w - 1)))=false,InR .i64 (g.h - 1),(decide ((Int.tdiv c g.w)<(g.h - 1)))=true,InR .i64 (c+g.w),1=1,2=2,3≤2147483648,0=0,2=2])
 (hr:AvLe (.rsl [.int .i64 (c - g.w),.int .i64 (c - 1),.int .i64 (c+g.w)] 0 3) res):G Try.prog E [.code (Qe Try.prog 57)] ⟨(Vf g c)++unds (Try.f57.ntmps - 2),[]⟩ :=
 Qd (n:=400) (evs:=[.b true,.b true,.b false,.b true]) (obs:=_) hE Try.func57 Qi (by kernel_rfl) ho hr
theorem p57_start_3 (c:Int) (g:Gd) {E:Env} {res:AV} (hE:Qg Try.prog 57 res E) (ho:AllP [g.w ≠ 0,InR .i64 (Int.tdiv c g.w),g.w ≠ 0,(decide ((Int.tdiv c g.w) > 0))=true,InR .i64 (c - g.w),1≤2147483648,0=0,(decide ((Int.tmod c g.w) > 0))=true,InR .i64 (c - 1),0=0,1=1,2≤2147483648,0=0,InR .i64 (g.w - 1),(decide ((Int.tmod c g.w)<(g.w - 1)))=false,InR .i64 (g.h - 1),(decide ((Int.tdiv c g.w)<(g.h - 1)))=false,1=1])
 (hr:AvLe (.rsl [.int .i64 (c - g.w),.int .i64 (c - 1)] 0 2) res):G Try.prog E [.code (Qe Try.prog 57)] ⟨(Vf g c)++unds (Try.f57.ntmps - 2),[]⟩ :=
 Qd (n:=400) (evs:=[.b true,.b true,.b false,.b false]) (obs:=_) hE Try.func57 Qi (by kernel_rfl) ho hr
theorem p57_start_4 (c:Int) (g:Gd) {E:Env} {res:AV} (hE:Qg Try.prog 57 res E) (ho:AllP [g.w ≠ 0,InR .i64 (Int.tdiv c g.w),g.w ≠ 0,(decide ((Int.tdiv c g.w) > 0))=true,InR .i64 (c - g.w),1≤2147483648,0=0,(decide ((Int.tmod c g.w) > 0))=false,InR .i64 (g.w - 1),(decide ((Int.tmod c g.w)<(g.w - 1)))=true,InR .i64 (c+1),0=0,1=1,2≤2147483648,0=0,InR .i64 (g.h - 1),(decide ((Int.tdiv c g.w)<(g.h - 1)))=true,InR .i64 (c+g.w),1=1,2=2,3≤2147483648,0=0,2=2])
 (hr:AvLe (.rsl [.int .i64 (c - g.w),.int .i64 (c+1),.int .i64 (c+g.w)] 0 3) res):G Try.prog E [.code (Qe Try.prog 57)] ⟨(Vf g c)++unds (Try.f57.ntmps - 2),[]⟩ :=
 Qd (n:=400) (evs:=[.b true,.b false,.b true,.b true]) (obs:=_) hE Try.func57 Qi (by kernel_rfl) ho hr
theorem p57_start_5 (c:Int) (g:Gd) {E:Env} {res:AV} (hE:Qg Try.prog 57 res E) (ho:AllP [g.w ≠ 0,InR .i64 (Int.tdiv c g.w),g.w ≠ 0,(decide ((Int.tdiv c g.w) > 0))=true,InR .i64 (c - g.w),1≤2147483648,0=0,(decide ((Int.tmod c g.w) > 0))=false,InR .i64 (g.w - 1),(decide ((Int.tmod c g.w)<(g.w - 1)))=true,InR .i64 (c+1),0=0,1=1,2≤2147483648,0=0,InR .i64 (g.h - 1),(decide ((Int.tdiv c g.w)<(g.h - 1)))=false,1=1])
 (hr:AvLe (.rsl [.int .i64 (c - g.w),.int .i64 (c+1)] 0 2) res):G Try.prog E [.code (Qe Try.prog 57)] ⟨(Vf g c)++unds (Try.f57.ntmps - 2),[]⟩ :=
 Qd (n:=400) (evs:=[.b true,.b false,.b true,.b false]) (obs:=_) hE Try.func57 Qi (by kernel_rfl) ho hr
theorem p57_start_6 (c:Int) (g:Gd) {E:Env} {res:AV} (hE:Qg Try.prog 57 res E) (ho:AllP [g.w ≠ 0,InR .i64 (Int.tdiv c g.w),g.w ≠ 0,(decide ((Int.tdiv c g.w) > 0))=true,InR .i64 (c - g.w),1≤2147483648,0=0,(decide ((Int.tmod c g.w) > 0))=false,InR .i64 (g.w - 1),(decide ((Int.tmod c g.w)<(g.w - 1)))=false,InR .i64 (g.h - 1),(decide ((Int.tdiv c g.w)<(g.h - 1)))=true,InR .i64 (c+g.w),0=0,1=1,2≤2147483648,0=0,1=1])
 (hr:AvLe (.rsl [.int .i64 (c - g.w),.int .i64 (c+g.w)] 0 2) res):G Try.prog E [.code (Qe Try.prog 57)] ⟨(Vf g c)++unds (Try.f57.ntmps - 2),[]⟩ :=
 Qd (n:=400) (evs:=[.b true,.b false,.b false,.b true]) (obs:=_) hE Try.func57 Qi (by kernel_rfl) ho hr
theorem p57_start_7 (c:Int) (g:Gd) {E:Env} {res:AV} (hE:Qg Try.prog 57 res E) (ho:AllP [g.w ≠ 0,InR .i64 (Int.tdiv c g.w),g.w ≠ 0,(decide ((Int.tdiv c g.w) > 0))=true,InR .i64 (c - g.w),1≤2147483648,0=0,(decide ((Int.tmod c g.w) > 0))=false,InR .i64 (g.w - 1),(decide ((Int.tmod c g.w)<(g.w - 1)))=false,InR .i64 (g.h - 1),(decide ((Int.tdiv c g.w)<(g.h - 1)))=false,0=0])
 (hr:AvLe (.rsl [.int .i64 (c - g.w)] 0 1) res):G Try.prog E [.code (Qe Try.prog 57)] ⟨(Vf g c)++unds (Try.f57.ntmps - 2),[]⟩ :=
 Qd (n:=400) (evs:=[.b true,.b false,.b false,.b false]) (obs:=_) hE Try.func57 Qi (by kernel_rfl) ho hr
theorem p57_start_8 (c:Int) (g:Gd) {E:Env} {res:AV} (hE:Qg Try.prog 57 res E) (ho:AllP [g.w ≠ 0,InR .i64 (Int.tdiv c g.w),g.w ≠ 0,(decide ((Int.tdiv c g.w) > 0))=false,(decide ((Int.tmod c g.w) > 0))=true,InR .i64 (c - 1),1≤2147483648,0=0,InR .i64 (g.w - 1),(decide ((Int.tmod c g.w)<(g.w - 1)))=true,InR .i64 (c+1),0=0,1=1,2≤2147483648,0=0,InR .i64 (g.h - 1),(decide ((Int.tdiv c g.w)<(g.h - 1)))=true,InR .i64 (c+g.w),1=1,2=2,3≤2147483648,0=0,2=2])
 (hr:AvLe (.rsl [.int .i64 (c - 1),.int .i64 (c+1),.int .i64 (c+g.w)] 0 3) res):G Try.prog E [.code (Qe Try.prog 57)] ⟨(Vf g c)++unds (Try.f57.ntmps - 2),[]⟩ :=
 Qd (n:=400) (evs:=[.b false,.b true,.b true,.b true]) (obs:=_) hE Try.func57 Qi (by kernel_rfl) ho hr
theorem p57_start_9 (c:Int) (g:Gd) {E:Env} {res:AV} (hE:Qg Try.prog 57 res E) (ho:AllP [g.w ≠ 0,InR .i64 (Int.tdiv c g.w),g.w ≠ 0,(decide ((Int.tdiv c g.w) > 0))=false,(decide ((Int.tmod c g.w) > 0))=true,InR .i64 (c - 1),1≤2147483648,0=0,InR .i64 (g.w - 1),(decide ((Int.tmod c g.w)<(g.w - 1)))=true,InR .i64 (c+1),0=0,1=1,2≤2147483648,0=0,InR .i64 (g.h - 1),(decide ((Int.tdiv c g.w)<(g.h - 1)))=false,1=1])
 (hr:AvLe (.rsl [.int .i64 (c - 1),.int .i64 (c+1)] 0 2) res):G Try.prog E [.code (Qe Try.prog 57)] ⟨(Vf g c)++unds (Try.f57.ntmps - 2),[]⟩ :=
 Qd (n:=400) (evs:=[.b false,.b true,.b true,.b false]) (obs:=_) hE Try.func57 Qi (by kernel_rfl) ho hr
theorem p57_start_10 (c:Int) (g:Gd) {E:Env} {res:AV} (hE:Qg Try.prog 57 res E) (ho:AllP [g.w ≠ 0,InR .i64 (Int.tdiv c g.w),g.w ≠ 0,(decide ((Int.tdiv c g.w) > 0))=false,(decide ((Int.tmod c g.w) > 0))=true,InR .i64 (c - 1),1≤2147483648,0=0,InR .i64 (g.w - 1),(decide ((Int.tmod c g.w)<(g.w - 1)))=false,InR .i64 (g.h - 1),(decide ((Int.tdiv c g.w)<(g.h - 1)))=true,InR .i64 (c+g.w),0=0,1=1,2≤2147483648,0=0,1=1])
 (hr:AvLe (.rsl [.int .i64 (c - 1),.int .i64 (c+g.w)] 0 2) res):G Try.prog E [.code (Qe Try.prog 57)] ⟨(Vf g c)++unds (Try.f57.ntmps - 2),[]⟩ :=
 Qd (n:=400) (evs:=[.b false,.b true,.b false,.b true]) (obs:=_) hE Try.func57 Qi (by kernel_rfl) ho hr
theorem p57_start_11 (c:Int) (g:Gd) {E:Env} {res:AV} (hE:Qg Try.prog 57 res E) (ho:AllP [g.w ≠ 0,InR .i64 (Int.tdiv c g.w),g.w ≠ 0,(decide ((Int.tdiv c g.w) > 0))=false,(decide ((Int.tmod c g.w) > 0))=true,InR .i64 (c - 1),1≤2147483648,0=0,InR .i64 (g.w - 1),(decide ((Int.tmod c g.w)<(g.w - 1)))=false,InR .i64 (g.h - 1),(decide ((Int.tdiv c g.w)<(g.h - 1)))=false,0=0])
 (hr:AvLe (.rsl [.int .i64 (c - 1)] 0 1) res):G Try.prog E [.code (Qe Try.prog 57)] ⟨(Vf g c)++unds (Try.f57.ntmps - 2),[]⟩ :=
 Qd (n:=400) (evs:=[.b false,.b true,.b false,.b false]) (obs:=_) hE Try.func57 Qi (by kernel_rfl) ho hr
theorem p57_start_12 (c:Int) (g:Gd) {E:Env} {res:AV} (hE:Qg Try.prog 57 res E) (ho:AllP [g.w ≠ 0,InR .i64 (Int.tdiv c g.w),g.w ≠ 0,(decide ((Int.tdiv c g.w) > 0))=false,(decide ((Int.tmod c g.w) > 0))=false,InR .i64 (g.w - 1),(decide ((Int.tmod c g.w)<(g.w - 1)))=true,InR .i64 (c+1),1≤2147483648,0=0,InR .i64 (g.h - 1),(decide ((Int.tdiv c g.w)<(g.h - 1)))=true,InR .i64 (c+g.w),0=0,1=1,2≤2147483648,0=0,1=1])
 (hr:AvLe (.rsl [.int .i64 (c+1),.int .i64 (c+g.w)] 0 2) res):G Try.prog E [.code (Qe Try.prog 57)] ⟨(Vf g c)++unds (Try.f57.ntmps - 2),[]⟩ :=
 Qd (n:=400) (evs:=[.b false,.b false,.b true,.b true]) (obs:=_) hE Try.func57 Qi (by kernel_rfl) ho hr
theorem p57_start_13 (c:Int) (g:Gd) {E:Env} {res:AV} (hE:Qg Try.prog 57 res E) (ho:AllP [g.w ≠ 0,InR .i64 (Int.tdiv c g.w),g.w ≠ 0,(decide ((Int.tdiv c g.w) > 0))=false,(decide ((Int.tmod c g.w) > 0))=false,InR .i64 (g.w - 1),(decide ((Int.tmod c g.w)<(g.w - 1)))=true,InR .i64 (c+1),1≤2147483648,0=0,InR .i64 (g.h - 1),(decide ((Int.tdiv c g.w)<(g.h - 1)))=false,0=0])
 (hr:AvLe (.rsl [.int .i64 (c+1)] 0 1) res):G Try.prog E [.code (Qe Try.prog 57)] ⟨(Vf g c)++unds (Try.f57.ntmps - 2),[]⟩ :=
 Qd (n:=400) (evs:=[.b false,.b false,.b true,.b false]) (obs:=_) hE Try.func57 Qi (by kernel_rfl) ho hr
theorem p57_start_14 (c:Int) (g:Gd) {E:Env} {res:AV} (hE:Qg Try.prog 57 res E) (ho:AllP [g.w ≠ 0,InR .i64 (Int.tdiv c g.w),g.w ≠ 0,(decide ((Int.tdiv c g.w) > 0))=false,(decide ((Int.tmod c g.w) > 0))=false,InR .i64 (g.w - 1),(decide ((Int.tmod c g.w)<(g.w - 1)))=false,InR .i64 (g.h - 1),(decide ((Int.tdiv c g.w)<(g.h - 1)))=true,InR .i64 (c+g.w),1≤2147483648,0=0,0=0])
 (hr:AvLe (.rsl [.int .i64 (c+g.w)] 0 1) res):G Try.prog E [.code (Qe Try.prog 57)] ⟨(Vf g c)++unds (Try.f57.ntmps - 2),[]⟩ :=
 Qd (n:=400) (evs:=[.b false,.b false,.b false,.b true]) (obs:=_) hE Try.func57 Qi (by kernel_rfl) ho hr
theorem p57_start_15 (c:Int) (g:Gd) {E:Env} {res:AV} (hE:Qg Try.prog 57 res E) (ho:AllP [g.w ≠ 0,InR .i64 (Int.tdiv c g.w),g.w ≠ 0,(decide ((Int.tdiv c g.w) > 0))=false,(decide ((Int.tmod c g.w) > 0))=false,InR .i64 (g.w - 1),(decide ((Int.tmod c g.w)<(g.w - 1)))=false,InR .i64 (g.h - 1),(decide ((Int.tdiv c g.w)<(g.h - 1)))=false])
 (hr:AvLe (.nilSl) res):G Try.prog E [.code (Qe Try.prog 57)] ⟨(Vf g c)++unds (Try.f57.ntmps - 2),[]⟩ :=
 Qd (n:=400) (evs:=[.b false,.b false,.b false,.b false]) (obs:=_) hE Try.func57 Qi (by kernel_rfl) ho hr
theorem f57W (c:Int) (g:Gd) {E:Env} {rv:(List Int)} (hE:Qg Try.prog 57 (.rsl (rowI rv) 0 rv.length) E)
 (h:(g.w ≠ 0∧((I6 (Int.tdiv c g.w))∧(g.w ≠ 0∧(((Int.tdiv c g.w) > 0→((I6 (c - g.w))∧(((Int.tmod c g.w) > 0→((I6 (c - 1))∧((I6 (g.w - 1))∧(((Int.tmod c g.w)<(g.w - 1)→((I6 (c+1))∧((I6 (g.h - 1))∧(((Int.tdiv c g.w)<(g.h - 1)→((I6 (c+g.w))∧rv=[(c - g.w),(c - 1),(c+1),(c+g.w)]))∧(¬ ((Int.tdiv c g.w)<(g.h - 1))→rv=[(c - g.w),(c - 1),(c+1)])))))∧(¬ ((Int.tmod c g.w)<(g.w - 1))→((I6 (g.h - 1))∧(((Int.tdiv c g.w)<(g.h - 1)→((I6 (c+g.w))∧rv=[(c - g.w),(c - 1),(c+g.w)]))∧(¬ ((Int.tdiv c g.w)<(g.h - 1))→rv=[(c - g.w),(c - 1)]))))))))∧(¬ ((Int.tmod c g.w) > 0)→((I6 (g.w - 1))∧(((Int.tmod c g.w)<(g.w - 1)→((I6 (c+1))∧((I6 (g.h - 1))∧(((Int.tdiv c g.w)<(g.h - 1)→((I6 (c+g.w))∧rv=[(c - g.w),(c+1),(c+g.w)]))∧(¬ ((Int.tdiv c g.w)<(g.h - 1))→rv=[(c - g.w),(c+1)])))))∧(¬ ((Int.tmod c g.w)<(g.w - 1))→((I6 (g.h - 1))∧(((Int.tdiv c g.w)<(g.h - 1)→((I6 (c+g.w))∧rv=[(c - g.w),(c+g.w)]))∧(¬ ((Int.tdiv c g.w)<(g.h - 1))→rv=[(c - g.w)]))))))))))∧(¬ ((Int.tdiv c g.w) > 0)→(((Int.tmod c g.w) > 0→((I6 (c - 1))∧((I6 (g.w - 1))∧(((Int.tmod c g.w)<(g.w - 1)→((I6 (c+1))∧((I6 (g.h - 1))∧(((Int.tdiv c g.w)<(g.h - 1)→((I6 (c+g.w))∧rv=[(c - 1),(c+1),(c+g.w)]))∧(¬ ((Int.tdiv c g.w)<(g.h - 1))→rv=[(c - 1),(c+1)])))))∧(¬ ((Int.tmod c g.w)<(g.w - 1))→((I6 (g.h - 1))∧(((Int.tdiv c g.w)<(g.h - 1)→((I6 (c+g.w))∧rv=[(c - 1),(c+g.w)]))∧(¬ ((Int.tdiv c g.w)<(g.h - 1))→rv=[(c - 1)]))))))))∧(¬ ((Int.tmod c g.w) > 0)→((I6 (g.w - 1))∧(((Int.tmod c g.w)<(g.w - 1)→((I6 (c+1))∧((I6 (g.h - 1))∧(((Int.tdiv c g.w)<(g.h - 1)→((I6 (c+g.w))∧rv=[(c+1),(c+g.w)]))∧(¬ ((Int.tdiv c g.w)<(g.h - 1))→rv=[(c+1)])))))∧(¬ ((Int.tmod c g.w)<(g.w - 1))→((I6 (g.h - 1))∧(((Int.tdiv c g.w)<(g.h - 1)→((I6 (c+g.w))∧rv=[(c+g.w)]))∧(¬ ((Int.tdiv c g.w)<(g.h - 1))→rv=([]:List Int))))))))))))))):G Try.prog E [.code (Qe Try.prog 57)] ⟨[.rptr [.int .i64 g.w,.int .i64 g.h,.rsl (rowI g.cells) 0 g.cells.length,.rsl (rowI g.hts) 0 g.hts.length,.nilSl,.rsl [] 0 0,.rsl (rowI (Qt g)) 0 ((Qt g).length)] 0,.int .i64 c]++unds (Try.f57.ntmps - 2),[]⟩:=by
 obtain ⟨q0_0,h⟩:=h
 obtain ⟨q1_0,h⟩:=h
 obtain ⟨q2_0,h⟩:=h
 rcases bft (decide ((Int.tdiv c g.w) > 0)) with hc0 | hc0
 · have h:=h.1 (odt hc0)
   obtain ⟨q4_1,h⟩:=h
   rcases bft (decide ((Int.tmod c g.w) > 0)) with hc1 | hc1
   · have h:=h.1 (odt hc1)
     obtain ⟨q8_2,h⟩:=h
     obtain ⟨q13_2,h⟩:=h
     rcases bft (decide ((Int.tmod c g.w)<(g.w - 1))) with hc2 | hc2
     · have h:=h.1 (odt hc2)
       obtain ⟨q15_3,h⟩:=h
       obtain ⟨q20_3,h⟩:=h
       rcases bft (decide ((Int.tdiv c g.w)<(g.h - 1))) with hc3 | hc3
       · have h:=h.1 (odt hc3)
         obtain ⟨q22_4,h⟩:=h
         exact p57_start_0 c g hE ⟨q0_0,q1_0,q2_0,hc0,q4_1,(by decide),rfl,hc1,q8_2,rfl,rfl,(by decide),rfl,q13_2,hc2,q15_3,rfl,rfl,(by decide),rfl,q20_3,hc3,q22_4,rfl,rfl,(by decide),rfl,rfl,trivial⟩ (AvLe.of_eq (by rw [h]; try rfl))
       · have h:=h.2 (odf hc3)
         exact p57_start_1 c g hE ⟨q0_0,q1_0,q2_0,hc0,q4_1,(by decide),rfl,hc1,q8_2,rfl,rfl,(by decide),rfl,q13_2,hc2,q15_3,rfl,rfl,(by decide),rfl,q20_3,hc3,rfl,trivial⟩ (AvLe.of_eq (by rw [h]; try rfl))
     · have h:=h.2 (odf hc2)
       obtain ⟨q15_3,h⟩:=h
       rcases bft (decide ((Int.tdiv c g.w)<(g.h - 1))) with hc3 | hc3
       · have h:=h.1 (odt hc3)
         obtain ⟨q17_4,h⟩:=h
         exact p57_start_2 c g hE ⟨q0_0,q1_0,q2_0,hc0,q4_1,(by decide),rfl,hc1,q8_2,rfl,rfl,(by decide),rfl,q13_2,hc2,q15_3,hc3,q17_4,rfl,rfl,(by decide),rfl,rfl,trivial⟩ (AvLe.of_eq (by rw [h]; try rfl))
       · have h:=h.2 (odf hc3)
         exact p57_start_3 c g hE ⟨q0_0,q1_0,q2_0,hc0,q4_1,(by decide),rfl,hc1,q8_2,rfl,rfl,(by decide),rfl,q13_2,hc2,q15_3,hc3,rfl,trivial⟩ (AvLe.of_eq (by rw [h]; try rfl))
   · have h:=h.2 (odf hc1)
     obtain ⟨q8_2,h⟩:=h
     rcases bft (decide ((Int.tmod c g.w)<(g.w - 1))) with hc2 | hc2
     · have h:=h.1 (odt hc2)
       obtain ⟨q10_3,h⟩:=h
       obtain ⟨q15_3,h⟩:=h
       rcases bft (decide ((Int.tdiv c g.w)<(g.h - 1))) with hc3 | hc3
       · have h:=h.1 (odt hc3)
         obtain ⟨q17_4,h⟩:=h
         exact p57_start_4 c g hE ⟨q0_0,q1_0,q2_0,hc0,q4_1,(by decide),rfl,hc1,q8_2,hc2,q10_3,rfl,rfl,(by decide),rfl,q15_3,hc3,q17_4,rfl,rfl,(by decide),rfl,rfl,trivial⟩ (AvLe.of_eq (by rw [h]; try rfl))
       · have h:=h.2 (odf hc3)
         exact p57_start_5 c g hE ⟨q0_0,q1_0,q2_0,hc0,q4_1,(by decide),rfl,hc1,q8_2,hc2,q10_3,rfl,rfl,(by decide),rfl,q15_3,hc3,rfl,trivial⟩ (AvLe.of_eq (by rw [h]; try rfl))
     · have h:=h.2 (odf hc2)
       obtain ⟨q10_3,h⟩:=h
       rcases bft (decide ((Int.tdiv c g.w)<(g.h - 1))) with hc3 | hc3
       · have h:=h.1 (odt hc3)
         obtain ⟨q12_4,h⟩:=h
         exact p57_start_6 c g hE ⟨q0_0,q1_0,q2_0,hc0,q4_1,(by decide),rfl,hc1,q8_2,hc2,q10_3,hc3,q12_4,rfl,rfl,(by decide),rfl,rfl,trivial⟩ (AvLe.of_eq (by rw [h]; try rfl))
       · have h:=h.2 (odf hc3)
         exact p57_start_7 c g hE ⟨q0_0,q1_0,q2_0,hc0,q4_1,(by decide),rfl,hc1,q8_2,hc2,q10_3,hc3,rfl,trivial⟩ (AvLe.of_eq (by rw [h]; try rfl))
 · have h:=h.2 (odf hc0)
   rcases bft (decide ((Int.tmod c g.w) > 0)) with hc1 | hc1
   · have h:=h.1 (odt hc1)
     obtain ⟨q5_2,h⟩:=h
     obtain ⟨q8_2,h⟩:=h
     rcases bft (decide ((Int.tmod c g.w)<(g.w - 1))) with hc2 | hc2
     · have h:=h.1 (odt hc2)
       obtain ⟨q10_3,h⟩:=h
       obtain ⟨q15_3,h⟩:=h
       rcases bft (decide ((Int.tdiv c g.w)<(g.h - 1))) with hc3 | hc3
       · have h:=h.1 (odt hc3)
         obtain ⟨q17_4,h⟩:=h
         exact p57_start_8 c g hE ⟨q0_0,q1_0,q2_0,hc0,hc1,q5_2,(by decide),rfl,q8_2,hc2,q10_3,rfl,rfl,(by decide),rfl,q15_3,hc3,q17_4,rfl,rfl,(by decide),rfl,rfl,trivial⟩ (AvLe.of_eq (by rw [h]; try rfl))
       · have h:=h.2 (odf hc3)
         exact p57_start_9 c g hE ⟨q0_0,q1_0,q2_0,hc0,hc1,q5_2,(by decide),rfl,q8_2,hc2,q10_3,rfl,rfl,(by decide),rfl,q15_3,hc3,rfl,trivial⟩ (AvLe.of_eq (by rw [h]; try rfl))
     · have h:=h.2 (odf hc2)
       obtain ⟨q10_3,h⟩:=h
       rcases bft (decide ((Int.tdiv c g.w)<(g.h - 1))) with hc3 | hc3
       · have h:=h.1 (odt hc3)
         obtain ⟨q12_4,h⟩:=h
         exact p57_start_10 c g hE ⟨q0_0,q1_0,q2_0,hc0,hc1,q5_2,(by decide),rfl,q8_2,hc2,q10_3,hc3,q12_4,rfl,rfl,(by decide),rfl,rfl,trivial⟩ (AvLe.of_eq (by rw [h]; try rfl))
       · have h:=h.2 (odf hc3)
         exact p57_start_11 c g hE ⟨q0_0,q1_0,q2_0,hc0,hc1,q5_2,(by decide),rfl,q8_2,hc2,q10_3,hc3,rfl,trivial⟩ (AvLe.of_eq (by rw [h]; try rfl))
   · have h:=h.2 (odf hc1)
     obtain ⟨q5_2,h⟩:=h
     rcases bft (decide ((Int.tmod c g.w)<(g.w - 1))) with hc2 | hc2
     · have h:=h.1 (odt hc2)
       obtain ⟨q7_3,h⟩:=h
       obtain ⟨q10_3,h⟩:=h
       rcases bft (decide ((Int.tdiv c g.w)<(g.h - 1))) with hc3 | hc3
       · have h:=h.1 (odt hc3)
         obtain ⟨q12_4,h⟩:=h
         exact p57_start_12 c g hE ⟨q0_0,q1_0,q2_0,hc0,hc1,q5_2,hc2,q7_3,(by decide),rfl,q10_3,hc3,q12_4,rfl,rfl,(by decide),rfl,rfl,trivial⟩ (AvLe.of_eq (by rw [h]; try rfl))
       · have h:=h.2 (odf hc3)
         exact p57_start_13 c g hE ⟨q0_0,q1_0,q2_0,hc0,hc1,q5_2,hc2,q7_3,(by decide),rfl,q10_3,hc3,rfl,trivial⟩ (AvLe.of_eq (by rw [h]; try rfl))
     · have h:=h.2 (odf hc2)
       obtain ⟨q7_3,h⟩:=h
       rcases bft (decide ((Int.tdiv c g.w)<(g.h - 1))) with hc3 | hc3
       · have h:=h.1 (odt hc3)
         obtain ⟨q9_4,h⟩:=h
         exact p57_start_14 c g hE ⟨q0_0,q1_0,q2_0,hc0,hc1,q5_2,hc2,q7_3,hc3,q9_4,(by decide),rfl,rfl,trivial⟩ (AvLe.of_eq (by rw [h]; try rfl))
       · have h:=h.2 (odf hc3)
         exact p57_start_15 c g hE ⟨q0_0,q1_0,q2_0,hc0,hc1,q5_2,hc2,q7_3,hc3,trivial⟩ (by rw [h]; exact Vi)
theorem beside_ok (g:Gd) (c:Int) (h:OnG g c):Pure Try.prog 57 [fldV g,.int .i64 c] (.rsl (rowI (Qq g c)) 0 (Qq g c).length):=Qy Try.func57 f57b fun E hE=>by
 have p:=gnd_p h.ok
 obtain ⟨d1,d2,d3,d4,-⟩:=h.dims
 have h1:=h.lo; have h2:=h.hi; have h3:=p.w1; have h4:=p.w8; have h5:=p.h8; have h6:=VT h.ok
 refine f57W c g (rv:=Qq g c) hE ?_
 unfold Qq
 generalize Int.tdiv c g.w=y at *
 generalize Int.tmod c g.w=x at *
 refine ⟨by omega,⟨by omega,by omega⟩,by omega,?_⟩
 repeat' (first | (refine ⟨?_,?_⟩) | (intro _))
 all_goals first | omega | (simp [*])
end Go.Proofs.Ytemklbioijmjiaa
namespace Go.Proofs.Ytemklbioijmjiaa
open Go Ax
open Go.Proofs
def Qv (v:List Int) (c:Int):Int:=v.getD c.toNat (-1)
/-- The next cell of a way. -/
def okN (g:Gd) (v:List Int) (a:Int) (c:Int):Bool:=Qx g c && (decide (Qv v c≥0) && decide (Qv v c+QM g a c+Qu g a=Qv v a))
structure TabIn (g:Gd) (v:List Int):Prop where
 len:v.length=g.cells.length
 lo:∀ x ∈ v,-1≤x
 hi:∀ x ∈ v,x≤10000
theorem TabIn.at_ {g:Gd} {v:List Int} {c:Int} (h:TabIn g v) (hc:OnG g c):v[c.toNat]?=some (Qv v c)∧-1≤Qv v c∧Qv v c≤10000:=by
 have h1:=hc.lo; have h2:=hc.hi; have h3:=h.len
 have e:v[c.toNat]?=some (Qv v c):=by
  rw [Qv,List.getD_eq_getElem?_getD,List.getElem?_eq_getElem (show c.toNat<v.length by omega)]; rfl
 exact ⟨e,h.lo _ (List.mem_of_getElem? e),h.hi _ (List.mem_of_getElem? e)⟩
def yr (g:Gd) (c:Int) (s:List Int × Bool) (k:Int):List Int × Bool :=
 if Qv s.1 k<0 ∨ Qx g k=false then s
 else if Qv s.1 c<0 ∨ Qv s.1 k+QM g c k+Qu g c<Qv s.1 c then (s.1.set c.toNat (Qv s.1 k+QM g c k+Qu g c),true)
 else s
def Wj (g:Gd) (s:List Int × Bool) (c:Nat):List Int × Bool:=if Qx g (c:Int)=true then (Qq g (c:Int)).foldl (yr g (c:Int)) s else s
def sweepF (g:Gd):Nat→Nat→List Int × Bool→List Int × Bool
 | 0,_,s=>s
 | d+1,k,s=>sweepF g d (k+1) (Wj g s k)
def qB (g:Gd) (v:List Int):List Int × Bool:=sweepF g g.cells.length 0 (v,false)
def Wh (g:Gd):Nat→List Int→List Int
 | 0,v=>v
 | f+1,v=>if (qB g v).2=true then Wh g f (qB g v).1 else (qB g v).1
def Wi (g:Gd) (t:Int):List Int:=(Qt g).set t.toNat (Qu g t)
def XK (g:Gd) (t:Int):List Int:=Wh g 5000000 (Wi g t)
def sumF (f:Int→Nat) (l:List Int):Nat:=(l.map f).sum
theorem Wz (f:Int→Nat):∀ (l:List Int) (i:Nat) (a b:Int),l[i]?=some a→sumF f (l.set i b)+f a=sumF f l+f b
 | [],i,a,b,h=>by simp at h
 | x :: l,0,a,b,h=>by
  simp only [List.getElem?_cons_zero,Option.some.injEq] at h
  subst h
  simp [sumF]; omega
 | x :: l,i+1,a,b,h=>by
  have:=Wz f l i a b (by simpa using h)
  simp only [sumF,List.set_cons_succ,List.map_cons,List.sum_cons] at this ⊢
  omega
theorem yl (f:Int→Nat) (m:Nat):∀ (l:List Int),(∀ x ∈ l,f x≤m)→sumF f l≤m*l.length
 | [],_=>by simp [sumF]
 | x :: l,h=>by
  have:=yl f m l (fun y hy=>h y (List.mem_cons_of_mem _ hy))
  have h1:=h x List.mem_cons_self
  simp only [sumF,List.map_cons,List.sum_cons,List.length_cons,Nat.mul_add,Nat.mul_one] at this ⊢
  omega
def phV (x:Int):Nat:=if x<0 then 20000 else x.toNat
def knV (x:Int):Nat:=if x<0 then 0 else 1
def qf (v:List Int):Nat:=sumF knV v
def phi (v:List Int):Nat:=sumF phV v
structure TabI (g:Gd) (t:Int) (v:List Int):Prop where
 ont:OnG g t
 frt:Qx g t=true
 len:v.length=g.cells.length
 lo:∀ x ∈ v,-1≤x
 hi:∀ x ∈ v,x≤104*(qf v:Int)
 t0:Qv v t=Qu g t
 kn:∀ x,OnG g x→0≤Qv v x→Qx g x=true∧(x=t ∨ ∃ k ∈ Qq g x,Qx g k=true∧0≤Qv v k∧Qv v k+QM g x k+Qu g x≤Qv v x)
theorem known_le (v:List Int):qf v≤v.length:=by
 have:=yl knV 1 v (fun x _=>by unfold knV; split <;> omega)
 unfold qf; omega
theorem TabI.tin {g:Gd} {t:Int} {v:List Int} (h:TabI g t v):TabIn g v:=by
 have h1:=VT h.ont.ok
 have h2:=known_le v
 have h3:=h.len
 exact ⟨h.len,h.lo,fun x hx=>by have:=h.hi x hx; omega⟩
theorem TabI.at_ {g:Gd} {t:Int} {v:List Int} {c:Int} (h:TabI g t v) (hc:OnG g c):v[c.toNat]?=some (Qv v c)∧-1≤Qv v c∧Qv v c≤6700∧Qv v c≤104*(qf v:Int):=by
 obtain ⟨e,h1,-⟩:=h.tin.at_ hc
 have h2:=h.hi _ (List.mem_of_getElem? e)
 have h4:=VT h.ont.ok
 have h5:=known_le v
 have h3:=h.len
 exact ⟨e,h1,by omega,h2⟩
theorem tab_set {g:Gd} {v:List Int} {c x n:Int} (hl:v.length=g.cells.length) (hc:OnG g c) (hx:OnG g x):Qv (v.set c.toNat n) x=if x=c then n else Qv v x:=by
 have h1:=hc.lo; have h2:=hc.hi; have h3:=hx.lo
 unfold Qv
 split
 · rename_i e; subst e
   rw [List.getD_eq_getElem?_getD,List.getElem?_set_self (by omega)]; rfl
 · rename_i e
   rw [List.getD_eq_getElem?_getD,List.getElem?_set_ne (by omega),← List.getD_eq_getElem?_getD]
/-- An edge that gives nothing more. -/
def Edge (g:Gd) (v:List Int) (c k:Int):Prop:=Qx g k=true→0≤Qv v k→0≤Qv v c∧Qv v c≤Qv v k+QM g c k+Qu g c
structure RelaxR (g:Gd) (t c k:Int) (s s':List Int × Bool):Prop where
 inv:TabI g t s'.1
 le:phi s'.1≤phi s.1
 lt:s'.2=true→s.2=true ∨ phi s'.1<phi s.1
 same:s'.2=false→s'=s∧Edge g s.1 c k
theorem relax_inv {g:Gd} {t c k:Int} {s:List Int × Bool} (h:TabI g t s.1) (hc:OnG g c) (fc:Qx g c=true) (hk:k ∈ Qq g c):RelaxR g t c k s (yr g c s k):=by
 have ok:=YU hc hk
 obtain ⟨v,ch⟩:=s
 simp only at h ⊢
 obtain ⟨e1,l1,u1,b1⟩:=h.at_ hc
 obtain ⟨e2,l2,u2,b2⟩:=h.at_ ok
 have st:=WL hc ok
 have dr:=YD g c
 unfold yr
 simp only
 split
 · rename_i q
   have q:Qv v k<0 ∨ Qx g k=false:=q
   refine ⟨h,Nat.le_refl _,fun h1=>.inl h1,fun h1=>⟨rfl,fun f1 f2=>?_⟩⟩
   have f2:0≤Qv v k:=f2
   rcases q with q | q
   · omega
   · rw [q] at f1; cases f1
 · rename_i q
   have q1:0≤Qv v k:=by
    rcases Int.lt_or_le (Qv v k) 0 with h1 | h1
    · exact absurd (.inl h1) q
    · exact h1
   have q2:Qx g k=true:=by
    cases e:Qx g k with
    | true=>rfl
    | false=>exact absurd (.inr e) q
   split
   · rename_i p
     have p:Qv v c<0 ∨ Qv v k+QM g c k+Qu g c<Qv v c:=p
     show RelaxR g t c k (v,ch) (v.set c.toNat (Qv v k+QM g c k+Qu g c),true)
     generalize hn:Qv v k+QM g c k+Qu g c=n at p ⊢
     have ct:c ≠ t:=by
      rintro rfl
      have:=h.t0
      rcases p with p | p <;> omega
     have ck:k ≠ c:=by
      rintro rfl
      rcases p with p | p <;> omega
     have hs:=Wz knV v c.toNat _ n e1
     have hp:=Wz phV v c.toNat _ n e1
     have hts:∀ x,OnG g x→Qv (v.set c.toNat n) x=if x=c then n else Qv v x:=fun x hx=>tab_set h.len hc hx
     have hkn:n≤104*(qf (v.set c.toNat n):Int)∧qf v≤qf (v.set c.toNat n):=by
      unfold qf at b1 b2 ⊢
      have a1:knV n=1:=by unfold knV; rw [if_neg (by omega)]
      rcases p with p | p
      · have a2:knV (Qv v c)=0:=by unfold knV; rw [if_pos p]
        omega
      · by_cases a3:Qv v c<0
        · have a2:knV (Qv v c)=0:=by unfold knV; rw [if_pos a3]
          omega
        · have a2:knV (Qv v c)=1:=by unfold knV; rw [if_neg a3]
          omega
     have hphi:phi (v.set c.toNat n)<phi v:=by
      unfold phi
      have a1:phV n=n.toNat:=by unfold phV; rw [if_neg (by omega)]
      by_cases a3:Qv v c<0
      · have a2:phV (Qv v c)=20000:=by unfold phV; rw [if_pos a3]
        omega
      · have a2:phV (Qv v c)=(Qv v c).toNat:=by unfold phV; rw [if_neg a3]
        rcases p with p | p <;> omega
     refine ⟨⟨h.ont,h.frt,by simpa using h.len,fun x hx=>?_,fun x hx=>?_,?_,fun x hx hx0=>?_⟩,Nat.le_of_lt hphi,fun _=>.inr hphi,fun h1=>by cases h1⟩
     · rcases List.mem_or_eq_of_mem_set hx with h1 | h1
       · exact h.lo x h1
       · omega
     · show x≤104*(qf (v.set c.toNat n):Int)
       rcases List.mem_or_eq_of_mem_set hx with h1 | h1
       · have:=h.hi x h1; omega
       · subst h1; exact hkn.1
     · show Qv (v.set c.toNat n) t=_
       rw [hts t h.ont,if_neg (Ne.symm ct)]; exact h.t0
     · have hx0':0≤Qv (v.set c.toNat n) x:=hx0
       show Qx g x=true∧(x=t ∨ ∃ k ∈ Qq g x,Qx g k=true∧0≤Qv (v.set c.toNat n) k∧Qv (v.set c.toNat n) k+QM g x k+Qu g x≤Qv (v.set c.toNat n) x)
       rw [hts x hx] at hx0' ⊢
       by_cases xc:x=c
       · subst xc
         rw [if_pos rfl] at hx0' ⊢
         refine ⟨fc,.inr ⟨k,hk,q2,?_⟩⟩
         rw [hts k ok,if_neg ck]
         omega
       · rw [if_neg xc] at hx0' ⊢
         obtain ⟨f1,f2⟩:=h.kn x hx hx0'
         refine ⟨f1,f2.imp_right fun ⟨k2,m1,m2,m3,m4⟩=>⟨k2,m1,m2,?_⟩⟩
         have ok2:=YU hx m1
         rw [hts k2 ok2]
         split
         · rename_i e; subst e
           rcases p with p | p <;> omega
         · omega
   · rename_i p
     have p:¬ (Qv v c<0 ∨ Qv v k+QM g c k+Qu g c<Qv v c):=p
     refine ⟨h,Nat.le_refl _,fun h1=>.inl h1,fun h1=>⟨rfl,fun f1 f2=>?_⟩⟩
     show 0≤Qv v c∧Qv v c≤Qv v k+QM g c k+Qu g c
     rcases Int.lt_or_le (Qv v c) 0 with h3 | h3
     · exact absurd (.inl h3) p
     · refine ⟨h3,?_⟩
       rcases Int.lt_or_le (Qv v k+QM g c k+Qu g c) (Qv v c) with h4 | h4
       · exact absurd (.inr h4) p
       · exact h4
structure RunR (g:Gd) (t:Int) (Q:List Int→Prop) (s s':List Int × Bool):Prop where
 inv:TabI g t s'.1
 le:phi s'.1≤phi s.1
 lt:s'.2=true→s.2=true ∨ phi s'.1<phi s.1
 same:s'.2=false→s'=s∧Q s.1
theorem fold_inv {g:Gd} {t c:Int} (hc:OnG g c) (fc:Qx g c=true):∀ (ks:List Int) (s:List Int × Bool),TabI g t s.1→(∀ k ∈ ks,k ∈ Qq g c)→RunR g t (fun v=>∀ k ∈ ks,Edge g v c k) s (ks.foldl (yr g c) s)
 | [],s,h,_=>⟨h,Nat.le_refl _,fun h1=>.inl h1,fun h1=>⟨rfl,fun k hk=>by cases hk⟩⟩
 | k :: ks,s,h,hm=>by
  have r1:=relax_inv h hc fc (hm k List.mem_cons_self)
  have r2:=fold_inv hc fc ks (yr g c s k) r1.inv (fun x hx=>hm x (List.mem_cons_of_mem _ hx))
  refine ⟨r2.inv,Nat.le_trans r2.le r1.le,fun h1=>?_,fun h1=>?_⟩
  · rcases r2.lt h1 with h2 | h2
    · rcases r1.lt h2 with h3 | h3
      · exact .inl h3
      · exact .inr (by have:=r2.le; simp only [List.foldl_cons] at *; omega)
    · exact .inr (by have:=r1.le; simp only [List.foldl_cons] at *; omega)
  · obtain ⟨h2,h3⟩:=r2.same h1
    have h4:(yr g c s k).2=false:=by rw [← h2]; exact h1
    obtain ⟨h5,h6⟩:=r1.same h4
    refine ⟨h2.trans h5,fun x hx=>?_⟩
    rw [h5] at h3
    rcases List.mem_cons.1 hx with rfl | hx
    · exact h6
    · exact h3 x hx
theorem qM {g:Gd} {t:Int} {c:Nat} (hc:OnG g (c:Int)) (s:List Int × Bool) (h:TabI g t s.1):RunR g t (fun v=>Qx g (c:Int)=true→∀ k ∈ Qq g (c:Int),Edge g v (c:Int) k) s (Wj g s c):=by
 unfold Wj
 split
 · rename_i f
   have r:=fold_inv hc f (Qq g (c:Int)) s h (fun k hk=>hk)
   exact ⟨r.inv,r.le,r.lt,fun h1=>⟨(r.same h1).1,fun _=>(r.same h1).2⟩⟩
 · rename_i f
   exact ⟨h,Nat.le_refl _,fun h1=>.inl h1,fun h1=>⟨rfl,fun h2=>absurd h2 f⟩⟩
def ClosedF (g:Gd) (k d:Nat) (v:List Int):Prop:=∀ c:Nat,k≤c→c<k+d→Qx g (c:Int)=true→∀ x ∈ Qq g (c:Int),Edge g v (c:Int) x
theorem qJ {g:Gd} {t:Int} (hg:QX g=true):∀ (d k:Nat) (s:List Int × Bool),k+d=g.cells.length→TabI g t s.1→RunR g t (ClosedF g k d) s (sweepF g d k s)
 | 0,k,s,_,h=>⟨h,Nat.le_refl _,fun h1=>.inl h1,fun h1=>⟨rfl,fun c h2 h3=>by omega⟩⟩
 | d+1,k,s,hk,h=>by
  have hc:OnG g (k:Int):=⟨hg,by omega,by omega⟩
  have r1:=qM hc s h
  have r2:=qJ hg d (k+1) (Wj g s k) (by omega) r1.inv
  refine ⟨r2.inv,Nat.le_trans r2.le r1.le,fun h1=>?_,fun h1=>?_⟩
  · rcases r2.lt h1 with h2 | h2
    · rcases r1.lt h2 with h3 | h3
      · exact .inl h3
      · exact .inr (Nat.lt_of_le_of_lt r2.le h3)
    · exact .inr (Nat.lt_of_lt_of_le h2 r1.le)
  · obtain ⟨h2,h3⟩:=r2.same h1
    have h4:(Wj g s k).2=false:=by rw [← h2]; exact h1
    obtain ⟨h5,h6⟩:=r1.same h4
    refine ⟨h2.trans h5,fun c c1 c2=>?_⟩
    rw [h5] at h3
    by_cases e:c=k
    · subst e; exact h6
    · exact h3 c (by omega) (by omega)
def Vk (g:Gd) (v:List Int):Prop:=∀ c,OnG g c→Qx g c=true→∀ x ∈ Qq g c,Edge g v c x
theorem sweep_inv {g:Gd} {t:Int} {v:List Int} (h:TabI g t v):TabI g t (qB g v).1∧((qB g v).2=true→phi (qB g v).1<phi v)∧((qB g v).2=false→(qB g v).1=v∧Vk g v):=by
 have r:=qJ h.ont.ok g.cells.length 0 (v,false) (by omega) h
 refine ⟨r.inv,fun h1=>(r.lt h1).resolve_left (by simp),fun h1=>?_⟩
 obtain ⟨h2,h3⟩:=r.same h1
 refine ⟨congrArg Prod.fst h2,fun c hc f x hx=>?_⟩
 have e:(c.toNat:Int)=c:=by have:=hc.lo; omega
 have:=h3 c.toNat (by omega) (by have:=hc.hi; have:=hc.lo; omega)
 rw [e] at this
 exact this f x hx
theorem qI {g:Gd} {t:Int}:∀ (f:Nat) (v:List Int),TabI g t v→phi v<f→TabI g t (Wh g f v)∧Vk g (Wh g f v)
 | 0,v,_,h=>by omega
 | f+1,v,h,hf=>by
  obtain ⟨r1,r2,r3⟩:=sweep_inv h
  unfold Wh
  split
  · rename_i e; exact qI f _ r1 (by have:=r2 e; omega)
  · rename_i e
    obtain ⟨h1,h2⟩:=r3 (by simpa using e)
    rw [h1]; exact ⟨h,h2⟩
theorem start_inv {g:Gd} {t:Int} (ht:OnG g t) (f:Qx g t=true):TabI g t (Wi g t):=by
 have dr:=YD g t
 have h1:=ht.lo; have h2:=ht.hi
 have tl:(Qt g).length=g.cells.length:=by simp [Qt]
 have hts:∀ x,OnG g x→Qv (Wi g t) x=if x=t then Qu g t else -1:=fun x hx=>by
  unfold Wi
  rw [tab_set tl ht hx]
  split
  · rfl
  · rw [Qv,List.getD_eq_getElem?_getD,hx.tk]; rfl
 have hk:qf (Wi g t)=1:=by
  have:=Wz knV (Qt g) t.toNat (-1) (Qu g t) ht.tk
  have e1:sumF knV (Qt g)=0:=by
   have:=yl knV 0 (Qt g) (fun x hx=>by rw [Qt,List.mem_replicate] at hx; rw [hx.2]; decide)
   omega
  have e2:knV (Qu g t)=1:=by unfold knV; rw [if_neg (by omega)]
  have e3:knV (-1)=0:=by decide
  unfold qf Wi
  omega
 refine ⟨ht,f,by simp [Wi,tl],fun x hx=>?_,fun x hx=>?_,?_,fun x hx h0=>?_⟩
 · rcases List.mem_or_eq_of_mem_set hx with h3 | h3
   · rw [Qt,List.mem_replicate] at h3; omega
   · omega
 · rw [hk]
   rcases List.mem_or_eq_of_mem_set hx with h3 | h3
   · rw [Qt,List.mem_replicate] at h3; omega
   · omega
 · rw [hts t ht,if_pos rfl]
 · rw [hts x hx] at h0
   split at h0
   · rename_i e; subst e; exact ⟨f,.inl rfl⟩
   · omega
theorem phi_le {g:Gd} {t:Int} {v:List Int} (h:TabI g t v):phi v≤20000*64:=by
 have h1:=VT h.ont.ok
 have h2:=h.len
 have:=yl phV 20000 v (fun x hx=>by have:=h.tin.hi x hx; unfold phV; split <;> omega)
 unfold phi
 omega
theorem WJ {g:Gd} {t:Int} (ht:OnG g t) (f:Qx g t=true):TabI g t (XK g t)∧Vk g (XK g t):=by
 have h:=start_inv ht f
 have:=phi_le h
 exact qI 5000000 _ h (by omega)
/-! ### The way -/
theorem idxG_get {α:Type} (p:α→Bool) (l:List α) (h:l.any p=true):0≤idxG p l∧∃ x,l[(idxG p l).toNat]?=some x∧p x=true:=by
 cases hf:l.findIdx? p with
 | none =>
  rw [List.findIdx?_eq_none_iff] at hf
  rw [List.any_eq_true] at h
  obtain ⟨x,hx,hp⟩:=h
  have:=hf x hx
  simp [hp] at this
 | some i =>
  have e:idxG p l=(i:Int):=by simp only [idxG,hf]
  obtain ⟨h1,h2,-⟩:=List.findIdx?_eq_some_iff_getElem.1 hf
  rw [e]
  refine ⟨by omega,l[i],?_,h2⟩
  rw [Int.toNat_natCast]; exact List.getElem?_eq_getElem h1
def WX (g:Gd) (v:List Int) (a:Int):Int:=(Qq g a).getD (idxG (okN g v a) (Qq g a)).toNat 0
structure NextR (g:Gd) (v:List Int) (a k:Int):Prop where
 idx:0≤idxG (okN g v a) (Qq g a)
 get:(Qq g a)[(idxG (okN g v a) (Qq g a)).toNat]?=some k
 on:OnG g k
 mem:k ∈ Qq g a
 fr:Qx g k=true
 kn:0≤Qv v k
 eq:Qv v k+QM g a k+Qu g a=Qv v a
 lt:Qv v k<Qv v a
theorem WW {g:Gd} {t a:Int} {v:List Int} (h:TabI g t v) (hcl:Vk g v) (ha:OnG g a) (h0:0≤Qv v a) (hne:a ≠ t):NextR g v a (WX g v a):=by
 obtain ⟨f1,f2⟩:=h.kn a ha h0
 obtain ⟨k,m1,m2,m3,m4⟩:=f2.resolve_left hne
 have hE:=hcl a ha f1 k m1 m2 m3
 have hany:(Qq g a).any (okN g v a)=true:=by
  rw [List.any_eq_true]
  refine ⟨k,m1,?_⟩
  simp only [okN,Bool.and_eq_true,decide_eq_true_eq]
  exact ⟨m2,by omega,by omega⟩
 obtain ⟨i1,x,i2,i3⟩:=idxG_get _ _ hany
 have e:WX g v a=x:=by
  unfold WX; rw [List.getD_eq_getElem?_getD,i2]; rfl
 rw [e]
 simp only [okN,Bool.and_eq_true,decide_eq_true_eq] at i3
 have hm:=List.mem_of_getElem? i2
 have ok:=YU ha hm
 have st:=WL ha ok
 have dr:=YD g a
 exact ⟨i1,i2,ok,hm,i3.1,i3.2.1,i3.2.2,by omega⟩
def Vp (g:Gd) (v:List Int) (t:Int):Nat→Int→List Int→List Int
 | 0,_,w=>w
 | f+1,a,w=>if a=t then w else Vp g v t f (WX g v a) (w++[WX g v a])
def Qa (g:Gd) (a b:Int):List Int × Int × Int :=
 if QX g=true then
  if offs g a b=true then ([],0,1)
  else if Qx g a=true then
   if Qx g b=true then
    if Qv (XK g b) a<0 then ([],0,3)
    else (Vp g (XK g b) b 20000 a [a],Qv (XK g b) a,0)
   else ([],0,1)
  else ([],0,1)
 else ([],0,40)
end Go.Proofs.Ytemklbioijmjiaa