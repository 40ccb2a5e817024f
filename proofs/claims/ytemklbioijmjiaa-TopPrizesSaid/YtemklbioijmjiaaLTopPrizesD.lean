/- A part of the proof: several texts, one behind the other. -/
import Derived.Test.YtemklbioijmjiaaLTopPrizesC
import Derived.Test.YtemklbioijmjiaaChecked
set_option linter.unusedVariables false
set_option linter.unusedSimpArgs false
set_option maxRecDepth 100000
namespace Go.Proofs.Ytemklbioijmjiaa
open Go Ax
open Go.Proofs
def drawT:List Trn→Int→Trn
 | [],_=>⟨0,0⟩
 | t :: ts,d=>if d≥t.w then drawT ts (d - t.w) else t
def YK (s:Stl) (plan:List Int):Nat→Int→List Int→List Int→List Int × Int × Int
 | 0,_,_,_=>([],0,0)
 | n+1,at_,v,ds =>
  if (s.stages.getD (Int.toNat at_) ⟨0,0,[]⟩).kind=4 then (v++[at_],(s.stages.getD (Int.toNat at_) ⟨0,0,[]⟩).prize,0)
  else if (s.stages.getD (Int.toNat at_) ⟨0,0,[]⟩).kind=1 then
   (match ds with
   | []=>([],0,1)
   | d :: ds=>if Qd d 0 (totI (s.stages.getD (Int.toNat at_) ⟨0,0,[]⟩) - 1)=true then YK s plan n (drawT (s.stages.getD (Int.toNat at_) ⟨0,0,[]⟩).turns d).to (v++[at_]) ds else ([],0,1))
  else YK s plan n ((s.stages.getD (Int.toNat at_) ⟨0,0,[]⟩).turns.getD (Int.toNat (planI plan at_)) ⟨0,0⟩).to (v++[at_]) ds
def QY (s:Stl) (plan draws:List Int):List Int × Int × Int:=if WE s plan=0 then YK s plan s.stages.length 0 [] draws else ([],0,WE s plan)
theorem Vy:∀ {ts:List Trn} {d:Int},0≤d→d<(ts.map (·.w)).sum→drawT ts d ∈ ts
 | [],d,h0,h1=>by simp at h1; omega
 | t :: ts,d,h0,h1=>by
  simp only [drawT]
  simp only [List.map_cons,List.sum_cons] at h1
  split
  · exact List.mem_cons_of_mem _ (Vy (by omega) (by omega))
  · simp
theorem WC {s:Stl} {plan:List Int}:∀ {n:Nat} {at_:Int} {v ds:List Int},(YK s plan n at_ v ds).1.length≤v.length+n
 | 0,at_,v,ds=>by simp [YK]
 | n+1,at_,v,ds=>by
  unfold YK
  split
  · simp
  · split
    · cases ds with
      | nil=>simp
      | cons d ds =>
       simp only
       split
       · have:=WC (s:=s) (plan:=plan) (n:=n) (at_:=(drawT (s.stages.getD (Int.toNat at_) ⟨0,0,[]⟩).turns d).to) (v:=v++[at_]) (ds:=ds)
         simp only [List.length_append,List.length_cons,List.length_nil] at this; omega
       · simp
    · have:=WC (s:=s) (plan:=plan) (n:=n) (at_:=((s.stages.getD (Int.toNat at_) ⟨0,0,[]⟩).turns.getD (Int.toNat (planI plan at_)) ⟨0,0⟩).to) (v:=v++[at_]) (ds:=ds)
      simp only [List.length_append,List.length_cons,List.length_nil] at this; omega
theorem f22b:Try.f22.body=some (Qb Try.prog 22):=by kernel_rfl
theorem u22 {a c k:List AV} {r:AV} (h:Pure Try.prog 22 (a++c++k) r):Qi Try.prog (.clos 22 a k) c r:=Qk Try.func22 (by kernel_rfl) f22b h
def yN (P:Program):List Item:=kAt 400 [.code (Qb P 22)] [.b false,.stop]
def f22S0 (s:Stl) (plan:(List Int)) (draws:(List Int)) (at_:Int) (v2:List Int) (draws1:(List Int)) (g2:Nat):St:=⟨([J,J,.rsl (rowI draws1) 0 draws1.length,J,.rptr [.rsl (rowI plan) 0 plan.length] 0,J,.sl 2 g2 0 v2.length 1,J,J,.rptr [.rsl (Qe (((Qf s).s).stages)) 0 ((((Qf s).s).stages).length),.rsl (rowI (((Qf s).s).worth)) 0 ((((Qf s).s).worth).length),.int .i64 (((Qf s).s).price),.rsl (rowI ((Qf s).meas)) 0 (((Qf s).meas).length),.rsl (rowI ((Qf s).mult)) 0 (((Qf s).mult).length)] 0,.int .i64 at_]++Js 96),[⟨true,0,1,true,[.rsl (Qe s.stages) 0 s.stages.length,.rsl (rowI s.worth) 0 s.worth.length,.int .i64 s.price],false⟩,⟨false,1,1,true,[],false⟩,⟨true,g2,1,true,(rowI v2),true⟩]⟩
def f22G0 (E:Env) (s:Stl) (plan:(List Int)) (draws:(List Int)) (at_:Int) (v2:List Int) (draws1:(List Int)):Prop:=∀ g2:Nat,G Try.prog E (yN Try.prog) (f22S0 s plan draws at_ v2 draws1 g2)
def f22K1 (P:Program):List Item:=kAt 400 [.code (Qb P 22)] [.b false,.b true,.b true,.b false,.stop]
def f22S1 (s:Stl) (plan:(List Int)) (draws:(List Int)) (turn:Int) (left:Int) (v4_0:Int) (v4_1:Int) (v4_2:(List Trn)) (v3_0:Int) (v2:List Int) (draws1:(List Int)) (g2:Nat):St:=⟨([J,J,.rsl (rowI draws1) 0 draws1.length,J,.rptr [.rsl (rowI plan) 0 plan.length] 0,J,.sl 2 g2 0 v2.length 1,J,J,.rptr [.rsl (Qe (((Qf s).s).stages)) 0 ((((Qf s).s).stages).length),.rsl (rowI (((Qf s).s).worth)) 0 ((((Qf s).s).worth).length),.int .i64 (((Qf s).s).price),.rsl (rowI ((Qf s).meas)) 0 (((Qf s).meas).length),.rsl (rowI ((Qf s).mult)) 0 (((Qf s).mult).length)] 0,J,.ptr 4 0 0,.int .i64 turn,.int .i64 left]++Js 93),[⟨true,0,1,true,[.rsl (Qe s.stages) 0 s.stages.length,.rsl (rowI s.worth) 0 s.worth.length,.int .i64 s.price],false⟩,⟨false,1,1,true,[],false⟩,⟨true,g2,1,true,(rowI v2),true⟩,⟨true,0,1,true,[.int .i64 v3_0],true⟩,⟨true,0,1,true,[.int .i64 v4_0,.int .i64 v4_1,.rsl (Qn v4_2) 0 v4_2.length],false⟩]⟩
def f22G1 (E:Env) (s:Stl) (plan:(List Int)) (draws:(List Int)) (turn:Int) (left:Int) (v4_0:Int) (v4_1:Int) (v4_2:(List Trn)) (v3_0:Int) (v2:List Int) (draws1:(List Int)):Prop:=∀ g2:Nat,G Try.prog E (f22K1 Try.prog) (f22S1 s plan draws turn left v4_0 v4_1 v4_2 v3_0 v2 draws1 g2)
theorem p22_start_0 (s:Stl) (plan:(List Int)) (draws:(List Int)) {E:Env} {rv:AV} (hE:Qg Try.prog 22 rv E) (ho:AllP [Qi Try.prog (.clos 66 [] []) [.agg [.rsl (Qe s.stages) 0 s.stages.length,.rsl (rowI s.worth) 0 s.worth.length,.int .i64 s.price],.clos 67 [] [.rptr [.rsl (rowI plan) 0 plan.length] 0]] (.tup [.rptr [.rsl (Qe (((Qf s).s).stages)) 0 ((((Qf s).s).stages).length),.rsl (rowI (((Qf s).s).worth)) 0 ((((Qf s).s).worth).length),.int .i64 (((Qf s).s).price),.rsl (rowI ((Qf s).meas)) 0 (((Qf s).meas).length),.rsl (rowI ((Qf s).mult)) 0 (((Qf s).mult).length)] 0,.int .i64 0]),false=false])
 (hg:G Try.prog E (yN Try.prog) ⟨([J,J,.rsl (rowI draws) 0 draws.length,J,.rptr [.rsl (rowI plan) 0 plan.length] 0,J,.sl 2 0 0 0 1,J,J,.rptr [.rsl (Qe (((Qf s).s).stages)) 0 ((((Qf s).s).stages).length),.rsl (rowI (((Qf s).s).worth)) 0 ((((Qf s).s).worth).length),.int .i64 (((Qf s).s).price),.rsl (rowI ((Qf s).meas)) 0 (((Qf s).meas).length),.rsl (rowI ((Qf s).mult)) 0 (((Qf s).mult).length)] 0,.int .i64 0]++Js 96),[⟨true,0,1,true,[.rsl (Qe s.stages) 0 s.stages.length,.rsl (rowI s.worth) 0 s.worth.length,.int .i64 s.price],false⟩,⟨false,1,1,true,[],false⟩,⟨true,0,1,true,[],true⟩]⟩):G Try.prog E [.code (Qb Try.prog 22)] ⟨[.agg [.rsl (Qe s.stages) 0 s.stages.length,.rsl (rowI s.worth) 0 s.worth.length,.int .i64 s.price],.rsl (rowI plan) 0 plan.length,.rsl (rowI draws) 0 draws.length]++unds (Try.f22.ntmps - 3),[]⟩ :=
 Qh (n:=400) (ds:=[(6,1)]) (cs:=[]) (live:=[2,4,6,9,10]) (m:=3) (evs:=[.wt 4,.v (.tup [.rptr [.rsl (Qe (((Qf s).s).stages)) 0 ((((Qf s).s).stages).length),.rsl (rowI (((Qf s).s).worth)) 0 ((((Qf s).s).worth).length),.int .i64 (((Qf s).s).price),.rsl (rowI ((Qf s).meas)) 0 (((Qf s).meas).length),.rsl (rowI ((Qf s).mult)) 0 (((Qf s).mult).length)] 0,.int .i64 0]),.b false,.stop]) (obs:=_) hE.2.1 (hE.nogh _) Qo (by kernel_rfl) ho hg
theorem p22_start_1 (s:Stl) (plan:(List Int)) (draws:(List Int)) {E:Env} {res:AV} (hE:Qg Try.prog 22 res E) (ho:AllP [Qi Try.prog (.clos 66 [] []) [.agg [.rsl (Qe s.stages) 0 s.stages.length,.rsl (rowI s.worth) 0 s.worth.length,.int .i64 s.price],.clos 67 [] [.rptr [.rsl (rowI plan) 0 plan.length] 0]] (.tup [.nilPtr,.int .i64 1]),true=true])
 (hr:AvLe (.tup [.nilSl,.int .i64 0,.int .i64 1]) res):G Try.prog E [.code (Qb Try.prog 22)] ⟨[.agg [.rsl (Qe s.stages) 0 s.stages.length,.rsl (rowI s.worth) 0 s.worth.length,.int .i64 s.price],.rsl (rowI plan) 0 plan.length,.rsl (rowI draws) 0 draws.length]++unds (Try.f22.ntmps - 3),[]⟩ :=
 Qa (n:=400) (evs:=[.wt 4,.v (.tup [.nilPtr,.int .i64 1]),.b true]) (obs:=_) hE Try.func22 Qo (by kernel_rfl) ho hr
theorem p22_start_2 (s:Stl) (plan:(List Int)) (draws:(List Int)) {E:Env} {res:AV} (hE:Qg Try.prog 22 res E) (ho:AllP [Qi Try.prog (.clos 66 [] []) [.agg [.rsl (Qe s.stages) 0 s.stages.length,.rsl (rowI s.worth) 0 s.worth.length,.int .i64 s.price],.clos 67 [] [.rptr [.rsl (rowI plan) 0 plan.length] 0]] (.tup [.nilPtr,.int .i64 60]),true=true])
 (hr:AvLe (.tup [.nilSl,.int .i64 0,.int .i64 60]) res):G Try.prog E [.code (Qb Try.prog 22)] ⟨[.agg [.rsl (Qe s.stages) 0 s.stages.length,.rsl (rowI s.worth) 0 s.worth.length,.int .i64 s.price],.rsl (rowI plan) 0 plan.length,.rsl (rowI draws) 0 draws.length]++unds (Try.f22.ntmps - 3),[]⟩ :=
 Qa (n:=400) (evs:=[.wt 4,.v (.tup [.nilPtr,.int .i64 60]),.b true]) (obs:=_) hE Try.func22 Qo (by kernel_rfl) ho hr
theorem f22W (s:Stl) (plan:(List Int)) (draws:(List Int)) {E:Env} {rv:((List Int) × Int × Int)} (hE:Qg Try.prog 22 (.tup [.rsl (rowI rv.1) 0 rv.1.length,.int .i64 rv.2.1,.int .i64 rv.2.2]) E)
 (h:((((Xx s).isSome)=true→(((QO (Qf s).s plan)=true→((s.stages.length≤9223372036854775807∧s.worth.length≤9223372036854775807)∧f22G0 E s plan draws 0 ([]) draws))∧((QO (Qf s).s plan)=false→((s.stages.length≤9223372036854775807∧s.worth.length≤9223372036854775807)∧rv=(([]:List Int),0,1)))))∧(((Xx s).isSome)=false→((s.stages.length≤9223372036854775807∧s.worth.length≤9223372036854775807)∧rv=(([]:List Int),0,60))))):G Try.prog E [.code (Qb Try.prog 22)] ⟨[.agg [.rsl (Qe s.stages) 0 s.stages.length,.rsl (rowI s.worth) 0 s.worth.length,.int .i64 s.price],.rsl (rowI plan) 0 plan.length,.rsl (rowI draws) 0 draws.length]++unds (Try.f22.ntmps - 3),[]⟩:=by
 rcases bft ((Xx s).isSome) with hc0 | hc0
 · have h:=h.1 hc0
   rcases bft (QO (Qf s).s plan) with hc1 | hc1
   · have h:=h.1 hc1
     obtain ⟨h1,h⟩:=h
     exact p22_start_0 s plan draws hE ⟨(Qk Try.func66 (by kernel_rfl) yI (begR_T hc0 hc1 ▸ yT s plan h1)),rfl,trivial⟩ (h 0)
   · have h:=h.2 hc1
     obtain ⟨h1,h⟩:=h
     exact p22_start_1 s plan draws hE ⟨(Qk Try.func66 (by kernel_rfl) yI (yR hc0 hc1 ▸ yT s plan h1)),rfl,trivial⟩ (by rw [h]; exact (YI ⟨Yb,⟨AvLe.of_eq rfl,⟨AvLe.of_eq rfl,trivial⟩⟩⟩))
 · have h:=h.2 hc0
   obtain ⟨h1,h⟩:=h
   exact p22_start_2 s plan draws hE ⟨(Qk Try.func66 (by kernel_rfl) yI (yS hc0 ▸ yT s plan h1)),rfl,trivial⟩ (by rw [h]; exact (YI ⟨Yb,⟨AvLe.of_eq rfl,⟨AvLe.of_eq rfl,trivial⟩⟩⟩))
theorem p22_0_0 (s:Stl) (plan:(List Int)) (draws:(List Int)) (at_:Int) (v2:List Int) (draws1:(List Int)) (g2:Nat) (se:Stg) (e:Int) {E:Env} {res:AV} (hE:Qg Try.prog 22 res E) (ho:AllP [0≤at_∧at_<(((((Qf s).s).stages).length:Nat):Int),((Qe (((Qf s).s).stages)).drop ((0+(Int.toNat at_)*3)+0)).take 1=[.int .i64 se.kind],(se.kind != 4)=true,g2=g2,(0+(v2.length*1))=(rowI v2).length,(v2.length+1)≤2147483648,0=0,0≤at_∧at_<(((((Qf s).s).stages).length:Nat):Int),((Qe (((Qf s).s).stages)).drop (0+(Int.toNat at_)*3)).take 3=[.int .i64 se.kind,.int .i64 se.prize,.rsl (Qn se.turns) 0 se.turns.length],3≤3,0≤at_∧at_<(plan.length:Int),((rowI plan).drop (0+(Int.toNat at_)*1)).take 1=[.int .i64 e],(se.kind == 1)=true,((draws1.length:Int) == 0)=true,true=true])
 (hr:AvLe (.tup [.nilSl,.int .i64 0,.int .i64 1]) res):G Try.prog E (yN Try.prog) (f22S0 s plan draws at_ v2 draws1 g2) :=
 Qa (n:=400) (evs:=[.auto,.ld (.int .i64 se.kind),.b true,.auto,.ld (.agg [.int .i64 se.kind,.int .i64 se.prize,.rsl (Qn se.turns) 0 se.turns.length]),.auto,.ld (.int .i64 e),.b true,.b true,.b true]) (obs:=_) hE Try.func22 Qo (by kernel_rfl) ho hr
theorem p22_0_1 (s:Stl) (plan:(List Int)) (draws:(List Int)) (at_:Int) (v2:List Int) (draws1:(List Int)) (g2:Nat) (se:Stg) (e:Int) (e1:Int) {E:Env} {res:AV} (hE:Qg Try.prog 22 res E) (ho:AllP [0≤at_∧at_<(((((Qf s).s).stages).length:Nat):Int),((Qe (((Qf s).s).stages)).drop ((0+(Int.toNat at_)*3)+0)).take 1=[.int .i64 se.kind],(se.kind != 4)=true,g2=g2,(0+(v2.length*1))=(rowI v2).length,(v2.length+1)≤2147483648,0=0,0≤at_∧at_<(((((Qf s).s).stages).length:Nat):Int),((Qe (((Qf s).s).stages)).drop (0+(Int.toNat at_)*3)).take 3=[.int .i64 se.kind,.int .i64 se.prize,.rsl (Qn se.turns) 0 se.turns.length],3≤3,0≤at_∧at_<(plan.length:Int),((rowI plan).drop (0+(Int.toNat at_)*1)).take 1=[.int .i64 e],(se.kind == 1)=true,((draws1.length:Int) == 0)=false,(0:Int)≤0∧(0:Int)<(draws1.length:Int),((rowI draws1).drop (0+0*1)).take 1=[.int .i64 e1],Qi Try.prog (.clos 70 [] []) [.agg [.int .i64 se.kind,.int .i64 se.prize,.rsl (Qn se.turns) 0 se.turns.length]] (.int .i64 (totI se)),InR .i64 ((totI se) - 1),Qi Try.prog (.clos 69 [] []) [.int .i64 e1,.int .i64 0,.int .i64 ((totI se) - 1)] (.bool (Qd e1 0 ((totI se) - 1))),(!(Qd e1 0 ((totI se) - 1)))=true])
 (hr:AvLe (.tup [.nilSl,.int .i64 0,.int .i64 1]) res):G Try.prog E (yN Try.prog) (f22S0 s plan draws at_ v2 draws1 g2) :=
 Qa (n:=400) (evs:=[.auto,.ld (.int .i64 se.kind),.b true,.auto,.ld (.agg [.int .i64 se.kind,.int .i64 se.prize,.rsl (Qn se.turns) 0 se.turns.length]),.auto,.ld (.int .i64 e),.b true,.b false,.ld (.int .i64 e1),.v (.int .i64 (totI se)),.v (.bool (Qd e1 0 ((totI se) - 1))),.b true]) (obs:=_) hE Try.func22 Qo (by kernel_rfl) ho hr
theorem p22_0_2 (s:Stl) (plan:(List Int)) (draws:(List Int)) (at_:Int) (v2:List Int) (draws1:(List Int)) (g2:Nat) (se:Stg) (e:Int) (e1:Int) {E:Env} {rv:AV} (hE:Qg Try.prog 22 rv E) (ho:AllP [0≤at_∧at_<(((((Qf s).s).stages).length:Nat):Int),((Qe (((Qf s).s).stages)).drop ((0+(Int.toNat at_)*3)+0)).take 1=[.int .i64 se.kind],(se.kind != 4)=true,g2=g2,(0+(v2.length*1))=(rowI v2).length,(v2.length+1)≤2147483648,0=0,0≤at_∧at_<(((((Qf s).s).stages).length:Nat):Int),((Qe (((Qf s).s).stages)).drop (0+(Int.toNat at_)*3)).take 3=[.int .i64 se.kind,.int .i64 se.prize,.rsl (Qn se.turns) 0 se.turns.length],3≤3,0≤at_∧at_<(plan.length:Int),((rowI plan).drop (0+(Int.toNat at_)*1)).take 1=[.int .i64 e],(se.kind == 1)=true,((draws1.length:Int) == 0)=false,(0:Int)≤0∧(0:Int)<(draws1.length:Int),((rowI draws1).drop (0+0*1)).take 1=[.int .i64 e1],Qi Try.prog (.clos 70 [] []) [.agg [.int .i64 se.kind,.int .i64 se.prize,.rsl (Qn se.turns) 0 se.turns.length]] (.int .i64 (totI se)),InR .i64 ((totI se) - 1),Qi Try.prog (.clos 69 [] []) [.int .i64 e1,.int .i64 0,.int .i64 ((totI se) - 1)] (.bool (Qd e1 0 ((totI se) - 1))),(!(Qd e1 0 ((totI se) - 1)))=false,(0:Int)≤0∧(0:Int)<(draws1.length:Int),((rowI draws1).drop (0+0*1)).take 1=[.int .i64 e1]])
 (hg:G Try.prog E (f22K1 Try.prog) ⟨([J,J,.rsl (rowI draws1) 0 draws1.length,J,.rptr [.rsl (rowI plan) 0 plan.length] 0,J,.sl 2 (g2+1) 0 (v2.length+1) 1,J,J,.rptr [.rsl (Qe (((Qf s).s).stages)) 0 ((((Qf s).s).stages).length),.rsl (rowI (((Qf s).s).worth)) 0 ((((Qf s).s).worth).length),.int .i64 (((Qf s).s).price),.rsl (rowI ((Qf s).meas)) 0 (((Qf s).meas).length),.rsl (rowI ((Qf s).mult)) 0 (((Qf s).mult).length)] 0,J,.ptr 4 0 0,.int .i64 e,.int .i64 e1]++Js 93),[⟨true,0,1,true,[.rsl (Qe s.stages) 0 s.stages.length,.rsl (rowI s.worth) 0 s.worth.length,.int .i64 s.price],false⟩,⟨false,1,1,true,[],false⟩,⟨true,(g2+1),1,true,((rowI v2)++[.int .i64 at_]),true⟩,⟨true,0,1,true,[.int .i64 at_],true⟩,⟨true,0,1,true,[.int .i64 se.kind,.int .i64 se.prize,.rsl (Qn se.turns) 0 se.turns.length],false⟩]⟩):G Try.prog E (yN Try.prog) (f22S0 s plan draws at_ v2 draws1 g2) :=
 Qh (n:=400) (ds:=[]) (cs:=[]) (live:=[2,4,6,9,11,12,13]) (m:=5) (evs:=[.auto,.ld (.int .i64 se.kind),.b true,.auto,.ld (.agg [.int .i64 se.kind,.int .i64 se.prize,.rsl (Qn se.turns) 0 se.turns.length]),.auto,.ld (.int .i64 e),.b true,.b false,.ld (.int .i64 e1),.v (.int .i64 (totI se)),.v (.bool (Qd e1 0 ((totI se) - 1))),.b false,.ld (.int .i64 e1),.stop]) (obs:=_) hE.2.1 (hE.nogh _) Qo (by kernel_rfl) ho hg
theorem p22_0_3 (s:Stl) (plan:(List Int)) (draws:(List Int)) (at_:Int) (v2:List Int) (draws1:(List Int)) (g2:Nat) (se:Stg) (e:Int) (te:Trn) {E:Env} {rv:AV} (hE:Qg Try.prog 22 rv E) (ho:AllP [0≤at_∧at_<(((((Qf s).s).stages).length:Nat):Int),((Qe (((Qf s).s).stages)).drop ((0+(Int.toNat at_)*3)+0)).take 1=[.int .i64 se.kind],(se.kind != 4)=true,g2=g2,(0+(v2.length*1))=(rowI v2).length,(v2.length+1)≤2147483648,0=0,0≤at_∧at_<(((((Qf s).s).stages).length:Nat):Int),((Qe (((Qf s).s).stages)).drop (0+(Int.toNat at_)*3)).take 3=[.int .i64 se.kind,.int .i64 se.prize,.rsl (Qn se.turns) 0 se.turns.length],3≤3,0≤at_∧at_<(plan.length:Int),((rowI plan).drop (0+(Int.toNat at_)*1)).take 1=[.int .i64 e],(se.kind == 1)=false,0≤e∧e<(se.turns.length:Int),((Qn se.turns).drop ((0+(Int.toNat e)*2)+1)).take 1=[.int .i64 te.to]])
 (hg:G Try.prog E (yN Try.prog) ⟨([J,J,.rsl (rowI draws1) 0 draws1.length,J,.rptr [.rsl (rowI plan) 0 plan.length] 0,J,.sl 2 (g2+1) 0 (v2.length+1) 1,J,J,.rptr [.rsl (Qe (((Qf s).s).stages)) 0 ((((Qf s).s).stages).length),.rsl (rowI (((Qf s).s).worth)) 0 ((((Qf s).s).worth).length),.int .i64 (((Qf s).s).price),.rsl (rowI ((Qf s).meas)) 0 (((Qf s).meas).length),.rsl (rowI ((Qf s).mult)) 0 (((Qf s).mult).length)] 0,.int .i64 te.to]++Js 96),[⟨true,0,1,true,[.rsl (Qe s.stages) 0 s.stages.length,.rsl (rowI s.worth) 0 s.worth.length,.int .i64 s.price],false⟩,⟨false,1,1,true,[],false⟩,⟨true,(g2+1),1,true,((rowI v2)++[.int .i64 at_]),true⟩]⟩):G Try.prog E (yN Try.prog) (f22S0 s plan draws at_ v2 draws1 g2) :=
 Qh (n:=400) (ds:=[]) (cs:=[]) (live:=[2,4,6,9,10]) (m:=3) (evs:=[.auto,.ld (.int .i64 se.kind),.b true,.auto,.ld (.agg [.int .i64 se.kind,.int .i64 se.prize,.rsl (Qn se.turns) 0 se.turns.length]),.auto,.ld (.int .i64 e),.b false,.auto,.ld (.int .i64 te.to),.stop]) (obs:=_) hE.2.1 (hE.nogh _) Qo (by kernel_rfl) ho hg
theorem p22_0_4 (s:Stl) (plan:(List Int)) (draws:(List Int)) (at_:Int) (v2:List Int) (draws1:(List Int)) (g2:Nat) (se:Stg) {E:Env} {res:AV} (hE:Qg Try.prog 22 res E) (ho:AllP [0≤at_∧at_<(((((Qf s).s).stages).length:Nat):Int),((Qe (((Qf s).s).stages)).drop ((0+(Int.toNat at_)*3)+0)).take 1=[.int .i64 se.kind],(se.kind != 4)=false,g2=g2,(0+(v2.length*1))=(rowI v2).length,(v2.length+1)≤2147483648,0=0,0≤at_∧at_<(((((Qf s).s).stages).length:Nat):Int),((Qe (((Qf s).s).stages)).drop ((0+(Int.toNat at_)*3)+1)).take 1=[.int .i64 se.prize],(g2+1)=(g2+1)])
 (hr:AvLe (.tup [.rsl ((rowI v2)++[.int .i64 at_]) 0 (v2.length+1),.int .i64 se.prize,.int .i64 0]) res):G Try.prog E (yN Try.prog) (f22S0 s plan draws at_ v2 draws1 g2) :=
 Qa (n:=400) (evs:=[.auto,.ld (.int .i64 se.kind),.b false,.auto,.ld (.int .i64 se.prize)]) (obs:=_) hE Try.func22 Qo (by kernel_rfl) ho hr
theorem f22W0 (s:Stl) (plan:(List Int)) (draws:(List Int)) (at_:Int) (v2:List Int) (draws1:(List Int)) {E:Env} {rv:((List Int) × Int × Int)} (hE:Qg Try.prog 22 (.tup [.rsl (rowI rv.1) 0 rv.1.length,.int .i64 rv.2.1,.int .i64 rv.2.2]) E)
 (h:(0≤at_∧(∃ se:Stg,(((Qf s).s).stages)[Int.toNat at_]?=some se∧((¬ (se.kind=4)→((v2.length+1)≤2147483648∧(0≤at_∧(∃ e:Int,plan[Int.toNat at_]?=some e∧((se.kind=1→(((draws1.length:Int)=0→rv=(([]:List Int),0,1))∧(¬ ((draws1.length:Int)=0)→(∃ e1:Int,draws1[0]?=some e1∧((TotOk se)∧((I6 ((totI se) - 1))∧(((Qd e1 0 ((totI se) - 1))=false→rv=(([]:List Int),0,1))∧((Qd e1 0 ((totI se) - 1))=true→f22G1 E s plan draws e e1 se.kind se.prize se.turns at_ (v2++[at_]) draws1))))))))∧(¬ (se.kind=1)→(0≤e∧(∃ te:Trn,se.turns[Int.toNat e]?=some te∧f22G0 E s plan draws te.to (v2++[at_]) draws1))))))))∧(se.kind=4→((v2.length+1)≤2147483648∧rv=((v2++[at_]),se.prize,0))))))):f22G0 E s plan draws at_ v2 draws1:=by
 intro g2
 obtain ⟨h2,h⟩:=h
 obtain ⟨se,h1,h⟩:=h
 rcases bft (se.kind != 4) with hc0 | hc0
 · have h:=h.1 (bneT hc0)
   obtain ⟨h3,h⟩:=h
   obtain ⟨h5,h⟩:=h
   obtain ⟨e,h4,h⟩:=h
   rcases bft (se.kind == 1) with hc1 | hc1
   · have h:=h.1 (eq_of_beq hc1)
     rcases bft ((draws1.length:Int) == 0) with hc2 | hc2
     · have h:=h.1 (eq_of_beq hc2)
       exact p22_0_0 s plan draws at_ v2 draws1 g2 se e hE ⟨(Qm h2 h1),(rp cStg 3 0 1 h1),hc0,rfl,(by have hx:=QW cI (s:=1) (fun _=>rfl) v2; simp only [rowI] at hx ⊢; rw [hx]; simp),h3,rfl,(Qm h2 h1),(rp cStg 3 0 3 h1),(by decide),(Qm h5 h4),(rp cI 1 0 1 h4),hc1,hc2,rfl,trivial⟩ (by rw [h]; exact (YI ⟨Yb,⟨AvLe.of_eq rfl,⟨AvLe.of_eq rfl,trivial⟩⟩⟩))
     · have h:=h.2 (ne_of_beq_false hc2)
       obtain ⟨e1,h6,h⟩:=h
       obtain ⟨h7,h⟩:=h
       obtain ⟨q20_3,h⟩:=h
       rcases bft (!(Qd e1 0 ((totI se) - 1))) with hc3 | hc3
       · have h:=h.1 (bnT hc3)
         exact p22_0_1 s plan draws at_ v2 draws1 g2 se e e1 hE ⟨(Qm h2 h1),(rp cStg 3 0 1 h1),hc0,rfl,(by have hx:=QW cI (s:=1) (fun _=>rfl) v2; simp only [rowI] at hx ⊢; rw [hx]; simp),h3,rfl,(Qm h2 h1),(rp cStg 3 0 3 h1),(by decide),(Qm h5 h4),(rp cI 1 0 1 h4),hc1,hc2,(Qq h6),(rp cI 1 0 1 h6),(u70 (yd se h7)),q20_3,(u69 (Qx e1 0 ((totI se) - 1))),hc3,trivial⟩ (by rw [h]; exact (YI ⟨Yb,⟨AvLe.of_eq rfl,⟨AvLe.of_eq rfl,trivial⟩⟩⟩))
       · have h:=h.2 (bnF hc3)
         refine p22_0_2 s plan draws at_ v2 draws1 g2 se e e1 hE ⟨(Qm h2 h1),(rp cStg 3 0 1 h1),hc0,rfl,(by have hx:=QW cI (s:=1) (fun _=>rfl) v2; simp only [rowI] at hx ⊢; rw [hx]; simp),h3,rfl,(Qm h2 h1),(rp cStg 3 0 3 h1),(by decide),(Qm h5 h4),(rp cI 1 0 1 h4),hc1,hc2,(Qq h6),(rp cI 1 0 1 h6),(u70 (yd se h7)),q20_3,(u69 (Qx e1 0 ((totI se) - 1))),hc3,(Qq h6),(rp cI 1 0 1 h6),trivial⟩ ?_
         rw [(show rowI v2++[.int .i64 at_]=rowI (v2++[at_]) from (yn cI v2 [at_]).symm)]; rw [(show (v2.length+1)=(v2++[at_]).length from by simp)]; exact (h (g2+1))
   · have h:=h.2 (ne_of_beq_false hc1)
     obtain ⟨h7,h⟩:=h
     obtain ⟨te,h6,h⟩:=h
     refine p22_0_3 s plan draws at_ v2 draws1 g2 se e te hE ⟨(Qm h2 h1),(rp cStg 3 0 1 h1),hc0,rfl,(by have hx:=QW cI (s:=1) (fun _=>rfl) v2; simp only [rowI] at hx ⊢; rw [hx]; simp),h3,rfl,(Qm h2 h1),(rp cStg 3 0 3 h1),(by decide),(Qm h5 h4),(rp cI 1 0 1 h4),hc1,(Qm h7 h6),(rp cTrn 2 1 1 h6),trivial⟩ ?_
     rw [(show rowI v2++[.int .i64 at_]=rowI (v2++[at_]) from (yn cI v2 [at_]).symm)]; rw [(show (v2.length+1)=(v2++[at_]).length from by simp)]; exact (h (g2+1))
 · have h:=h.2 (bneF hc0)
   obtain ⟨h3,h⟩:=h
   exact p22_0_4 s plan draws at_ v2 draws1 g2 se hE ⟨(Qm h2 h1),(rp cStg 3 0 1 h1),hc0,rfl,(by have hx:=QW cI (s:=1) (fun _=>rfl) v2; simp only [rowI] at hx ⊢; rw [hx]; simp),h3,rfl,(Qm h2 h1),(rp cStg 3 1 1 h1),rfl,trivial⟩ (AvLe.of_eq (by rw [h]; rw [(show AV.rsl ((rowI v2)++[.int .i64 at_]) 0 (v2.length+1)=AV.rsl (rowI (v2++[at_])) 0 (v2++[at_]).length from by rw [(show rowI v2++[.int .i64 at_]=rowI (v2++[at_]) from (yn cI v2 [at_]).symm)]; rw [show (v2.length+1)=(v2++[at_]).length from by simp])]; try rfl))
theorem p22_1_0 (s:Stl) (plan:(List Int)) (draws:(List Int)) (turn:Int) (left:Int) (v4_0:Int) (v4_1:Int) (v4_2:(List Trn)) (v3_0:Int) (v2:List Int) (draws1:(List Int)) (g2:Nat) (te:Trn) {E:Env} {rv:AV} (hE:Qg Try.prog 22 rv E) (ho:AllP [0≤turn∧turn<(v4_2.length:Int),((Qn v4_2).drop ((0+(Int.toNat turn)*2)+0)).take 1=[.int .i64 te.w],(decide (left≥te.w))=true,0≤turn∧turn<(v4_2.length:Int),((Qn v4_2).drop ((0+(Int.toNat turn)*2)+0)).take 1=[.int .i64 te.w],InR .i64 (left - te.w),InR .i64 (turn+1)])
 (hg:G Try.prog E (f22K1 Try.prog) ⟨([J,J,.rsl (rowI draws1) 0 draws1.length,J,.rptr [.rsl (rowI plan) 0 plan.length] 0,J,.sl 2 g2 0 v2.length 1,J,J,.rptr [.rsl (Qe (((Qf s).s).stages)) 0 ((((Qf s).s).stages).length),.rsl (rowI (((Qf s).s).worth)) 0 ((((Qf s).s).worth).length),.int .i64 (((Qf s).s).price),.rsl (rowI ((Qf s).meas)) 0 (((Qf s).meas).length),.rsl (rowI ((Qf s).mult)) 0 (((Qf s).mult).length)] 0,J,.ptr 4 0 0,.int .i64 (turn+1),.int .i64 (left - te.w)]++Js 93),[⟨true,0,1,true,[.rsl (Qe s.stages) 0 s.stages.length,.rsl (rowI s.worth) 0 s.worth.length,.int .i64 s.price],false⟩,⟨false,1,1,true,[],false⟩,⟨true,g2,1,true,(rowI v2),true⟩,⟨true,0,1,true,[.int .i64 v3_0],true⟩,⟨true,0,1,true,[.int .i64 v4_0,.int .i64 v4_1,.rsl (Qn v4_2) 0 v4_2.length],false⟩]⟩):G Try.prog E (f22K1 Try.prog) (f22S1 s plan draws turn left v4_0 v4_1 v4_2 v3_0 v2 draws1 g2) :=
 Qh (n:=400) (ds:=[]) (cs:=[]) (live:=[2,4,6,9,11,12,13]) (m:=5) (evs:=[.auto,.ld (.int .i64 te.w),.b true,.auto,.ld (.int .i64 te.w),.stop]) (obs:=_) hE.2.1 (hE.nogh _) Qo (by kernel_rfl) ho hg
theorem p22_1_1 (s:Stl) (plan:(List Int)) (draws:(List Int)) (turn:Int) (left:Int) (v4_0:Int) (v4_1:Int) (v4_2:(List Trn)) (v3_0:Int) (v2:List Int) (draws1:(List Int)) (g2:Nat) (te:Trn) {E:Env} {rv:AV} (hE:Qg Try.prog 22 rv E) (ho:AllP [0≤turn∧turn<(v4_2.length:Int),((Qn v4_2).drop ((0+(Int.toNat turn)*2)+0)).take 1=[.int .i64 te.w],(decide (left≥te.w))=false,1≤draws1.length,draws1.length≤draws1.length,(0:Int)≤1,0≤turn∧turn<(v4_2.length:Int),((Qn v4_2).drop ((0+(Int.toNat turn)*2)+1)).take 1=[.int .i64 te.to]])
 (hg:G Try.prog E (yN Try.prog) ⟨([J,J,.rsl (rowI draws1) 1 (draws1.length - 1),J,.rptr [.rsl (rowI plan) 0 plan.length] 0,J,.sl 2 g2 0 v2.length 1,J,J,.rptr [.rsl (Qe (((Qf s).s).stages)) 0 ((((Qf s).s).stages).length),.rsl (rowI (((Qf s).s).worth)) 0 ((((Qf s).s).worth).length),.int .i64 (((Qf s).s).price),.rsl (rowI ((Qf s).meas)) 0 (((Qf s).meas).length),.rsl (rowI ((Qf s).mult)) 0 (((Qf s).mult).length)] 0,.int .i64 te.to]++Js 96),[⟨true,0,1,true,[.rsl (Qe s.stages) 0 s.stages.length,.rsl (rowI s.worth) 0 s.worth.length,.int .i64 s.price],false⟩,⟨false,1,1,true,[],false⟩,⟨true,g2,1,true,(rowI v2),true⟩]⟩):G Try.prog E (f22K1 Try.prog) (f22S1 s plan draws turn left v4_0 v4_1 v4_2 v3_0 v2 draws1 g2) :=
 Qh (n:=400) (ds:=[]) (cs:=[]) (live:=[2,4,6,9,10]) (m:=3) (evs:=[.auto,.ld (.int .i64 te.w),.b false,.auto,.ld (.int .i64 te.to),.stop]) (obs:=_) hE.2.1 (hE.nogh _) Qo (by kernel_rfl) ho hg
theorem f22W1 (s:Stl) (plan:(List Int)) (draws:(List Int)) (turn:Int) (left:Int) (v4_0:Int) (v4_1:Int) (v4_2:(List Trn)) (v3_0:Int) (v2:List Int) (draws1:(List Int)) {E:Env} {rv:((List Int) × Int × Int)} (hE:Qg Try.prog 22 (.tup [.rsl (rowI rv.1) 0 rv.1.length,.int .i64 rv.2.1,.int .i64 rv.2.2]) E)
 (h:(0≤turn∧(∃ te:Trn,v4_2[Int.toNat turn]?=some te∧((left≥te.w→((I6 (left - te.w))∧((I6 (turn+1))∧f22G1 E s plan draws (turn+1) (left - te.w) v4_0 v4_1 v4_2 v3_0 v2 draws1)))∧(¬ (left≥te.w)→(1≤draws1.length∧f22G0 E s plan draws te.to v2 (draws1.drop 1))))))):f22G1 E s plan draws turn left v4_0 v4_1 v4_2 v3_0 v2 draws1:=by
 intro g2
 obtain ⟨h2,h⟩:=h
 obtain ⟨te,h1,h⟩:=h
 rcases bft (decide (left≥te.w)) with hc0 | hc0
 · have h:=h.1 (odt hc0)
   obtain ⟨q6_1,h⟩:=h
   obtain ⟨q7_1,h⟩:=h
   exact p22_1_0 s plan draws turn left v4_0 v4_1 v4_2 v3_0 v2 draws1 g2 te hE ⟨(Qm h2 h1),(rp cTrn 2 0 1 h1),hc0,(Qm h2 h1),(rp cTrn 2 0 1 h1),q6_1,q7_1,trivial⟩ (h g2)
 · have h:=h.2 (odf hc0)
   obtain ⟨q4_1,h⟩:=h
   refine p22_1_1 s plan draws turn left v4_0 v4_1 v4_2 v3_0 v2 draws1 g2 te hE ⟨(Qm h2 h1),(rp cTrn 2 0 1 h1),hc0,q4_1,(Nat.le_refl _),(by decide),(Qm h2 h1),(rp cTrn 2 1 1 h1),trivial⟩ ?_
   refine YV (t:=2) (v':=.rsl (rowI (draws1.drop 1)) 0 ((draws1.drop 1).length)) rfl rfl rfl (by exact yl cI (s:=1) (fun _=>rfl) 1 (by omega) (by first | rfl | omega | simp)) ?_
   simp only [List.set_cons_succ,List.set_cons_zero]
   skip; exact (h g2)
theorem play_ok (s:Stl) (plan draws:List Int) (h:(s.stages.length≤9223372036854775807∧s.worth.length≤9223372036854775807)):Pure Try.prog 22 [avStl s,.rsl (rowI plan) 0 plan.length,.rsl (rowI draws) 0 draws.length] (.tup [.rsl (rowI (QY s plan draws).1) 0 (QY s plan draws).1.length,.int .i64 (QY s plan draws).2.1,.int .i64 (QY s plan draws).2.2]):=Qs Try.func22 f22b fun E hE=>by
 have main:WE s plan=0→f22G0 E s plan draws 0 [] draws:=by
  intro he
  obtain ⟨hc,hpl⟩:=planE_of he
  obtain ⟨hm,es⟩:=Vr (Xs hc)
  have hform:=(QH hm.st).2.2.2.2
  have hn:=(QH hm.st).1
  rw [es] at hform hn
  have hrv:QY s plan draws=YK s plan s.stages.length 0 [] draws:=by rw [QY,if_pos he]
  have key:∀ (n:Nat) (at_:Int) (v ds:List Int) ,0≤at_→at_<(s.stages.length:Int)→(s.stages.length:Int)≤at_+n→(v.length:Int)≤at_→QY s plan draws=YK s plan n at_ v ds→f22G0 E s plan draws at_ v ds:=by
   intro n
   induction n with
   | zero=>intro at_ v ds h0 h1 h2 h3 h4; omega
   | succ n ih =>
    intro at_ v ds h0 h1 h2 h3 h4
    have hi:s.stages[Int.toNat at_]?=some s.stages[Int.toNat at_]:=List.getElem?_eq_getElem (by omega)
    have hx:s.stages.getD (Int.toNat at_) ⟨0,0,[]⟩=s.stages[Int.toNat at_]:=by simp [List.getD,hi]
    have hto:=YA hi (hform _ (by omega))
    have htt:=tot_of hi (hform _ (by omega))
    have hfo:=Yc hi (hform _ (by omega))
    obtain ⟨e,hpe,he0,he1⟩:=(WD hpl).2 _ _ hi
    have hpi:planI plan at_=e:=by simp [planI,List.getD,hpe]
    unfold YK at h4
    rw [hx,hpi] at h4
    generalize s.stages[Int.toNat at_]=x at hi hto htt hfo he1 h4
    have nx:=fun (t:Trn) (ht:t ∈ x.turns) (ds':List Int) (h5:QY s plan draws=YK s plan n t.to (v++[at_]) ds')=>ih t.to (v++[at_]) ds' (by have:=hto t ht; omega) (by have:=hto t ht; omega) (by have:=hto t ht; omega) (by have:=hto t ht; simp; omega) h5
    refine f22W0 s plan draws at_ v ds (rv:=QY s plan draws) hE ⟨h0,x,by rw [es]; exact hi,fun k4=>?_,fun h4'=>⟨by omega,?_⟩⟩
    · rw [if_neg k4] at h4
      refine ⟨by omega,h0,e,hpe,fun k1=>?_,fun k1=>?_⟩
      · rw [if_pos k1] at h4
        have hz:e=0:=by rw [Xe,if_neg (by omega)] at he1; omega
        have hto2:=htt.2 k1
        cases ds with
        | nil=>exact ⟨fun _=>h4,fun h=>absurd rfl h⟩
        | cons d ds =>
        simp only at h4
        refine ⟨fun h=>by simp at h; omega,fun _=>⟨d,rfl,htt.1,by omega,fun hw=>?_,fun hw=>?_⟩⟩
        · rw [hw] at h4; exact h4
        rw [if_pos hw] at h4
        have hwd:=Qz.1 hw
        have hmem:=Vy (ts:=x.turns) (d:=d) hwd.1 (by have:=hwd.2; rw [totI] at this; omega)
        have loop:∀ (m k:Nat) (left:Int),k+m=x.turns.length→0≤left→left<((x.turns.drop k).map (·.w)).sum→drawT (x.turns.drop k) left=drawT x.turns d→f22G1 E s plan draws (k:Int) left x.kind x.prize x.turns at_ (v++[at_]) (d :: ds):=by
         intro m
         induction m with
         | zero =>
          intro k left hk hl0 hl1 hd
          rw [List.drop_eq_nil_of_le (by omega)] at hl1; simp at hl1; omega
         | succ m ih2 =>
          intro k left hk hl0 hl1 hd
          have hkk:x.turns[k]?=some x.turns[k]:=List.getElem?_eq_getElem (by omega)
          have htm:=List.mem_of_getElem? hkk
          rw [List.drop_eq_getElem_cons (by omega)] at hl1 hd
          simp only [List.map_cons,List.sum_cons,drawT] at hl1 hd
          generalize x.turns[k]=te at hkk htm hl1 hd
          have hw:=htt.1.2 te htm
          have htl:=htt.1.1
          have hlb:left≤1000000000:=by
           have:=tot_bd (l:=x.turns.drop (k+1)) (B:=1000000) fun t ht=>htt.1.2 t (List.mem_of_mem_drop ht)
           have h9:((x.turns.drop (k+1)).length:Int)≤998:=by rw [List.length_drop]; rcases hfo with ⟨q,-⟩ | ⟨-,-,q,-⟩ <;> omega
           omega
          refine f22W1 s plan draws (k:Int) left x.kind x.prize x.turns at_ (v++[at_]) (d :: ds) (rv:=QY s plan draws) hE ⟨by omega,te,by rw [Int.toNat_natCast]; exact hkk,fun hge=>⟨by omega,by omega,?_⟩,fun hge=>⟨by simp,?_⟩⟩
          · rw [if_pos hge] at hd
            exact ih2 (k+1) (left - te.w) (by omega) (by omega) (by omega) hd
          · rw [if_neg hge] at hd
            rw [← hd] at h4
            exact nx te htm ds h4
        rw [hz]
        exact loop x.turns.length 0 d (by omega) hwd.1 (by have:=hwd.2; rw [totI] at this; simpa using (by omega:d<(x.turns.map (·.w)).sum)) (by simp)
      · rw [if_neg k1] at h4
        have hel:Int.toNat e<x.turns.length:=by
         rcases hfo with ⟨q,-⟩ | ⟨q0,-,q,-⟩
         · exact absurd q k4
         · rw [Xe,if_pos (by omega)] at he1; omega
        have hte:x.turns[Int.toNat e]?=some x.turns[Int.toNat e]:=List.getElem?_eq_getElem hel
        rw [show x.turns.getD (Int.toNat e) ⟨0,0⟩=x.turns[Int.toNat e] by simp [List.getD,hte]] at h4
        have htm:=List.mem_of_getElem? hte
        generalize x.turns[Int.toNat e]=te at hte htm h4
        exact ⟨he0,te,hte,nx te htm ds h4⟩
    · rw [if_pos h4'] at h4
      exact h4
  exact key s.stages.length 0 [] draws (by omega) (by omega) (by omega) (by simp) hrv
 refine f22W s plan draws (rv:=QY s plan draws) hE ⟨fun h0=>⟨fun h1=>⟨h,main ?_⟩,fun h1=>⟨h,?_⟩⟩,fun h0=>⟨h,?_⟩⟩
 · rw [planE_eq h0,if_pos h1]
 · have he:WE s plan=1:=by rw [planE_eq h0,if_neg (by rw [h1]; simp)]
   rw [QY,if_neg (by omega),he]
 · have he:WE s plan=60:=by rw [WE,if_neg (fun h=>by rw [Yu.2 h] at h0; cases h0)]
   rw [QY,if_neg (by omega),he]
end Go.Proofs.Ytemklbioijmjiaa
namespace Go.Proofs.Ytemklbioijmjiaa
open Go Ax
open Go.Proofs
theorem getB_ge {l:List Bool} {i:Nat} (h:l.length≤i):l.getD i false=false:=by simp [List.getD,List.getElem?_eq_none h]
/-! ### Fractions in parts of the measure -/
end Go.Proofs.Ytemklbioijmjiaa
namespace Go.Proofs.Ytemklbioijmjiaa
open Go Ax
open Go.Proofs
/-! ### Printed -/
/-! ### Handed -/
theorem play_reach {s : Stl} (hc : XS s = 0) {plan : List Int} (hpl : QO s plan = true) : ∀ (n : Nat) (at_ : Int) (v ds : List Int), 0 ≤ at_ → at_ < (s.stages.length : Int) → (s.stages.length : Int) ≤ at_ + n → (VZ s).getD (Int.toNat at_) false = true → (YK s plan n at_ v ds).2.2 = 0 →
    ∃ i x, s.stages[i]? = some x ∧ x.kind = 4 ∧ (VZ s).getD i false = true ∧ (YK s plan n at_ v ds).2.1 = x.prize := by
  obtain ⟨hm, es⟩ := Vr (Xs hc)
  have hform := (QH hm.st).2.2.2.2
  rw [es] at hform
  intro n
  induction n with
  | zero => intro at_ v ds h0 h1 h2; omega
  | succ n ih =>
    intro at_ v ds h0 h1 h2 hr h3
    have hi : s.stages[Int.toNat at_]? = some s.stages[Int.toNat at_] := List.getElem?_eq_getElem (by omega)
    have hx : s.stages.getD (Int.toNat at_) ⟨0, 0, []⟩ = s.stages[Int.toNat at_] := by simp [List.getD, hi]
    have hto := YA hi (hform _ (by omega))
    have htt := tot_of hi (hform _ (by omega))
    have hfo := Yc hi (hform _ (by omega))
    obtain ⟨e, hpe, he0, he1⟩ := (WD hpl).2 _ _ hi
    have hpi : planI plan at_ = e := by simp [planI, List.getD, hpe]
    -- where its turns lead can be reached
    have hnext : ∀ t ∈ s.stages[Int.toNat at_].turns, (VZ s).getD (Int.toNat t.to) false = true := by
      intro t ht
      have h5 := hto t ht
      have h6 := Vg hform (j := Int.toNat t.to) (d := s.stages.length - Int.toNat t.to)
      rw [Vl hform (by omega)]
      rw [Vl hform (by omega)] at hr
      have h7 : (Xr s (Int.toNat at_ + 1)).getD (Int.toNat t.to) false = true := by
        simp only [Xr]
        rw [if_pos hr, hx]
        have hlen : Int.toNat t.to < (Xr s (Int.toNat at_)).length := by rw [YX]; exact h5.2.1
        have mark : ∀ (ts : List Trn) (r : List Bool) (j : Nat), j < r.length → ((∃ t ∈ ts, Int.toNat t.to = j) ∨ r.getD j false = true) → (Vs r ts).getD j false = true := by
          intro ts
          induction ts with
          | nil => intro r j hj h; rcases h with ⟨t, ht, -⟩ | h; · simp at ht
                   · exact h
          | cons a ts ih =>
            intro r j hj h
            simp only [Vs]
            refine ih _ _ (by rw [List.length_set]; exact hj) ?_
            by_cases e : Int.toNat a.to = j
            · right; subst e; simp [List.getD, List.getElem?_set_self hj]
            · rcases h with ⟨t, ht, h⟩ | h
              · rcases List.mem_cons.1 ht with rfl | ht
                · exact absurd h e
                · exact .inl ⟨t, ht, h⟩
              · right; simp only [List.getD, List.getElem?_set_ne e]; exact h
        exact mark _ _ _ hlen (.inl ⟨t, ht, rfl⟩)
      -- it stays so
      have stay : ∀ d, (Xr s (Int.toNat at_ + 1 + d)).getD (Int.toNat t.to) false = true := by
        intro d
        induction d with
        | zero => exact h7
        | succ d ih =>
          rw [show Int.toNat at_ + 1 + (d + 1) = (Int.toNat at_ + 1 + d) + 1 by omega]
          simp only [Xr]
          split
          · have mono : ∀ (ts : List Trn) (r : List Bool) (j : Nat), r.getD j false = true → (Vs r ts).getD j false = true := by
              intro ts
              induction ts with
              | nil => intro r j h; exact h
              | cons a ts ih =>
                intro r j h
                simp only [Vs]
                refine ih _ _ ?_
                have hj : j < r.length := by
                  apply Classical.byContradiction
                  intro hh
                  rw [getB_ge (by omega)] at h; cases h
                by_cases e : Int.toNat a.to = j
                · subst e; simp [List.getD, List.getElem?_set_self hj]
                · simp only [List.getD, List.getElem?_set_ne e]; exact h
            exact mono _ _ _ ih
          · exact ih
      have := stay (Int.toNat t.to - (Int.toNat at_ + 1))
      rwa [show Int.toNat at_ + 1 + (Int.toNat t.to - (Int.toNat at_ + 1)) = Int.toNat t.to by omega] at this
    unfold YK at h3 ⊢
    rw [hx, hpi] at h3 ⊢
    generalize s.stages[Int.toNat at_] = x at hi hto htt hfo he1 h3 hnext ⊢
    split at h3
    · rename_i h4
      rw [if_pos h4]
      exact ⟨_, x, hi, h4, hr, rfl⟩
    · rename_i h4
      rw [if_neg h4]
      split at h3
      · rename_i h1'
        rw [if_pos h1']
        cases ds with
        | nil => simp at h3
        | cons d ds =>
          simp only at h3 ⊢
          split at h3
          · rename_i hw
            rw [if_pos hw]
            have hwd := Qz.1 hw
            have hmem := Vy (ts := x.turns) (d := d) hwd.1 (by have := hwd.2; rw [totI] at this; omega)
            have h5 := hto _ hmem
            exact ih _ _ _ (by omega) (by omega) (by omega) (hnext _ hmem) h3
          · simp at h3
      · rename_i h1'
        rw [if_neg h1']
        have hel : Int.toNat e < x.turns.length := by
          rcases hfo with ⟨q, -⟩ | ⟨q0, -, q, -⟩
          · exact absurd q h4
          · rw [Xe, if_pos (by omega)] at he1; omega
        have hte : x.turns[Int.toNat e]? = some x.turns[Int.toNat e] := List.getElem?_eq_getElem hel
        rw [show x.turns.getD (Int.toNat e) ⟨0, 0⟩ = x.turns[Int.toNat e] by simp [List.getD, hte]] at h3 ⊢
        have hmem := List.mem_of_getElem? hte
        have h5 := hto _ hmem
        exact ih _ _ _ (by omega) (by omega) (by omega) (hnext _ hmem) h3
theorem reach0 {s:Stl} (hc:XS s=0):(VZ s).getD 0 false=true:=by
 obtain ⟨hm,es⟩:=Vr (Xs hc)
 have hform:=(QH hm.st).2.2.2.2
 have hn:=(QH hm.st).1
 rw [es] at hform hn
 rw [Vl hform (by omega)]
 simp only [Xr]
 rw [List.getD,List.getElem?_set_self (by simp; omega)]; rfl
/-- The least stock of what can be won. -/
theorem leastN_ok {s:Stl} {stock:List Int} (hsb:∀ n ∈ stock,0≤n∧n≤1000) (hp:∀ (i:Nat) (x:Stg),s.stages[i]?=some x→x.kind=4→x.prize≥0→Int.toNat x.prize<stock.length):∀ n:Nat,n≤s.stages.length →
 (∀ (i:Nat) (x:Stg),i<n→s.stages[i]?=some x→(VZ s).getD i false=true→x.kind=4→x.prize≥0→0≤XP s stock n∧XP s stock n≤stock.getD (Int.toNat x.prize) 0) ∧
 (0≤XP s stock n→∃ (i:Nat) (x:Stg),i<n∧s.stages[i]?=some x∧(VZ s).getD i false=true∧x.kind=4∧x.prize≥0∧stock.getD (Int.toNat x.prize) 0=XP s stock n)
 | 0,_=>⟨fun i x h=>by omega,fun h=>by simp [XP] at h⟩
 | n+1,hn=>by
  obtain ⟨ih1,ih2⟩:=leastN_ok hsb hp n (by omega)
  have hi:s.stages[n]?=some s.stages[n]:=List.getElem?_eq_getElem (by omega)
  have hx:s.stages.getD n ⟨0,0,[]⟩=s.stages[n]:=by simp [List.getD,hi]
  simp only [XP]
  rw [hx]
  have hpn:=hp n _ hi
  have hst:s.stages[n].kind=4→s.stages[n].prize≥0→0≤stock.getD (Int.toNat s.stages[n].prize) 0:=fun h4 hpr=>by
   have h1:=hpn h4 hpr
   exact (hsb _ (List.mem_of_getElem? (getD_some h1))).1
  generalize hxx:s.stages[n]=y at *
  generalize XP s stock n=l at *
  unfold leastS
  split
  · rename_i hh
    obtain ⟨q1,q2,q3,q4⟩:=hh
    have:=hst q2 q3
    refine ⟨fun i x hin hix hr h4 hpr=>?_,fun _=>⟨n,y,by omega,hi,q1,q2,q3,rfl⟩⟩
    by_cases e:i=n
    · subst e; rw [hi] at hix; cases hix; exact ⟨this,Int.le_refl _⟩
    · have:=ih1 i x (by omega) hix hr h4 hpr
      omega
  · rename_i hh
    refine ⟨fun i x hin hix hr h4 hpr=>?_,fun h=>?_⟩
    · by_cases e:i=n
      · subst e; rw [hi] at hix; cases hix
        have h5:¬ (l<0 ∨ stock.getD (Int.toNat y.prize) 0<l):=fun h6=>hh ⟨hr,h4,hpr,h6⟩
        omega
      · exact ih1 i x (by omega) hix hr h4 hpr
    · obtain ⟨i,x,a,b⟩:=ih2 h
      exact ⟨i,x,by omega,b⟩
end Go.Proofs.Ytemklbioijmjiaa
namespace Go.Proofs.Ytemklbioijmjiaa
open Go Ax
open Go.Proofs
theorem Qy:Try.prog.follows .mixedOrders=true:=by kernel_rfl
theorem f220b:Try.f220.body=some (Qb Try.prog 220):=by kernel_rfl
theorem u220 {a c k:List AV} {r:AV} (h:Pure Try.prog 220 (a++c++k) r):Qi Try.prog (.clos 220 a k) c r:=Qk Try.func220 (by kernel_rfl) f220b h
theorem p220_start_0 (n:Int) {E:Env} {res:AV} (hE:Qg Try.prog 220 res E) (ho:AllP [])
 (hr:AvLe (.bool (n != n)) res):G Try.prog E [.code (Qb Try.prog 220)] ⟨[.int .i64 n]++unds (Try.f220.ntmps - 1),[]⟩ :=
 Qa (n:=400) (evs:=[]) (obs:=_) hE Try.func220 Qy (by kernel_rfl) ho hr
theorem f220W (n:Int) {E:Env} {rv:Bool} (hE:Qg Try.prog 220 (.bool rv) E)
 (h:rv=(n != n)):G Try.prog E [.code (Qb Try.prog 220)] ⟨[.int .i64 n]++unds (Try.f220.ntmps - 1),[]⟩:=by
 exact p220_start_0 n hE trivial (AvLe.of_eq (by rw [h]; try rfl))
theorem Xv (n:Int):Pure Try.prog 220 [.int .i64 n] (.bool false):=Qs Try.func220 f220b fun E hE=>by
 exact f220W n hE (by simp)
theorem f162b:Try.f162.body=some (Qb Try.prog 162):=by kernel_rfl
theorem u162 {a c k:List AV} {r:AV} (h:Pure Try.prog 162 (a++c++k) r):Qi Try.prog (.clos 162 a k) c r:=Qk Try.func162 (by kernel_rfl) f162b h
theorem p162_start_0 (x:Int) (y:Int) {E:Env} {res:AV} (hE:Qg Try.prog 162 res E) (ho:AllP [Qi Try.prog (.clos 220 [] []) [.int .i64 x] (.bool false),Qi Try.prog (.clos 220 [] []) [.int .i64 y] (.bool false),false=true,false=true])
 (hr:AvLe (.int .i64 0) res):G Try.prog E [.code (Qb Try.prog 162)] ⟨[.int .i64 x,.int .i64 y]++unds (Try.f162.ntmps - 2),[]⟩ :=
 Qa (n:=400) (evs:=[.v (.bool false),.v (.bool false),.b true,.b true]) (obs:=_) hE Try.func162 Qy (by kernel_rfl) ho hr
theorem p162_start_1 (x:Int) (y:Int) {E:Env} {res:AV} (hE:Qg Try.prog 162 res E) (ho:AllP [Qi Try.prog (.clos 220 [] []) [.int .i64 x] (.bool false),Qi Try.prog (.clos 220 [] []) [.int .i64 y] (.bool false),false=true,false=false])
 (hr:AvLe (.int .i64 (-1)) res):G Try.prog E [.code (Qb Try.prog 162)] ⟨[.int .i64 x,.int .i64 y]++unds (Try.f162.ntmps - 2),[]⟩ :=
 Qa (n:=400) (evs:=[.v (.bool false),.v (.bool false),.b true,.b false]) (obs:=_) hE Try.func162 Qy (by kernel_rfl) ho hr
theorem p162_start_2 (x:Int) (y:Int) {E:Env} {res:AV} (hE:Qg Try.prog 162 res E) (ho:AllP [Qi Try.prog (.clos 220 [] []) [.int .i64 x] (.bool false),Qi Try.prog (.clos 220 [] []) [.int .i64 y] (.bool false),false=false,false=true])
 (hr:AvLe (.int .i64 1) res):G Try.prog E [.code (Qb Try.prog 162)] ⟨[.int .i64 x,.int .i64 y]++unds (Try.f162.ntmps - 2),[]⟩ :=
 Qa (n:=400) (evs:=[.v (.bool false),.v (.bool false),.b false,.b true]) (obs:=_) hE Try.func162 Qy (by kernel_rfl) ho hr
theorem p162_start_3 (x:Int) (y:Int) {E:Env} {res:AV} (hE:Qg Try.prog 162 res E) (ho:AllP [Qi Try.prog (.clos 220 [] []) [.int .i64 x] (.bool false),Qi Try.prog (.clos 220 [] []) [.int .i64 y] (.bool false),false=false,false=false,(decide (x<y))=true])
 (hr:AvLe (.int .i64 (-1)) res):G Try.prog E [.code (Qb Try.prog 162)] ⟨[.int .i64 x,.int .i64 y]++unds (Try.f162.ntmps - 2),[]⟩ :=
 Qa (n:=400) (evs:=[.v (.bool false),.v (.bool false),.b false,.b false,.b true]) (obs:=_) hE Try.func162 Qy (by kernel_rfl) ho hr
theorem p162_start_4 (x:Int) (y:Int) {E:Env} {res:AV} (hE:Qg Try.prog 162 res E) (ho:AllP [Qi Try.prog (.clos 220 [] []) [.int .i64 x] (.bool false),Qi Try.prog (.clos 220 [] []) [.int .i64 y] (.bool false),false=false,false=false,(decide (x<y))=false,(decide (x > y))=true])
 (hr:AvLe (.int .i64 1) res):G Try.prog E [.code (Qb Try.prog 162)] ⟨[.int .i64 x,.int .i64 y]++unds (Try.f162.ntmps - 2),[]⟩ :=
 Qa (n:=400) (evs:=[.v (.bool false),.v (.bool false),.b false,.b false,.b false,.b true]) (obs:=_) hE Try.func162 Qy (by kernel_rfl) ho hr
theorem p162_start_5 (x:Int) (y:Int) {E:Env} {res:AV} (hE:Qg Try.prog 162 res E) (ho:AllP [Qi Try.prog (.clos 220 [] []) [.int .i64 x] (.bool false),Qi Try.prog (.clos 220 [] []) [.int .i64 y] (.bool false),false=false,false=false,(decide (x<y))=false,(decide (x > y))=false])
 (hr:AvLe (.int .i64 0) res):G Try.prog E [.code (Qb Try.prog 162)] ⟨[.int .i64 x,.int .i64 y]++unds (Try.f162.ntmps - 2),[]⟩ :=
 Qa (n:=400) (evs:=[.v (.bool false),.v (.bool false),.b false,.b false,.b false,.b false]) (obs:=_) hE Try.func162 Qy (by kernel_rfl) ho hr
theorem f162W (x:Int) (y:Int) {E:Env} {rv:Int} (hE:Qg Try.prog 162 (.int .i64 rv) E)
 (h:((false=true→((false=true→rv=0)∧(false=false→rv=(-1))))∧(false=false→((false=true→rv=1)∧(false=false→((x<y→rv=(-1))∧(¬ (x<y)→((x > y→rv=1)∧(¬ (x > y)→rv=0))))))))):G Try.prog E [.code (Qb Try.prog 162)] ⟨[.int .i64 x,.int .i64 y]++unds (Try.f162.ntmps - 2),[]⟩:=by
 rcases bft false with hc0 | hc0
 · have h:=h.1 hc0
   rcases bft false with hc1 | hc1
   · have h:=h.1 hc1
     exact p162_start_0 x y hE ⟨(u220 (Xv x)),(u220 (Xv y)),hc0,hc1,trivial⟩ (AvLe.of_eq (by rw [h]; try rfl))
   · have h:=h.2 hc1
     exact p162_start_1 x y hE ⟨(u220 (Xv x)),(u220 (Xv y)),hc0,hc1,trivial⟩ (AvLe.of_eq (by rw [h]; try rfl))
 · have h:=h.2 hc0
   rcases bft false with hc1 | hc1
   · have h:=h.1 hc1
     exact p162_start_2 x y hE ⟨(u220 (Xv x)),(u220 (Xv y)),hc0,hc1,trivial⟩ (AvLe.of_eq (by rw [h]; try rfl))
   · have h:=h.2 hc1
     rcases bft (decide (x<y)) with hc2 | hc2
     · have h:=h.1 (odt hc2)
       exact p162_start_3 x y hE ⟨(u220 (Xv x)),(u220 (Xv y)),hc0,hc1,hc2,trivial⟩ (AvLe.of_eq (by rw [h]; try rfl))
     · have h:=h.2 (odf hc2)
       rcases bft (decide (x > y)) with hc3 | hc3
       · have h:=h.1 (odt hc3)
         exact p162_start_4 x y hE ⟨(u220 (Xv x)),(u220 (Xv y)),hc0,hc1,hc2,hc3,trivial⟩ (AvLe.of_eq (by rw [h]; try rfl))
       · have h:=h.2 (odf hc3)
         exact p162_start_5 x y hE ⟨(u220 (Xv x)),(u220 (Xv y)),hc0,hc1,hc2,hc3,trivial⟩ (AvLe.of_eq (by rw [h]; try rfl))
def cmpI (x y:Int):Int:=if x<y then -1 else if x > y then 1 else 0
theorem cmp_ok (x y:Int):Pure Try.prog 162 [.int .i64 x,.int .i64 y] (.int .i64 (cmpI x y)):=Qs Try.func162 f162b fun E hE=>by
 exact f162W x y hE ⟨by simp,fun _=>⟨by simp,fun _=>⟨fun h=>by simp [cmpI,h],fun h=>⟨fun h'=>by simp [cmpI,h,h'],fun h'=>by simp [cmpI,h,h']⟩⟩⟩⟩
theorem f159b:Try.f159.body=some (Qb Try.prog 159):=by kernel_rfl
theorem u159 {a c k:List AV} {r:AV} (h:Pure Try.prog 159 (a++c++k) r):Qi Try.prog (.clos 159 a k) c r:=Qk Try.func159 (by kernel_rfl) f159b h
theorem p159_start_0 (i:Int) (c:Int) (ws:List Int) (al:Int) (e:Int) {E:Env} {res:AV} (hE:Qg Try.prog 159 res E) (ho:AllP [0≤i∧i<(ws.length:Int),((rowI ws).drop (0+(Int.toNat i)*1)).take 1=[.int .i64 e],InR .i64 (c*e),al ≠ 0])
 (hr:AvLe (.int .i64 (Int.tmod (c*e) al)) res):G Try.prog E [.code (Qb Try.prog 159)] ⟨[.int .i64 i,.rptr [.int .i64 c] 0,.rptr [.rsl (rowI ws) 0 ws.length] 0,.rptr [.int .i64 al] 0]++unds (Try.f159.ntmps - 4),[]⟩ :=
 Qa (n:=400) (evs:=[.auto,.auto,.ld (.int .i64 e)]) (obs:=_) hE Try.func159 Qy (by kernel_rfl) ho hr
theorem f159W (i:Int) (c:Int) (ws:List Int) (al:Int) {E:Env} {rv:Int} (hE:Qg Try.prog 159 (.int .i64 rv) E)
 (h:(0≤i∧(∃ e:Int,ws[Int.toNat i]?=some e∧((I6 (c*e))∧(al ≠ 0∧rv=(Int.tmod (c*e) al)))))):G Try.prog E [.code (Qb Try.prog 159)] ⟨[.int .i64 i,.rptr [.int .i64 c] 0,.rptr [.rsl (rowI ws) 0 ws.length] 0,.rptr [.int .i64 al] 0]++unds (Try.f159.ntmps - 4),[]⟩:=by
 obtain ⟨h2,h⟩:=h
 obtain ⟨e,h1,h⟩:=h
 obtain ⟨q3_0,h⟩:=h
 obtain ⟨q4_0,h⟩:=h
 exact p159_start_0 i c ws al e hE ⟨(Qm h2 h1),(rp cI 1 0 1 h1),q3_0,q4_0,trivial⟩ (AvLe.of_eq (by rw [h]; try rfl))
theorem f110b:Try.f110.body=some (Qb Try.prog 110):=by kernel_rfl
theorem u110 {a c k:List AV} {r:AV} (h:Pure Try.prog 110 (a++c++k) r):Qi Try.prog (.clos 110 a k) c r:=Qk Try.func110 (by kernel_rfl) f110b h
theorem p110_start_0 (n:Int) (lo:Int) (hi:Int) {E:Env} {res:AV} (hE:Qg Try.prog 110 res E) (ho:AllP [(decide (n≥lo))=true])
 (hr:AvLe (.bool (decide (n≤hi))) res):G Try.prog E [.code (Qb Try.prog 110)] ⟨[.int .i64 n,.int .i64 lo,.int .i64 hi]++unds (Try.f110.ntmps - 3),[]⟩ :=
 Qa (n:=400) (evs:=[.b true]) (obs:=_) hE Try.func110 Qy (by kernel_rfl) ho hr
theorem p110_start_1 (n:Int) (lo:Int) (hi:Int) {E:Env} {res:AV} (hE:Qg Try.prog 110 res E) (ho:AllP [(decide (n≥lo))=false])
 (hr:AvLe (.bool false) res):G Try.prog E [.code (Qb Try.prog 110)] ⟨[.int .i64 n,.int .i64 lo,.int .i64 hi]++unds (Try.f110.ntmps - 3),[]⟩ :=
 Qa (n:=400) (evs:=[.b false]) (obs:=_) hE Try.func110 Qy (by kernel_rfl) ho hr
theorem f110W (n:Int) (lo:Int) (hi:Int) {E:Env} {rv:Bool} (hE:Qg Try.prog 110 (.bool rv) E)
 (h:((n≥lo→rv=(decide (n≤hi)))∧(¬ (n≥lo)→rv=false))):G Try.prog E [.code (Qb Try.prog 110)] ⟨[.int .i64 n,.int .i64 lo,.int .i64 hi]++unds (Try.f110.ntmps - 3),[]⟩:=by
 rcases bft (decide (n≥lo)) with hc0 | hc0
 · have h:=h.1 (odt hc0)
   exact p110_start_0 n lo hi hE ⟨hc0,trivial⟩ (AvLe.of_eq (by rw [h]; try rfl))
 · have h:=h.2 (odf hc0)
   exact p110_start_1 n lo hi hE ⟨hc0,trivial⟩ (AvLe.of_eq (by rw [h]; try rfl))
def Qt (n lo hi:Int):Bool:=decide (n≥lo) && decide (n≤hi)
theorem Yr (n lo hi:Int):Pure Try.prog 110 [.int .i64 n,.int .i64 lo,.int .i64 hi] (.bool (Qt n lo hi)):=Qs Try.func110 f110b fun E hE=>by
 refine f110W n lo hi hE ⟨fun h=>by simp [Qt,h],fun h=>by simp only [Qt]; rw [decide_eq_false h]; rfl⟩
/-- The remainder by which the cents are handed out. -/
def keyI (c:Int) (ws:List Int) (al i:Int):Int:=Int.tmod (c*ws.getD (Int.toNat i) 0) al
def YG (c:Int) (ws:List Int) (al i:Int):Prop:=0≤i∧i<ws.length∧(-9223372036854775808≤c*ws.getD (Int.toNat i) 0∧c*ws.getD (Int.toNat i) 0≤9223372036854775807)∧al ≠ 0
theorem key_ok (c:Int) (ws:List Int) (al i:Int) (h:YG c ws al i):Pure Try.prog 159 [.int .i64 i,.rptr [.int .i64 c] 0,.rptr [.rsl (rowI ws) 0 ws.length] 0,.rptr [.int .i64 al] 0] (.int .i64 (keyI c ws al i)):=Qs Try.func159 f159b fun E hE=>by
 obtain ⟨h0,h1,h2,h3⟩:=h
 have hi:ws[Int.toNat i]?=some (ws.getD (Int.toNat i) 0):=by simp [List.getD,show Int.toNat i<ws.length by omega]
 exact f159W i c ws al hE ⟨h0,_,hi,h2,h3,rfl⟩
theorem f161b:Try.f161.body=some (Qb Try.prog 161):=by kernel_rfl
theorem u161 {a c k:List AV} {r:AV} (h:Pure Try.prog 161 (a++c++k) r):Qi Try.prog (.clos 161 a k) c r:=Qk Try.func161 (by kernel_rfl) f161b h
theorem p161_start_0 (a:Int) (b:Int) (c:Int) (ws:List Int) (al:Int) {E:Env} {res:AV} (hE:Qg Try.prog 161 res E) (ho:AllP [Qi Try.prog (.clos 159 [] [.rptr [.int .i64 c] 0,.rptr [.rsl (rowI ws) 0 ws.length] 0,.rptr [.int .i64 al] 0]) [.int .i64 b] (.int .i64 (keyI c ws al b)),Qi Try.prog (.clos 159 [] [.rptr [.int .i64 c] 0,.rptr [.rsl (rowI ws) 0 ws.length] 0,.rptr [.int .i64 al] 0]) [.int .i64 a] (.int .i64 (keyI c ws al a)),Qi Try.prog (.clos 162 [] []) [.int .i64 (keyI c ws al b),.int .i64 (keyI c ws al a)] (.int .i64 (cmpI (keyI c ws al b) (keyI c ws al a)))])
 (hr:AvLe (.int .i64 (cmpI (keyI c ws al b) (keyI c ws al a))) res):G Try.prog E [.code (Qb Try.prog 161)] ⟨[.int .i64 a,.int .i64 b,.rptr [.clos 159 [] [.rptr [.int .i64 c] 0,.rptr [.rsl (rowI ws) 0 ws.length] 0,.rptr [.int .i64 al] 0]] 0]++unds (Try.f161.ntmps - 3),[]⟩ :=
 Qa (n:=400) (evs:=[.v (.int .i64 (keyI c ws al b)),.v (.int .i64 (keyI c ws al a)),.v (.int .i64 (cmpI (keyI c ws al b) (keyI c ws al a)))]) (obs:=_) hE Try.func161 Qy (by kernel_rfl) ho hr
theorem f161W (a:Int) (b:Int) (c:Int) (ws:List Int) (al:Int) {E:Env} {rv:Int} (hE:Qg Try.prog 161 (.int .i64 rv) E)
 (h:((YG c ws al b)∧((YG c ws al a)∧rv=(cmpI (keyI c ws al b) (keyI c ws al a))))):G Try.prog E [.code (Qb Try.prog 161)] ⟨[.int .i64 a,.int .i64 b,.rptr [.clos 159 [] [.rptr [.int .i64 c] 0,.rptr [.rsl (rowI ws) 0 ws.length] 0,.rptr [.int .i64 al] 0]] 0]++unds (Try.f161.ntmps - 3),[]⟩:=by
 obtain ⟨h1,h⟩:=h
 obtain ⟨h2,h⟩:=h
 exact p161_start_0 a b c ws al hE ⟨(u159 (key_ok c ws al b h1)),(u159 (key_ok c ws al a h2)),(u162 (cmp_ok (keyI c ws al b) (keyI c ws al a))),trivial⟩ (AvLe.of_eq (by rw [h]; try rfl))
def Wn (c:Int) (ws:List Int) (al a b:Int):Int:=cmpI (keyI c ws al b) (keyI c ws al a)
theorem less_ok (c:Int) (ws:List Int) (al a b:Int) (h:YG c ws al b∧YG c ws al a):Pure Try.prog 161 [.int .i64 a,.int .i64 b,.rptr [.clos 159 [] [.rptr [.int .i64 c] 0,.rptr [.rsl (rowI ws) 0 ws.length] 0,.rptr [.int .i64 al] 0]] 0] (.int .i64 (Wn c ws al a b)):=Qs Try.func161 f161b fun E hE =>
 f161W a b c ws al hE ⟨h.1,h.2,rfl⟩
end Go.Proofs.Ytemklbioijmjiaa
namespace Go.Proofs.Ytemklbioijmjiaa
open Go Ax
open Go.Proofs
theorem f262b:Try.f262.body=some (Qb Try.prog 262):=by kernel_rfl
def qQ (P:Program):List Item:=kAt 400 [.code (Qb P 262)] [.stop]
def f262S0 (a:Int) (b:Int) (l:List Int) (c:Int) (ws:List Int) (al:Int) (n0:Nat) (v0:List Int) (i:Int):St:=⟨([.sl 0 n0 0 v0.length 1,.int .i64 a,.int .i64 b,.clos 161 [] [.ptr 1 0 0],J,J,J,J,.int .i64 i]++Js 44),[⟨true,n0,1,true,(rowI v0),true⟩,⟨true,0,1,false,[.clos 159 [] [.ptr 2 0 0,.ptr 3 0 0,.ptr 4 0 0]],false⟩,⟨true,0,1,true,[.int .i64 c],false⟩,⟨true,0,1,true,[.rsl (rowI ws) 0 ws.length],false⟩,⟨true,0,1,true,[.int .i64 al],false⟩]⟩
def qR (E:Env) (a:Int) (b:Int) (l:List Int) (c:Int) (ws:List Int) (al:Int) (n0:Nat) (v0:List Int) (i:Int):Prop:=G Try.prog E (qQ Try.prog) (f262S0 a b l c ws al n0 v0 i )
def qP (P:Program):List Item:=kAt 400 [.code (Qb P 262)] [.b true,.stop]
def f262S1 (a:Int) (b:Int) (l:List Int) (c:Int) (ws:List Int) (al:Int) (n0:Nat) (j:Int) (v0:List Int) (i:Int):St:=⟨([.sl 0 n0 0 v0.length 1,.int .i64 a,.int .i64 b,.clos 161 [] [.ptr 1 0 0],J,J,J,J,.int .i64 i,.int .i64 j]++Js 43),[⟨true,n0,1,true,(rowI v0),true⟩,⟨true,0,1,false,[.clos 159 [] [.ptr 2 0 0,.ptr 3 0 0,.ptr 4 0 0]],false⟩,⟨true,0,1,true,[.int .i64 c],false⟩,⟨true,0,1,true,[.rsl (rowI ws) 0 ws.length],false⟩,⟨true,0,1,true,[.int .i64 al],false⟩]⟩
def f262G1 (E:Env) (a:Int) (b:Int) (l:List Int) (c:Int) (ws:List Int) (al:Int) (n0:Nat) (j:Int) (v0:List Int) (i:Int):Prop:=G Try.prog E (qP Try.prog) (f262S1 a b l c ws al n0 j v0 i )
theorem p262_start_0 (a:Int) (b:Int) (l:List Int) (c:Int) (ws:List Int) (al:Int) (n0:Nat) {E:Env} {rv:AV} {bs2:List Blk} (hE:LentE Try.prog 262 [.sl 4 0 0 0 1] rv bs2 E) (ho:AllP [InR .i64 (a+1)])
 (hg:G Try.prog E (qQ Try.prog) ⟨([.sl 0 n0 0 l.length 1,.int .i64 a,.int .i64 b,.clos 161 [] [.ptr 1 0 0],J,J,J,J,.int .i64 (a+1)]++Js 44),[⟨true,n0,1,true,(rowI l),true⟩,⟨true,0,1,false,[.clos 159 [] [.ptr 2 0 0,.ptr 3 0 0,.ptr 4 0 0]],false⟩,⟨true,0,1,true,[.int .i64 c],false⟩,⟨true,0,1,true,[.rsl (rowI ws) 0 ws.length],false⟩,⟨true,0,1,true,[.int .i64 al],false⟩]⟩):G Try.prog E [.code (Qb Try.prog 262)] ⟨[.sl 0 n0 0 l.length 1,.int .i64 a,.int .i64 b,.clos 161 [] [.ptr 1 0 0]]++unds (Try.f262.ntmps - 4),[⟨true,n0,1,true,(rowI l),true⟩,⟨true,0,1,false,[.clos 159 [] [.ptr 2 0 0,.ptr 3 0 0,.ptr 4 0 0]],false⟩,⟨true,0,1,true,[.int .i64 c],false⟩,⟨true,0,1,true,[.rsl (rowI ws) 0 ws.length],false⟩,⟨true,0,1,true,[.int .i64 al],false⟩]⟩ :=
 Qh (n:=400) (ds:=[]) (cs:=[]) (live:=[0,1,2,3,8]) (m:=5) (evs:=[.stop]) (obs:=_) hE.kind (hE.nogh (by kernel_rfl)) Qy (by kernel_rfl) ho hg
theorem f262W (a:Int) (b:Int) (l:List Int) (c:Int) (ws:List Int) (al:Int) (n0:Nat) {E:Env} {rv:Unit} {lo:List Int} (hE:LentE Try.prog 262 [.sl 4 0 0 0 1] (.tup []) [⟨true,n0,1,true,(rowI lo),true⟩,⟨true,0,1,false,[.clos 159 [] [.ptr 2 0 0,.ptr 3 0 0,.ptr 4 0 0]],false⟩,⟨true,0,1,true,[.int .i64 c],false⟩,⟨true,0,1,true,[.rsl (rowI ws) 0 ws.length],false⟩,⟨true,0,1,true,[.int .i64 al],false⟩] E)
 (h:((I6 (a+1))∧qR E a b l c ws al n0 l (a+1))):G Try.prog E [.code (Qb Try.prog 262)] ⟨[.sl 0 n0 0 l.length 1,.int .i64 a,.int .i64 b,.clos 161 [] [.ptr 1 0 0]]++unds (Try.f262.ntmps - 4),[⟨true,n0,1,true,(rowI l),true⟩,⟨true,0,1,false,[.clos 159 [] [.ptr 2 0 0,.ptr 3 0 0,.ptr 4 0 0]],false⟩,⟨true,0,1,true,[.int .i64 c],false⟩,⟨true,0,1,true,[.rsl (rowI ws) 0 ws.length],false⟩,⟨true,0,1,true,[.int .i64 al],false⟩]⟩:=by
 obtain ⟨q0_0,h⟩:=h
 exact p262_start_0 a b l c ws al n0 hE ⟨q0_0,trivial⟩ h
theorem p262_0_0 (a:Int) (b:Int) (l:List Int) (c:Int) (ws:List Int) (al:Int) (n0:Nat) (v0:List Int) (i:Int) {E:Env} {rv:AV} {bs2:List Blk} (hE:LentE Try.prog 262 [.sl 4 0 0 0 1] rv bs2 E) (ho:AllP [(decide (i<b))=true])
 (hg:G Try.prog E (qP Try.prog) ⟨([.sl 0 n0 0 v0.length 1,.int .i64 a,.int .i64 b,.clos 161 [] [.ptr 1 0 0],J,J,J,J,.int .i64 i,.int .i64 i]++Js 43),[⟨true,n0,1,true,(rowI v0),true⟩,⟨true,0,1,false,[.clos 159 [] [.ptr 2 0 0,.ptr 3 0 0,.ptr 4 0 0]],false⟩,⟨true,0,1,true,[.int .i64 c],false⟩,⟨true,0,1,true,[.rsl (rowI ws) 0 ws.length],false⟩,⟨true,0,1,true,[.int .i64 al],false⟩]⟩):G Try.prog E (qQ Try.prog) (f262S0 a b l c ws al n0 v0 i ) :=
 Qh (n:=400) (ds:=[]) (cs:=[]) (live:=[0,1,2,3,8,9]) (m:=5) (evs:=[.b true,.stop]) (obs:=_) hE.kind (hE.nogh (by kernel_rfl)) Qy (by kernel_rfl) ho hg
theorem p262_0_1 (a:Int) (b:Int) (l:List Int) (c:Int) (ws:List Int) (al:Int) (n0:Nat) (v0:List Int) (i:Int) {E:Env} {res:AV} {bs2:List Blk} (hE:LentE Try.prog 262 [.sl 4 0 0 0 1] res bs2 E) (ho:AllP [(decide (i<b))=false])
 (hr:(.tup [])=res) (hb:[⟨true,n0,1,true,(rowI v0),true⟩,⟨true,0,1,false,[.clos 159 [] [.ptr 2 0 0,.ptr 3 0 0,.ptr 4 0 0]],false⟩,⟨true,0,1,true,[.int .i64 c],false⟩,⟨true,0,1,true,[.rsl (rowI ws) 0 ws.length],false⟩,⟨true,0,1,true,[.int .i64 al],false⟩]=bs2):G Try.prog E (qQ Try.prog) (f262S0 a b l c ws al n0 v0 i ) :=
 Ye (n:=400) (live:=[]) (m:=5) (evs:=[.b false]) (obs:=_) hE (hE.nogh (by kernel_rfl)) Try.func262 Qy (by kernel_rfl) ho hr hb
theorem f262W0 (a:Int) (b:Int) (l:List Int) (c:Int) (ws:List Int) (al:Int) (n0:Nat) (v0:List Int) (i:Int) {E:Env} {rv:Unit} {lo:List Int} (hE:LentE Try.prog 262 [.sl 4 0 0 0 1] (.tup []) [⟨true,n0,1,true,(rowI lo),true⟩,⟨true,0,1,false,[.clos 159 [] [.ptr 2 0 0,.ptr 3 0 0,.ptr 4 0 0]],false⟩,⟨true,0,1,true,[.int .i64 c],false⟩,⟨true,0,1,true,[.rsl (rowI ws) 0 ws.length],false⟩,⟨true,0,1,true,[.int .i64 al],false⟩] E)
 (h:((i<b→f262G1 E a b l c ws al n0 i v0 i)∧(¬ (i<b)→lo=v0))):qR E a b l c ws al n0 v0 i:=by
 rcases bft (decide (i<b)) with hc0 | hc0
 · have h:=h.1 (odt hc0)
   exact p262_0_0 a b l c ws al n0 v0 i hE ⟨hc0,trivial⟩ h
 · have h:=h.2 (odf hc0)
   have qe0:=h
   exact p262_0_1 a b l c ws al n0 v0 i hE ⟨hc0,trivial⟩ (by try rfl) (by rw [qe0]; all_goals (first | rfl | (simp only [List.length_set]; done) | (simp only [List.length_set]; rfl)))
theorem p262_1_0 (a:Int) (b:Int) (l:List Int) (c:Int) (ws:List Int) (al:Int) (n0:Nat) (j:Int) (v0:List Int) (i:Int) (e:Int) (e1:Int) (e2:Int) {E:Env} {rv:AV} {bs2:List Blk} (hE:LentE Try.prog 262 [.sl 4 0 0 0 1] rv bs2 E) (ho:AllP [(decide (j > a))=true,0≤j∧j<(v0.length:Int),n0=n0,n0=n0,((rowI v0).drop (0+(Int.toNat j)*1)).take 1=[.int .i64 e],InR .i64 (j - 1),0≤(j - 1)∧(j - 1)<(v0.length:Int),n0=n0,n0=n0,((rowI v0).drop (0+(Int.toNat (j - 1))*1)).take 1=[.int .i64 e1],Qi Try.prog (.clos 161 [] [.rptr [.clos 159 [] [.rptr [.int .i64 c] 0,.rptr [.rsl (rowI ws) 0 ws.length] 0,.rptr [.int .i64 al] 0]] 0]) [.int .i64 e,.int .i64 e1] (.int .i64 (Wn c ws al e e1)),(decide ((Wn c ws al e e1)<0))=true,InR .i64 (j - 1),InR .i64 (j - 1),0≤(j - 1)∧(j - 1)<(v0.length:Int),n0=n0,n0=n0,((rowI v0).drop (0+(Int.toNat (j - 1))*1)).take 1=[.int .i64 e1],0≤j∧j<(v0.length:Int),n0=n0,n0=n0,((rowI v0).drop (0+(Int.toNat j)*1)).take 1=[.int .i64 e],0≤j∧j<(v0.length:Int),n0=n0,((0+(Int.toNat j)*1)+1)≤(rowI v0).length,n0=n0,0≤(j - 1)∧(j - 1)<(v0.length:Int),n0=n0,((0+(Int.toNat (j - 1))*1)+1)≤(Qu (rowI v0) (0+(Int.toNat j)*1) [.int .i64 e1]).length,n0=n0,InR .i64 (j - 1)])
 (hg:G Try.prog E (qP Try.prog) ⟨([.sl 0 n0 0 v0.length 1,.int .i64 a,.int .i64 b,.clos 161 [] [.ptr 1 0 0],J,J,J,J,.int .i64 i,.int .i64 (j - 1)]++Js 43),[⟨true,n0,1,true,(Qu (Qu (rowI v0) (0+(Int.toNat j)*1) [.int .i64 e1]) (0+(Int.toNat (j - 1))*1) [.int .i64 e]),true⟩,⟨true,0,1,false,[.clos 159 [] [.ptr 2 0 0,.ptr 3 0 0,.ptr 4 0 0]],false⟩,⟨true,0,1,true,[.int .i64 c],false⟩,⟨true,0,1,true,[.rsl (rowI ws) 0 ws.length],false⟩,⟨true,0,1,true,[.int .i64 al],false⟩]⟩):G Try.prog E (qP Try.prog) (f262S1 a b l c ws al n0 j v0 i ) :=
 Qh (n:=400) (ds:=[]) (cs:=[]) (live:=[0,1,2,3,8,9]) (m:=5) (evs:=[.b true,.ld (.int .i64 e),.ld (.int .i64 e1),.v (.int .i64 (Wn c ws al e e1)),.b true,.ld (.int .i64 e1),.ld (.int .i64 e),.stop]) (obs:=_) hE.kind (hE.nogh (by kernel_rfl)) Qy (by kernel_rfl) ho hg
theorem p262_1_1 (a:Int) (b:Int) (l:List Int) (c:Int) (ws:List Int) (al:Int) (n0:Nat) (j:Int) (v0:List Int) (i:Int) (e:Int) (e1:Int) {E:Env} {rv:AV} {bs2:List Blk} (hE:LentE Try.prog 262 [.sl 4 0 0 0 1] rv bs2 E) (ho:AllP [(decide (j > a))=true,0≤j∧j<(v0.length:Int),n0=n0,n0=n0,((rowI v0).drop (0+(Int.toNat j)*1)).take 1=[.int .i64 e],InR .i64 (j - 1),0≤(j - 1)∧(j - 1)<(v0.length:Int),n0=n0,n0=n0,((rowI v0).drop (0+(Int.toNat (j - 1))*1)).take 1=[.int .i64 e1],Qi Try.prog (.clos 161 [] [.rptr [.clos 159 [] [.rptr [.int .i64 c] 0,.rptr [.rsl (rowI ws) 0 ws.length] 0,.rptr [.int .i64 al] 0]] 0]) [.int .i64 e,.int .i64 e1] (.int .i64 (Wn c ws al e e1)),(decide ((Wn c ws al e e1)<0))=false,InR .i64 (i+1)])
 (hg:G Try.prog E (qQ Try.prog) ⟨([.sl 0 n0 0 v0.length 1,.int .i64 a,.int .i64 b,.clos 161 [] [.ptr 1 0 0],J,J,J,J,.int .i64 (i+1)]++Js 44),[⟨true,n0,1,true,(rowI v0),true⟩,⟨true,0,1,false,[.clos 159 [] [.ptr 2 0 0,.ptr 3 0 0,.ptr 4 0 0]],false⟩,⟨true,0,1,true,[.int .i64 c],false⟩,⟨true,0,1,true,[.rsl (rowI ws) 0 ws.length],false⟩,⟨true,0,1,true,[.int .i64 al],false⟩]⟩):G Try.prog E (qP Try.prog) (f262S1 a b l c ws al n0 j v0 i ) :=
 Qh (n:=400) (ds:=[]) (cs:=[]) (live:=[0,1,2,3,8]) (m:=5) (evs:=[.b true,.ld (.int .i64 e),.ld (.int .i64 e1),.v (.int .i64 (Wn c ws al e e1)),.b false,.stop]) (obs:=_) hE.kind (hE.nogh (by kernel_rfl)) Qy (by kernel_rfl) ho hg
theorem p262_1_2 (a:Int) (b:Int) (l:List Int) (c:Int) (ws:List Int) (al:Int) (n0:Nat) (j:Int) (v0:List Int) (i:Int) {E:Env} {rv:AV} {bs2:List Blk} (hE:LentE Try.prog 262 [.sl 4 0 0 0 1] rv bs2 E) (ho:AllP [(decide (j > a))=false,false=false,InR .i64 (i+1)])
 (hg:G Try.prog E (qQ Try.prog) ⟨([.sl 0 n0 0 v0.length 1,.int .i64 a,.int .i64 b,.clos 161 [] [.ptr 1 0 0],J,J,J,J,.int .i64 (i+1)]++Js 44),[⟨true,n0,1,true,(rowI v0),true⟩,⟨true,0,1,false,[.clos 159 [] [.ptr 2 0 0,.ptr 3 0 0,.ptr 4 0 0]],false⟩,⟨true,0,1,true,[.int .i64 c],false⟩,⟨true,0,1,true,[.rsl (rowI ws) 0 ws.length],false⟩,⟨true,0,1,true,[.int .i64 al],false⟩]⟩):G Try.prog E (qP Try.prog) (f262S1 a b l c ws al n0 j v0 i ) :=
 Qh (n:=400) (ds:=[]) (cs:=[]) (live:=[0,1,2,3,8]) (m:=5) (evs:=[.b false,.b false,.stop]) (obs:=_) hE.kind (hE.nogh (by kernel_rfl)) Qy (by kernel_rfl) ho hg
theorem f262W1 (a:Int) (b:Int) (l:List Int) (c:Int) (ws:List Int) (al:Int) (n0:Nat) (j:Int) (v0:List Int) (i:Int) {E:Env} {rv:Unit} {lo:List Int} (hE:LentE Try.prog 262 [.sl 4 0 0 0 1] (.tup []) [⟨true,n0,1,true,(rowI lo),true⟩,⟨true,0,1,false,[.clos 159 [] [.ptr 2 0 0,.ptr 3 0 0,.ptr 4 0 0]],false⟩,⟨true,0,1,true,[.int .i64 c],false⟩,⟨true,0,1,true,[.rsl (rowI ws) 0 ws.length],false⟩,⟨true,0,1,true,[.int .i64 al],false⟩] E)
 (h:((j > a→(0≤j∧(∃ e:Int,v0[Int.toNat j]?=some e∧((I6 (j - 1))∧(0≤(j - 1)∧(∃ e1:Int,v0[Int.toNat (j - 1)]?=some e1∧((YG c ws al e1∧YG c ws al e)∧(((Wn c ws al e e1)<0→((I6 (j - 1))∧((I6 (j - 1))∧(0≤(j - 1)∧(∃ e2:Int,(v0.set (Int.toNat j) e1)[Int.toNat (j - 1)]?=some e2∧((I6 (j - 1))∧f262G1 E a b l c ws al n0 (j - 1) ((v0.set (Int.toNat j) e1).set (Int.toNat (j - 1)) e) i))))))∧(¬ ((Wn c ws al e e1)<0)→((I6 (i+1))∧qR E a b l c ws al n0 v0 (i+1)))))))))))∧(¬ (j > a)→((I6 (i+1))∧qR E a b l c ws al n0 v0 (i+1))))):f262G1 E a b l c ws al n0 j v0 i:=by
 rcases bft (decide (j > a)) with hc0 | hc0
 · have h:=h.1 (odt hc0)
   obtain ⟨h2,h⟩:=h
   obtain ⟨e,h1,h⟩:=h
   obtain ⟨q6_1,h⟩:=h
   obtain ⟨h4,h⟩:=h
   obtain ⟨e1,h3,h⟩:=h
   obtain ⟨h5,h⟩:=h
   rcases bft (decide ((Wn c ws al e e1)<0)) with hc1 | hc1
   · have h:=h.1 (odt hc1)
     obtain ⟨q14_2,h⟩:=h
     obtain ⟨q15_2,h⟩:=h
     obtain ⟨h7,h⟩:=h
     obtain ⟨e2,h6,h⟩:=h
     obtain ⟨q33_2,h⟩:=h
     refine p262_1_0 a b l c ws al n0 j v0 i e e1 e2 hE ⟨hc0,(Qm h2 h1),rfl,rfl,(rp cI 1 0 1 h1),q6_1,(Qm h4 h3),rfl,rfl,(rp cI 1 0 1 h3),(u161 (less_ok c ws al e e1 h5)),hc1,q14_2,q15_2,(Qm h4 h3),rfl,rfl,(rp cI 1 0 1 h3),(Qm h2 h1),rfl,rfl,(rp cI 1 0 1 h1),(Qm h2 h1),rfl,(rf cI 1 0 1 h1),rfl,(by have hx:=Qm h7 h6; simpa using hx),rfl,(by rw [(show Qu (rowI v0) (0+(Int.toNat j)*1) [.int .i64 e1]=rowI (v0.set (Int.toNat j) e1) from QE cI (s:=1) (k:=0) (fun _=>rfl) h1 rfl (by first | decide | simp))]; exact rf cI 1 0 1 h6),rfl,q33_2,trivial⟩ ?_
     have h:=h
     simp only [f262G1,f262S1,List.length_set] at h
     rw [(show Qu (rowI v0) (0+(Int.toNat j)*1) [.int .i64 e1]=rowI (v0.set (Int.toNat j) e1) from QE cI (s:=1) (k:=0) (fun _=>rfl) h1 rfl (by first | decide | simp))]; rw [(show Qu (rowI (v0.set (Int.toNat j) e1)) (0+(Int.toNat (j - 1))*1) [.int .i64 e]=rowI ((v0.set (Int.toNat j) e1).set (Int.toNat (j - 1)) e) from QE cI (s:=1) (k:=0) (fun _=>rfl) h6 rfl (by first | decide | simp))]
     exact h
   · have h:=h.2 (odf hc1)
     obtain ⟨q14_2,h⟩:=h
     exact p262_1_1 a b l c ws al n0 j v0 i e e1 hE ⟨hc0,(Qm h2 h1),rfl,rfl,(rp cI 1 0 1 h1),q6_1,(Qm h4 h3),rfl,rfl,(rp cI 1 0 1 h3),(u161 (less_ok c ws al e e1 h5)),hc1,q14_2,trivial⟩ h
 · have h:=h.2 (odf hc0)
   obtain ⟨q2_1,h⟩:=h
   exact p262_1_2 a b l c ws al n0 j v0 i hE ⟨hc0,rfl,q2_1,trivial⟩ h
/-- One element sinks to its place. -/
def sink (lt:Int→Int→Bool):Nat→List Int→List Int
 | 0,l=>l
 | d+1,l=>match l[d+1]?,l[d]? with
  | some e,some e1=>if lt e e1 then sink lt d ((l.set (d+1) e1).set d e) else l
  | _,_=>l
def XI (lt:Int→Int→Bool) (l:List Int):List Int:=(List.range (l.length - 1)).foldl (fun l k=>sink lt (k+1) l) l
theorem Wt {lt:Int→Int→Bool}:∀ {d:Nat} {l:List Int},(sink lt d l).length=l.length
 | 0,l=>rfl
 | d+1,l=>by
  simp only [sink]
  split
  · split
    · rw [Wt]; simp
    · rfl
  · rfl
theorem Vk {lt:Int→Int→Bool} {l:List Int}:(XI lt l).length=l.length:=by
 have:∀ (xs:List Nat) (l:List Int),(xs.foldl (fun l k=>sink lt (k+1) l) l).length=l.length:=by
  intro xs
  induction xs with
  | nil=>intro l; rfl
  | cons x xs ih=>intro l; rw [List.foldl_cons,ih,Wt]
 exact this _ _
theorem swap_mem {l:List Int} {d:Nat} {e e1 x:Int} (h1:l[d+1]?=some e) (h2:l[d]?=some e1) (h:x ∈ (l.set (d+1) e1).set d e):x ∈ l:=by
 rcases List.mem_or_eq_of_mem_set h with h | rfl
 · rcases List.mem_or_eq_of_mem_set h with h | rfl
   · exact h
   · exact List.mem_of_getElem? h2
 · exact List.mem_of_getElem? h1
theorem yj {lt:Int→Int→Bool}:∀ {d:Nat} {l:List Int} {x:Int},x ∈ sink lt d l→x ∈ l
 | 0,l,x,h=>h
 | d+1,l,x,h=>by
  simp only [sink] at h
  split at h
  · rename_i e e1 h1 h2
    split at h
    · exact swap_mem h1 h2 (yj h)
    · exact h
  · exact h
def ltI (c:Int) (ws:List Int) (al:Int) (x y:Int):Bool:=decide (Wn c ws al x y<0)
theorem ins_ok (l:List Int) (c:Int) (ws:List Int) (al:Int) (n0:Nat) (hk:∀ x ∈ l,YG c ws al x) (hl:l.length≤1000) :
 Lent Try.prog 262 [.sl 0 n0 0 l.length 1,.int .i64 0,.int .i64 (l.length:Int),.clos 161 [] [.ptr 1 0 0]] [⟨true,n0,1,true,rowI l,true⟩,⟨true,0,1,false,[.clos 159 [] [.ptr 2 0 0,.ptr 3 0 0,.ptr 4 0 0]],false⟩,⟨true,0,1,true,[.int .i64 c],false⟩,⟨true,0,1,true,[.rsl (rowI ws) 0 ws.length],false⟩,⟨true,0,1,true,[.int .i64 al],false⟩]
  (.tup []) [⟨true,n0,1,true,rowI (XI (ltI c ws al) l),true⟩,⟨true,0,1,false,[.clos 159 [] [.ptr 2 0 0,.ptr 3 0 0,.ptr 4 0 0]],false⟩,⟨true,0,1,true,[.int .i64 c],false⟩,⟨true,0,1,true,[.rsl (rowI ws) 0 ws.length],false⟩,⟨true,0,1,true,[.int .i64 al],false⟩]:=by
 refine yC _ Try.func262 f262b rfl rfl fun E hE=>?_
 have inner:∀ (d:Nat) (l':List Int) (j i:Int),j=d→(∀ x ∈ l',YG c ws al x)→d<l'.length→l'.length≤1000→(0≤i∧i≤1000)→qR E 0 (l.length:Int) l c ws al n0 (sink (ltI c ws al) d l') (i+1)→f262G1 E 0 (l.length:Int) l c ws al n0 j l' i:=by
  intro d
  induction d with
  | zero =>
   intro l' j i hj hk hd hl hi hg
   exact f262W1 0 _ l c ws al n0 j l' i (rv:=()) hE ⟨fun h=>by omega,fun _=>⟨by omega,hg⟩⟩
  | succ d ih =>
   intro l' j i hj hk hd hl hi hg
   have h1:l'[d+1]?=some l'[d+1]:=List.getElem?_eq_getElem hd
   have h2:l'[d]?=some l'[d]:=List.getElem?_eq_getElem (by omega)
   have e1:Int.toNat j=d+1:=by omega
   have e2:Int.toNat (j - 1)=d:=by omega
   have k1:=hk _ (List.mem_of_getElem? h1)
   have k2:=hk _ (List.mem_of_getElem? h2)
   simp only [sink,h1,h2] at hg
   refine f262W1 0 _ l c ws al n0 j l' i (rv:=()) hE ⟨fun _=>⟨by omega,l'[d+1],by rw [e1]; exact h1,by omega,by omega,l'[d],by rw [e2]; exact h2,⟨k2,k1⟩,fun h=>⟨by omega,by omega,by omega,l'[d],?_,by omega,?_⟩,fun h=>⟨by omega,?_⟩⟩,fun h=>by omega⟩
   · rw [e1,e2,List.getElem?_set_ne (by omega)]; exact h2
   · rw [e1,e2]
     rw [if_pos (by simp only [ltI]; exact decide_eq_true h)] at hg
     refine ih _ _ i (by omega) (fun x hx=>hk x (swap_mem h1 h2 hx)) (by simp; omega) (by simp; omega) hi hg
   · rw [if_neg (by simp only [ltI]; simpa using h)] at hg
     exact hg
 have outer:∀ (m k:Nat) (l':List Int),(k+1)+m=l.length→l'=(List.range k).foldl (fun l k=>sink (ltI c ws al) (k+1) l) l→l'.length=l.length→(∀ x ∈ l',YG c ws al x)→qR E 0 (l.length:Int) l c ws al n0 l' (0+1+k):=by
  intro m
  induction m with
  | zero =>
   intro k l' hkm hl' hlen hk'
   refine f262W0 0 _ l c ws al n0 l' _ (rv:=()) hE ⟨fun h=>by omega,fun _=>?_⟩
   rw [hl',XI]; congr 2; omega
  | succ m ih =>
   intro k l' hkm hl' hlen hk'
   refine f262W0 0 _ l c ws al n0 l' _ (rv:=()) hE ⟨fun _=>inner (k+1) l' _ _ (by omega) hk' (by omega) (by omega) (by omega) ?_,fun h=>by omega⟩
   have:=ih (k+1) (sink (ltI c ws al) (k+1) l') (by omega) (by rw [List.range_succ,List.foldl_append,← hl']; rfl) (by rw [Wt]; exact hlen) (fun x hx=>hk' x (yj hx))
   have e:(0+1+(k:Int)+1)=0+1+((k+1:Nat):Int):=by omega
   rw [e]; exact this
 refine f262W 0 _ l c ws al n0 (rv:=()) hE ⟨by omega,?_⟩
 by_cases h0:l.length=0
 · refine f262W0 0 _ l c ws al n0 l _ (rv:=()) hE ⟨fun h=>by omega,fun _=>?_⟩
   rw [XI,h0]; rfl
 · exact outer (l.length - 1) 0 l (by omega) rfl rfl hk
theorem ins15_ok (l:List Int) (c:Int) (ws:List Int) (al:Int) (n0:Nat) (a b:Int) (h:(∀ x ∈ l,YG c ws al x)∧l.length≤15∧a=0∧b=(l.length:Int)) :
 Lent Try.prog 262 [.sl 0 n0 0 l.length 1,.int .i64 a,.int .i64 b,.clos 161 [] [.ptr 1 0 0]] [⟨true,n0,1,true,rowI l,true⟩,⟨true,0,1,false,[.clos 159 [] [.ptr 2 0 0,.ptr 3 0 0,.ptr 4 0 0]],false⟩,⟨true,0,1,true,[.int .i64 c],false⟩,⟨true,0,1,true,[.rsl (rowI ws) 0 ws.length],false⟩,⟨true,0,1,true,[.int .i64 al],false⟩] (.tup []) [⟨true,n0,1,true,rowI (XI (ltI c ws al) l),true⟩,⟨true,0,1,false,[.clos 159 [] [.ptr 2 0 0,.ptr 3 0 0,.ptr 4 0 0]],false⟩,⟨true,0,1,true,[.int .i64 c],false⟩,⟨true,0,1,true,[.rsl (rowI ws) 0 ws.length],false⟩,⟨true,0,1,true,[.int .i64 al],false⟩]:=by
 obtain ⟨h1,h2,rfl,rfl⟩:=h
 exact ins_ok l c ws al n0 h1 (by omega)
theorem f219b:Try.f219.body=some (Qb Try.prog 219):=by kernel_rfl
def f219K0 (P:Program):List Item:=kAt 400 [.code (Qb P 219)] [.stop]
def f219S0 (n:Int) (l:List Int) (c:Int) (ws:List Int) (al:Int) (n0:Nat) (a:Nat) (b:Nat) (v0:List Int):St:=⟨([.sl 0 n0 0 v0.length 1,.int .i64 n,.clos 161 [] [.ptr 1 0 0],J,J,J,.int .i64 20,.int .i64 (a:Int),.int .i64 (b:Int)]++Js 54),[⟨true,n0,1,true,(rowI v0),true⟩,⟨true,0,1,false,[.clos 159 [] [.ptr 2 0 0,.ptr 3 0 0,.ptr 4 0 0]],false⟩,⟨true,0,1,true,[.int .i64 c],false⟩,⟨true,0,1,true,[.rsl (rowI ws) 0 ws.length],false⟩,⟨true,0,1,true,[.int .i64 al],false⟩]⟩
def f219G0 (E:Env) (n:Int) (l:List Int) (c:Int) (ws:List Int) (al:Int) (n0:Nat) (a:Nat) (b:Nat) (v0:List Int):Prop:=G Try.prog E (f219K0 Try.prog) (f219S0 n l c ws al n0 a b v0 )
def f219K1 (P:Program):List Item:=kAt 400 [.code (Qb P 219)] [.b false,.stop]
def f219S1 (n:Int) (l:List Int) (c:Int) (ws:List Int) (al:Int) (n0:Nat) (v0:List Int) (blockSize:Int):St:=⟨([.sl 0 n0 0 v0.length 1,.int .i64 n,.clos 161 [] [.ptr 1 0 0],J,J,J,.int .i64 blockSize]++Js 56),[⟨true,n0,1,true,(rowI v0),true⟩,⟨true,0,1,false,[.clos 159 [] [.ptr 2 0 0,.ptr 3 0 0,.ptr 4 0 0]],false⟩,⟨true,0,1,true,[.int .i64 c],false⟩,⟨true,0,1,true,[.rsl (rowI ws) 0 ws.length],false⟩,⟨true,0,1,true,[.int .i64 al],false⟩]⟩
def f219G1 (E:Env) (n:Int) (l:List Int) (c:Int) (ws:List Int) (al:Int) (n0:Nat) (v0:List Int) (blockSize:Int):Prop:=G Try.prog E (f219K1 Try.prog) (f219S1 n l c ws al n0 v0 blockSize )
def f219K2 (P:Program):List Item:=kAt 400 [.code (Qb P 219)] [.b false,.b true,.stop]
def f219S2 (n:Int) (l:List Int) (c:Int) (ws:List Int) (al:Int) (n0:Nat) (v0:List Int) (blockSize:Int) (b:Int):St:=⟨([.sl 0 n0 0 v0.length 1,.int .i64 n,.clos 161 [] [.ptr 1 0 0],J,J,J,.int .i64 blockSize,.int .i64 0,.int .i64 b]++Js 54),[⟨true,n0,1,true,(rowI v0),true⟩,⟨true,0,1,false,[.clos 159 [] [.ptr 2 0 0,.ptr 3 0 0,.ptr 4 0 0]],false⟩,⟨true,0,1,true,[.int .i64 c],false⟩,⟨true,0,1,true,[.rsl (rowI ws) 0 ws.length],false⟩,⟨true,0,1,true,[.int .i64 al],false⟩]⟩
def f219G2 (E:Env) (n:Int) (l:List Int) (c:Int) (ws:List Int) (al:Int) (n0:Nat) (v0:List Int) (blockSize:Int) (b:Int):Prop:=G Try.prog E (f219K2 Try.prog) (f219S2 n l c ws al n0 v0 blockSize b )
theorem p219_start_0 (n:Int) (l:List Int) (c:Int) (ws:List Int) (al:Int) (n0:Nat) {E:Env} {rv:AV} {bs2:List Blk} (hE:LentE Try.prog 219 [.sl 4 0 0 0 1] rv bs2 E) (ho:AllP [])
 (hg:G Try.prog E (f219K0 Try.prog) ⟨([.sl 0 n0 0 l.length 1,.int .i64 n,.clos 161 [] [.ptr 1 0 0],J,J,J,.int .i64 20,.int .i64 0,.int .i64 20]++Js 54),[⟨true,n0,1,true,(rowI l),true⟩,⟨true,0,1,false,[.clos 159 [] [.ptr 2 0 0,.ptr 3 0 0,.ptr 4 0 0]],false⟩,⟨true,0,1,true,[.int .i64 c],false⟩,⟨true,0,1,true,[.rsl (rowI ws) 0 ws.length],false⟩,⟨true,0,1,true,[.int .i64 al],false⟩]⟩):G Try.prog E [.code (Qb Try.prog 219)] ⟨[.sl 0 n0 0 l.length 1,.int .i64 n,.clos 161 [] [.ptr 1 0 0]]++unds (Try.f219.ntmps - 3),[⟨true,n0,1,true,(rowI l),true⟩,⟨true,0,1,false,[.clos 159 [] [.ptr 2 0 0,.ptr 3 0 0,.ptr 4 0 0]],false⟩,⟨true,0,1,true,[.int .i64 c],false⟩,⟨true,0,1,true,[.rsl (rowI ws) 0 ws.length],false⟩,⟨true,0,1,true,[.int .i64 al],false⟩]⟩ :=
 Qh (n:=400) (ds:=[]) (cs:=[]) (live:=[0,1,2,6,7,8]) (m:=5) (evs:=[.stop]) (obs:=_) hE.kind (hE.nogh (by kernel_rfl)) Qy (by kernel_rfl) ho hg
theorem f219W (n:Int) (l:List Int) (c:Int) (ws:List Int) (al:Int) (n0:Nat) {E:Env} {rv:Unit} {lo:List Int} (hE:LentE Try.prog 219 [.sl 4 0 0 0 1] (.tup []) [⟨true,n0,1,true,(rowI lo),true⟩,⟨true,0,1,false,[.clos 159 [] [.ptr 2 0 0,.ptr 3 0 0,.ptr 4 0 0]],false⟩,⟨true,0,1,true,[.int .i64 c],false⟩,⟨true,0,1,true,[.rsl (rowI ws) 0 ws.length],false⟩,⟨true,0,1,true,[.int .i64 al],false⟩] E)
 (h:f219G0 E n l c ws al n0 0 20 l):G Try.prog E [.code (Qb Try.prog 219)] ⟨[.sl 0 n0 0 l.length 1,.int .i64 n,.clos 161 [] [.ptr 1 0 0]]++unds (Try.f219.ntmps - 3),[⟨true,n0,1,true,(rowI l),true⟩,⟨true,0,1,false,[.clos 159 [] [.ptr 2 0 0,.ptr 3 0 0,.ptr 4 0 0]],false⟩,⟨true,0,1,true,[.int .i64 c],false⟩,⟨true,0,1,true,[.rsl (rowI ws) 0 ws.length],false⟩,⟨true,0,1,true,[.int .i64 al],false⟩]⟩:=by
 exact p219_start_0 n l c ws al n0 hE trivial h
theorem p219_0_0 (n:Int) (l:List Int) (c:Int) (ws:List Int) (al:Int) (n0:Nat) (a:Nat) (b:Nat) (v0:List Int) {E:Env} {rv:AV} {bs2:List Blk} (hE:LentE Try.prog 219 [.sl 4 0 0 0 1] rv bs2 E) (ho:AllP [(decide ((b:Int)≤n))=true,YF Try.prog (.clos 262 [] []) [.sl 0 n0 0 v0.length 1,.int .i64 (a:Int),.int .i64 (b:Int),.clos 161 [] [.ptr 1 0 0]] [⟨true,n0,1,true,(rowI v0),true⟩,⟨true,0,1,false,[.clos 159 [] [.ptr 2 0 0,.ptr 3 0 0,.ptr 4 0 0]],false⟩,⟨true,0,1,true,[.int .i64 c],false⟩,⟨true,0,1,true,[.rsl (rowI ws) 0 ws.length],false⟩,⟨true,0,1,true,[.int .i64 al],false⟩] (.tup []) [⟨true,n0,1,true,(rowI (XI (ltI c ws al) v0)),true⟩,⟨true,0,1,false,[.clos 159 [] [.ptr 2 0 0,.ptr 3 0 0,.ptr 4 0 0]],false⟩,⟨true,0,1,true,[.int .i64 c],false⟩,⟨true,0,1,true,[.rsl (rowI ws) 0 ws.length],false⟩,⟨true,0,1,true,[.int .i64 al],false⟩],InR .i64 ((b:Int)+20)])
 (hg:G Try.prog E (f219K0 Try.prog) ⟨([.sl 0 n0 0 v0.length 1,.int .i64 n,.clos 161 [] [.ptr 1 0 0],J,J,J,.int .i64 20,.int .i64 (b:Int),.int .i64 ((b:Int)+20)]++Js 54),[⟨true,n0,1,true,(rowI (XI (ltI c ws al) v0)),true⟩,⟨true,0,1,false,[.clos 159 [] [.ptr 2 0 0,.ptr 3 0 0,.ptr 4 0 0]],false⟩,⟨true,0,1,true,[.int .i64 c],false⟩,⟨true,0,1,true,[.rsl (rowI ws) 0 ws.length],false⟩,⟨true,0,1,true,[.int .i64 al],false⟩]⟩):G Try.prog E (f219K0 Try.prog) (f219S0 n l c ws al n0 a b v0 ) :=
 Qh (n:=400) (ds:=[]) (cs:=[]) (live:=[0,1,2,6,7,8]) (m:=5) (evs:=[.b true,.lent [0,1,2,3,4] (.tup []) [⟨true,n0,1,true,(rowI (XI (ltI c ws al) v0)),true⟩,⟨true,0,1,false,[.clos 159 [] [.ptr 2 0 0,.ptr 3 0 0,.ptr 4 0 0]],false⟩,⟨true,0,1,true,[.int .i64 c],false⟩,⟨true,0,1,true,[.rsl (rowI ws) 0 ws.length],false⟩,⟨true,0,1,true,[.int .i64 al],false⟩],.stop]) (obs:=_) hE.kind (hE.nogh (by kernel_rfl)) Qy (by kernel_rfl) ho hg
theorem p219_0_1 (n:Int) (l:List Int) (c:Int) (ws:List Int) (al:Int) (n0:Nat) (a:Nat) (b:Nat) (v0:List Int) {E:Env} {rv:AV} {bs2:List Blk} (hE:LentE Try.prog 219 [.sl 4 0 0 0 1] rv bs2 E) (ho:AllP [(decide ((b:Int)≤n))=false,YF Try.prog (.clos 262 [] []) [.sl 0 n0 0 v0.length 1,.int .i64 (a:Int),.int .i64 n,.clos 161 [] [.ptr 1 0 0]] [⟨true,n0,1,true,(rowI v0),true⟩,⟨true,0,1,false,[.clos 159 [] [.ptr 2 0 0,.ptr 3 0 0,.ptr 4 0 0]],false⟩,⟨true,0,1,true,[.int .i64 c],false⟩,⟨true,0,1,true,[.rsl (rowI ws) 0 ws.length],false⟩,⟨true,0,1,true,[.int .i64 al],false⟩] (.tup []) [⟨true,n0,1,true,(rowI (XI (ltI c ws al) v0)),true⟩,⟨true,0,1,false,[.clos 159 [] [.ptr 2 0 0,.ptr 3 0 0,.ptr 4 0 0]],false⟩,⟨true,0,1,true,[.int .i64 c],false⟩,⟨true,0,1,true,[.rsl (rowI ws) 0 ws.length],false⟩,⟨true,0,1,true,[.int .i64 al],false⟩]])
 (hg:G Try.prog E (f219K1 Try.prog) ⟨([.sl 0 n0 0 v0.length 1,.int .i64 n,.clos 161 [] [.ptr 1 0 0],J,J,J,.int .i64 20]++Js 56),[⟨true,n0,1,true,(rowI (XI (ltI c ws al) v0)),true⟩,⟨true,0,1,false,[.clos 159 [] [.ptr 2 0 0,.ptr 3 0 0,.ptr 4 0 0]],false⟩,⟨true,0,1,true,[.int .i64 c],false⟩,⟨true,0,1,true,[.rsl (rowI ws) 0 ws.length],false⟩,⟨true,0,1,true,[.int .i64 al],false⟩]⟩):G Try.prog E (f219K0 Try.prog) (f219S0 n l c ws al n0 a b v0 ) :=
 Qh (n:=400) (ds:=[]) (cs:=[]) (live:=[0,1,2,6]) (m:=5) (evs:=[.b false,.lent [0,1,2,3,4] (.tup []) [⟨true,n0,1,true,(rowI (XI (ltI c ws al) v0)),true⟩,⟨true,0,1,false,[.clos 159 [] [.ptr 2 0 0,.ptr 3 0 0,.ptr 4 0 0]],false⟩,⟨true,0,1,true,[.int .i64 c],false⟩,⟨true,0,1,true,[.rsl (rowI ws) 0 ws.length],false⟩,⟨true,0,1,true,[.int .i64 al],false⟩],.stop]) (obs:=_) hE.kind (hE.nogh (by kernel_rfl)) Qy (by kernel_rfl) ho hg
theorem f219W0 (n:Int) (l:List Int) (c:Int) (ws:List Int) (al:Int) (n0:Nat) (a:Nat) (b:Nat) (v0:List Int) {E:Env} {rv:Unit} {lo:List Int} (hE:LentE Try.prog 219 [.sl 4 0 0 0 1] (.tup []) [⟨true,n0,1,true,(rowI lo),true⟩,⟨true,0,1,false,[.clos 159 [] [.ptr 2 0 0,.ptr 3 0 0,.ptr 4 0 0]],false⟩,⟨true,0,1,true,[.int .i64 c],false⟩,⟨true,0,1,true,[.rsl (rowI ws) 0 ws.length],false⟩,⟨true,0,1,true,[.int .i64 al],false⟩] E)
 (h:(((b:Int)≤n→(((∀ x ∈ v0,YG c ws al x)∧v0.length≤15∧(a:Int)=0∧(b:Int)=(v0.length:Int))∧((I6 ((b:Int)+20))∧f219G0 E n l c ws al n0 b (b+20) (XI (ltI c ws al) v0))))∧(¬ ((b:Int)≤n)→(((∀ x ∈ v0,YG c ws al x)∧v0.length≤15∧(a:Int)=0∧n=(v0.length:Int))∧f219G1 E n l c ws al n0 (XI (ltI c ws al) v0) 20)))):f219G0 E n l c ws al n0 a b v0:=by
 rcases bft (decide ((b:Int)≤n)) with hc0 | hc0
 · have h:=h.1 (odt hc0)
   obtain ⟨h1,h⟩:=h
   obtain ⟨q2_1,h⟩:=h
   refine p219_0_0 n l c ws al n0 a b v0 hE ⟨hc0,(XT Try.func262 (by kernel_rfl) f262b (ins15_ok v0 c ws al n0 (a:Int) (b:Int) h1)),q2_1,trivial⟩ ?_
   have h:=h
   simp only [f219G0,f219S0,List.length_set,Vk] at h
   skip
   exact h
 · have h:=h.2 (odf hc0)
   obtain ⟨h1,h⟩:=h
   refine p219_0_1 n l c ws al n0 a b v0 hE ⟨hc0,(XT Try.func262 (by kernel_rfl) f262b (ins15_ok v0 c ws al n0 (a:Int) n h1)),trivial⟩ ?_
   have h:=h
   simp only [f219G1,f219S1,List.length_set,Vk] at h
   skip
   exact h
theorem p219_1_0 (n:Int) (l:List Int) (c:Int) (ws:List Int) (al:Int) (n0:Nat) (v0:List Int) (blockSize:Int) {E:Env} {rv:AV} {bs2:List Blk} (hE:LentE Try.prog 219 [.sl 4 0 0 0 1] rv bs2 E) (ho:AllP [(decide (blockSize<n))=true,InR .i64 (2*blockSize)])
 (hg:G Try.prog E (f219K2 Try.prog) ⟨([.sl 0 n0 0 v0.length 1,.int .i64 n,.clos 161 [] [.ptr 1 0 0],J,J,J,.int .i64 blockSize,.int .i64 0,.int .i64 (2*blockSize)]++Js 54),[⟨true,n0,1,true,(rowI v0),true⟩,⟨true,0,1,false,[.clos 159 [] [.ptr 2 0 0,.ptr 3 0 0,.ptr 4 0 0]],false⟩,⟨true,0,1,true,[.int .i64 c],false⟩,⟨true,0,1,true,[.rsl (rowI ws) 0 ws.length],false⟩,⟨true,0,1,true,[.int .i64 al],false⟩]⟩):G Try.prog E (f219K1 Try.prog) (f219S1 n l c ws al n0 v0 blockSize ) :=
 Qh (n:=400) (ds:=[]) (cs:=[]) (live:=[0,1,2,6,7,8]) (m:=5) (evs:=[.b true,.stop]) (obs:=_) hE.kind (hE.nogh (by kernel_rfl)) Qy (by kernel_rfl) ho hg
theorem p219_1_1 (n:Int) (l:List Int) (c:Int) (ws:List Int) (al:Int) (n0:Nat) (v0:List Int) (blockSize:Int) {E:Env} {res:AV} {bs2:List Blk} (hE:LentE Try.prog 219 [.sl 4 0 0 0 1] res bs2 E) (ho:AllP [(decide (blockSize<n))=false])
 (hr:(.tup [])=res) (hb:[⟨true,n0,1,true,(rowI v0),true⟩,⟨true,0,1,false,[.clos 159 [] [.ptr 2 0 0,.ptr 3 0 0,.ptr 4 0 0]],false⟩,⟨true,0,1,true,[.int .i64 c],false⟩,⟨true,0,1,true,[.rsl (rowI ws) 0 ws.length],false⟩,⟨true,0,1,true,[.int .i64 al],false⟩]=bs2):G Try.prog E (f219K1 Try.prog) (f219S1 n l c ws al n0 v0 blockSize ) :=
 Ye (n:=400) (live:=[]) (m:=5) (evs:=[.b false]) (obs:=_) hE (hE.nogh (by kernel_rfl)) Try.func219 Qy (by kernel_rfl) ho hr hb
theorem f219W1 (n:Int) (l:List Int) (c:Int) (ws:List Int) (al:Int) (n0:Nat) (v0:List Int) (blockSize:Int) {E:Env} {rv:Unit} {lo:List Int} (hE:LentE Try.prog 219 [.sl 4 0 0 0 1] (.tup []) [⟨true,n0,1,true,(rowI lo),true⟩,⟨true,0,1,false,[.clos 159 [] [.ptr 2 0 0,.ptr 3 0 0,.ptr 4 0 0]],false⟩,⟨true,0,1,true,[.int .i64 c],false⟩,⟨true,0,1,true,[.rsl (rowI ws) 0 ws.length],false⟩,⟨true,0,1,true,[.int .i64 al],false⟩] E)
 (h:((blockSize<n→((I6 (2*blockSize))∧f219G2 E n l c ws al n0 v0 blockSize (2*blockSize)))∧(¬ (blockSize<n)→lo=v0))):f219G1 E n l c ws al n0 v0 blockSize:=by
 rcases bft (decide (blockSize<n)) with hc0 | hc0
 · have h:=h.1 (odt hc0)
   obtain ⟨q1_1,h⟩:=h
   exact p219_1_0 n l c ws al n0 v0 blockSize hE ⟨hc0,q1_1,trivial⟩ h
 · have h:=h.2 (odf hc0)
   have qe0:=h
   exact p219_1_1 n l c ws al n0 v0 blockSize hE ⟨hc0,trivial⟩ (by try rfl) (by rw [qe0]; all_goals (first | rfl | (simp only [List.length_set]; done) | (simp only [List.length_set]; rfl)))
theorem stable_ok (l:List Int) (c:Int) (ws:List Int) (al:Int) (n0:Nat) (n:Int) (h:(∀ x ∈ l,YG c ws al x)∧l.length≤15∧n=(l.length:Int)) :
 Lent Try.prog 219 [.sl 0 n0 0 l.length 1,.int .i64 n,.clos 161 [] [.ptr 1 0 0]] [⟨true,n0,1,true,rowI l,true⟩,⟨true,0,1,false,[.clos 159 [] [.ptr 2 0 0,.ptr 3 0 0,.ptr 4 0 0]],false⟩,⟨true,0,1,true,[.int .i64 c],false⟩,⟨true,0,1,true,[.rsl (rowI ws) 0 ws.length],false⟩,⟨true,0,1,true,[.int .i64 al],false⟩] (.tup []) [⟨true,n0,1,true,rowI (XI (ltI c ws al) l),true⟩,⟨true,0,1,false,[.clos 159 [] [.ptr 2 0 0,.ptr 3 0 0,.ptr 4 0 0]],false⟩,⟨true,0,1,true,[.int .i64 c],false⟩,⟨true,0,1,true,[.rsl (rowI ws) 0 ws.length],false⟩,⟨true,0,1,true,[.int .i64 al],false⟩]:=by
 obtain ⟨h1,h2,rfl⟩:=h
 refine yC _ Try.func219 f219b rfl rfl fun E hE=>?_
 refine f219W _ l c ws al n0 (rv:=()) hE ?_
 refine f219W0 _ l c ws al n0 _ _ _ (rv:=()) hE ⟨fun h=>by omega,fun _=>⟨⟨h1,h2,rfl,rfl⟩,?_⟩⟩
 exact f219W1 _ l c ws al n0 _ _ (rv:=()) hE ⟨fun h=>by omega,fun _=>rfl⟩
theorem f160b:Try.f160.body=some (Qb Try.prog 160):=by kernel_rfl
theorem p160_start_0 (l:List Int) (c:Int) (ws:List Int) (al:Int) (n0:Nat) {E:Env} {res:AV} {bs2:List Blk} (hE:LentE Try.prog 160 [.sl 4 0 0 0 1] res bs2 E) (ho:AllP [n0=n0,YF Try.prog (.clos 219 [] []) [.sl 0 n0 0 l.length 1,.int .i64 (l.length:Int),.clos 161 [] [.ptr 1 0 0]] [⟨true,n0,1,true,(rowI l),true⟩,⟨true,0,1,false,[.clos 159 [] [.ptr 2 0 0,.ptr 3 0 0,.ptr 4 0 0]],false⟩,⟨true,0,1,true,[.int .i64 c],false⟩,⟨true,0,1,true,[.rsl (rowI ws) 0 ws.length],false⟩,⟨true,0,1,true,[.int .i64 al],false⟩] (.tup []) [⟨true,n0,1,true,(rowI (XI (ltI c ws al) l)),true⟩,⟨true,0,1,false,[.clos 159 [] [.ptr 2 0 0,.ptr 3 0 0,.ptr 4 0 0]],false⟩,⟨true,0,1,true,[.int .i64 c],false⟩,⟨true,0,1,true,[.rsl (rowI ws) 0 ws.length],false⟩,⟨true,0,1,true,[.int .i64 al],false⟩]])
 (hr:(.tup [])=res) (hb:[⟨true,n0,1,true,(rowI (XI (ltI c ws al) l)),true⟩,⟨true,0,1,false,[.clos 159 [] [.ptr 2 0 0,.ptr 3 0 0,.ptr 4 0 0]],false⟩,⟨true,0,1,true,[.int .i64 c],false⟩,⟨true,0,1,true,[.rsl (rowI ws) 0 ws.length],false⟩,⟨true,0,1,true,[.int .i64 al],false⟩]=bs2):G Try.prog E [.code (Qb Try.prog 160)] ⟨[.sl 0 n0 0 l.length 1,.clos 161 [] [.ptr 1 0 0]]++unds (Try.f160.ntmps - 2),[⟨true,n0,1,true,(rowI l),true⟩,⟨true,0,1,false,[.clos 159 [] [.ptr 2 0 0,.ptr 3 0 0,.ptr 4 0 0]],false⟩,⟨true,0,1,true,[.int .i64 c],false⟩,⟨true,0,1,true,[.rsl (rowI ws) 0 ws.length],false⟩,⟨true,0,1,true,[.int .i64 al],false⟩]⟩ :=
 Ye (n:=400) (live:=[]) (m:=5) (evs:=[.lent [0,1,2,3,4] (.tup []) [⟨true,n0,1,true,(rowI (XI (ltI c ws al) l)),true⟩,⟨true,0,1,false,[.clos 159 [] [.ptr 2 0 0,.ptr 3 0 0,.ptr 4 0 0]],false⟩,⟨true,0,1,true,[.int .i64 c],false⟩,⟨true,0,1,true,[.rsl (rowI ws) 0 ws.length],false⟩,⟨true,0,1,true,[.int .i64 al],false⟩]]) (obs:=_) hE (hE.nogh (by kernel_rfl)) Try.func160 Qy (by kernel_rfl) ho hr hb
theorem f160W (l:List Int) (c:Int) (ws:List Int) (al:Int) (n0:Nat) {E:Env} {rv:Unit} {lo:List Int} (hE:LentE Try.prog 160 [.sl 4 0 0 0 1] (.tup []) [⟨true,n0,1,true,(rowI lo),true⟩,⟨true,0,1,false,[.clos 159 [] [.ptr 2 0 0,.ptr 3 0 0,.ptr 4 0 0]],false⟩,⟨true,0,1,true,[.int .i64 c],false⟩,⟨true,0,1,true,[.rsl (rowI ws) 0 ws.length],false⟩,⟨true,0,1,true,[.int .i64 al],false⟩] E)
 (h:(((∀ x ∈ l,YG c ws al x)∧l.length≤15∧(l.length:Int)=(l.length:Int))∧lo=(XI (ltI c ws al) l))):G Try.prog E [.code (Qb Try.prog 160)] ⟨[.sl 0 n0 0 l.length 1,.clos 161 [] [.ptr 1 0 0]]++unds (Try.f160.ntmps - 2),[⟨true,n0,1,true,(rowI l),true⟩,⟨true,0,1,false,[.clos 159 [] [.ptr 2 0 0,.ptr 3 0 0,.ptr 4 0 0]],false⟩,⟨true,0,1,true,[.int .i64 c],false⟩,⟨true,0,1,true,[.rsl (rowI ws) 0 ws.length],false⟩,⟨true,0,1,true,[.int .i64 al],false⟩]⟩:=by
 obtain ⟨h1,h⟩:=h
 have qe0:=h
 exact p160_start_0 l c ws al n0 hE ⟨rfl,(XT Try.func219 (by kernel_rfl) f219b (stable_ok l c ws al n0 (l.length:Int) h1)),trivial⟩ (by try rfl) (by rw [qe0]; all_goals (first | rfl | (simp only [List.length_set]; done) | (simp only [List.length_set]; rfl)))
theorem sort_ok (l:List Int) (c:Int) (ws:List Int) (al:Int) (n0:Nat) (h:(∀ x ∈ l,YG c ws al x)∧l.length≤15) :
 Lent Try.prog 160 [.sl 0 n0 0 l.length 1,.clos 161 [] [.ptr 1 0 0]] [⟨true,n0,1,true,rowI l,true⟩,⟨true,0,1,false,[.clos 159 [] [.ptr 2 0 0,.ptr 3 0 0,.ptr 4 0 0]],false⟩,⟨true,0,1,true,[.int .i64 c],false⟩,⟨true,0,1,true,[.rsl (rowI ws) 0 ws.length],false⟩,⟨true,0,1,true,[.int .i64 al],false⟩] (.tup []) [⟨true,n0,1,true,rowI (XI (ltI c ws al) l),true⟩,⟨true,0,1,false,[.clos 159 [] [.ptr 2 0 0,.ptr 3 0 0,.ptr 4 0 0]],false⟩,⟨true,0,1,true,[.int .i64 c],false⟩,⟨true,0,1,true,[.rsl (rowI ws) 0 ws.length],false⟩,⟨true,0,1,true,[.int .i64 al],false⟩]:=by
 refine yC _ Try.func160 f160b rfl rfl fun E hE=>?_
 exact f160W l c ws al n0 (rv:=()) hE ⟨⟨h.1,h.2,rfl⟩,rfl⟩
end Go.Proofs.Ytemklbioijmjiaa
namespace Go.Proofs.Ytemklbioijmjiaa
open Go Ax
open Go.Proofs
theorem f158b:Try.f158.body=some (Qb Try.prog 158):=by kernel_rfl
theorem u158 {a c k:List AV} {r:AV} (h:Pure Try.prog 158 (a++c++k) r):Qi Try.prog (.clos 158 a k) c r:=Qk Try.func158 (by kernel_rfl) f158b h
def f158K0 (P:Program):List Item:=kAt 400 [.code (Qb P 158)] [.stop]
def f158S0 (l:(List Int)) (n:Int) (i:Nat):St:=⟨([J,J,.int .i64 n,J,J,.rsl (rowI l) 0 l.length,.int .i64 (l.length:Int),.int .i64 (i:Int)]++Js 8),[]⟩
def f158G0 (E:Env) (l:(List Int)) (n:Int) (i:Nat):Prop:=G Try.prog E (f158K0 Try.prog) (f158S0 l n i )
theorem p158_start_0 (l:(List Int)) {E:Env} {rv:AV} (hE:Qg Try.prog 158 rv E) (ho:AllP [])
 (hg:G Try.prog E (f158K0 Try.prog) ⟨([J,J,.int .i64 0,J,J,.rsl (rowI l) 0 l.length,.int .i64 (l.length:Int),.int .i64 0]++Js 8),[]⟩):G Try.prog E [.code (Qb Try.prog 158)] ⟨[.rsl (rowI l) 0 l.length]++unds (Try.f158.ntmps - 1),[]⟩ :=
 Qh (n:=400) (ds:=[]) (cs:=[]) (live:=[2,5,6,7]) (m:=0) (evs:=[.stop]) (obs:=_) hE.2.1 (hE.nogh _) Qy (by kernel_rfl) ho hg
theorem f158W (l:(List Int)) {E:Env} {rv:Int} (hE:Qg Try.prog 158 (.int .i64 rv) E)
 (h:f158G0 E l 0 0):G Try.prog E [.code (Qb Try.prog 158)] ⟨[.rsl (rowI l) 0 l.length]++unds (Try.f158.ntmps - 1),[]⟩:=by
 exact p158_start_0 l hE trivial h
theorem p158_0_0 (l:(List Int)) (n:Int) (i:Nat) (e:Int) {E:Env} {rv:AV} (hE:Qg Try.prog 158 rv E) (ho:AllP [(decide ((i:Int)<(l.length:Int)))=true,0≤(i:Int)∧(i:Int)<(l.length:Int),((rowI l).drop (0+(Int.toNat (i:Int))*1)).take 1=[.int .i64 e],InR .i64 (n+e),InR .i64 ((i:Int)+1)])
 (hg:G Try.prog E (f158K0 Try.prog) ⟨([J,J,.int .i64 (n+e),J,J,.rsl (rowI l) 0 l.length,.int .i64 (l.length:Int),.int .i64 ((i:Int)+1)]++Js 8),[]⟩):G Try.prog E (f158K0 Try.prog) (f158S0 l n i ) :=
 Qh (n:=400) (ds:=[]) (cs:=[]) (live:=[2,5,6,7]) (m:=0) (evs:=[.b true,.ld (.int .i64 e),.stop]) (obs:=_) hE.2.1 (hE.nogh _) Qy (by kernel_rfl) ho hg
theorem p158_0_1 (l:(List Int)) (n:Int) (i:Nat) {E:Env} {res:AV} (hE:Qg Try.prog 158 res E) (ho:AllP [(decide ((i:Int)<(l.length:Int)))=false])
 (hr:AvLe (.int .i64 n) res):G Try.prog E (f158K0 Try.prog) (f158S0 l n i ) :=
 Qa (n:=400) (evs:=[.b false]) (obs:=_) hE Try.func158 Qy (by kernel_rfl) ho hr
theorem f158W0 (l:(List Int)) (n:Int) (i:Nat) {E:Env} {rv:Int} (hE:Qg Try.prog 158 (.int .i64 rv) E)
 (h:(((i:Int)<(l.length:Int)→(∃ e:Int,l[i]?=some e∧((I6 (n+e))∧((I6 ((i:Int)+1))∧f158G0 E l (n+e) (i+1)))))∧(¬ ((i:Int)<(l.length:Int))→rv=n))):f158G0 E l n i:=by
 rcases bft (decide ((i:Int)<(l.length:Int))) with hc0 | hc0
 · have h:=h.1 (odt hc0)
   obtain ⟨e,h1,h⟩:=h
   obtain ⟨q4_1,h⟩:=h
   obtain ⟨q5_1,h⟩:=h
   exact p158_0_0 l n i e hE ⟨hc0,(Qq h1),(rp cI 1 0 1 h1),q4_1,q5_1,trivial⟩ h
 · have h:=h.2 (odf hc0)
   exact p158_0_1 l n i hE ⟨hc0,trivial⟩ (AvLe.of_eq (by rw [h]; try rfl))
def sumI (l:List Int):Int:=l.sum
def SumOk (l:List Int):Prop:=l.length≤9223372036854775807∧∀ k,k≤l.length→-9223372036854775808≤(l.take k).sum∧(l.take k).sum≤9223372036854775807
theorem sum_take {l:List Int} {i:Nat} {e:Int} (h:l[i]?=some e):(l.take (i+1)).sum=(l.take i).sum+e:=by
 rw [List.take_add_one,h,List.sum_append]; simp
theorem sum_ok (l:List Int) (h:SumOk l):Pure Try.prog 158 [.rsl (rowI l) 0 l.length] (.int .i64 (sumI l)):=Qs Try.func158 f158b fun E hE=>by
 have key:∀ (d i:Nat),i+d=l.length→f158G0 E l (l.take i).sum i:=by
  intro d
  induction d with
  | zero =>
   intro i hd
   refine f158W0 l _ i (rv:=sumI l) hE ⟨fun h=>by omega,fun _=>?_⟩
   rw [List.take_of_length_le (by omega)]; rfl
  | succ d ih =>
   intro i hd
   have hi:l[i]?=some l[i]:=List.getElem?_eq_getElem (by omega)
   have h1:=h.2 (i+1) (by omega)
   have h2:=ih (i+1) (by omega)
   rw [sum_take hi] at h1 h2
   have h3:=h.1
   exact f158W0 l _ i (rv:=sumI l) hE ⟨fun _=>⟨_,hi,h1,by omega,h2⟩,fun h=>by omega⟩
 exact f158W l hE (key l.length 0 (by omega))
def Qw (n:Int):Bool:=Qt n 0 1000000000
theorem f85b:Try.f85.body=some (Qb Try.prog 85):=by kernel_rfl
theorem u85 {a c k:List AV} {r:AV} (h:Pure Try.prog 85 (a++c++k) r):Qi Try.prog (.clos 85 a k) c r:=Qk Try.func85 (by kernel_rfl) f85b h
theorem p85_start_0 (n:Int) {E:Env} {res:AV} (hE:Qg Try.prog 85 res E) (ho:AllP [Qi Try.prog (.clos 110 [] []) [.int .i64 n,.int .i64 0,.int .i64 1000000000] (.bool (Qt n 0 1000000000))])
 (hr:AvLe (.bool (Qt n 0 1000000000)) res):G Try.prog E [.code (Qb Try.prog 85)] ⟨[.int .i64 n]++unds (Try.f85.ntmps - 1),[]⟩ :=
 Qa (n:=400) (evs:=[.v (.bool (Qt n 0 1000000000))]) (obs:=_) hE Try.func85 Qy (by kernel_rfl) ho hr
theorem f85W (n:Int) {E:Env} {rv:Bool} (hE:Qg Try.prog 85 (.bool rv) E)
 (h:rv=(Qt n 0 1000000000)):G Try.prog E [.code (Qb Try.prog 85)] ⟨[.int .i64 n]++unds (Try.f85.ntmps - 1),[]⟩:=by
 exact p85_start_0 n hE ⟨(u110 (Yr n 0 1000000000)),trivial⟩ (AvLe.of_eq (by rw [h]; try rfl))
theorem f157b:Try.f157.body=some (Qb Try.prog 157):=by kernel_rfl
theorem u157 {a c k:List AV} {r:AV} (h:Pure Try.prog 157 (a++c++k) r):Qi Try.prog (.clos 157 a k) c r:=Qk Try.func157 (by kernel_rfl) f157b h
theorem p157_start_0 (n:Int) {E:Env} {res:AV} (hE:Qg Try.prog 157 res E) (ho:AllP [Qi Try.prog (.clos 110 [] []) [.int .i64 n,.int .i64 0,.int .i64 1000] (.bool (Qt n 0 1000))])
 (hr:AvLe (.bool (!(Qt n 0 1000))) res):G Try.prog E [.code (Qb Try.prog 157)] ⟨[.int .i64 n]++unds (Try.f157.ntmps - 1),[]⟩ :=
 Qa (n:=400) (evs:=[.v (.bool (Qt n 0 1000))]) (obs:=_) hE Try.func157 Qy (by kernel_rfl) ho hr
theorem f157W (n:Int) {E:Env} {rv:Bool} (hE:Qg Try.prog 157 (.bool rv) E)
 (h:rv=(!(Qt n 0 1000))):G Try.prog E [.code (Qb Try.prog 157)] ⟨[.int .i64 n]++unds (Try.f157.ntmps - 1),[]⟩:=by
 exact p157_start_0 n hE ⟨(u110 (Yr n 0 1000)),trivial⟩ (AvLe.of_eq (by rw [h]; try rfl))
theorem Yy (n:Int):Pure Try.prog 85 [.int .i64 n] (.bool (Qw n)):=Qs Try.func85 f85b fun E hE=>f85W n hE rfl
theorem Wb (n:Int):Pure Try.prog 157 [.int .i64 n] (.bool (!Qt n 0 1000)):=Qs Try.func157 f157b fun E hE=>f157W n hE rfl
/-- The first place where it holds; -1 if there is none. -/
def idxI (p:Int→Bool) (l:List Int):Int:=match l.findIdx? p with
 | some i=>(i:Int)
 | none=>-1
theorem idx_from (p:Int→Bool) (l:List Int):∀ (d i:Nat),i+d=l.length→(∀ j x,j<i→l[j]?=some x→p x=false)→∀ (Q:Nat→Prop),(∀ i,i<l.length→(∀ x,l[i]?=some x→(p x=true→idxI p l=i))→(∀ x,l[i]?=some x→p x=false→Q (i+1))→Q i) →
 ((∀ x ∈ l,p x=false)→idxI p l=-1→Q l.length)→Q i:=by
 intro d
 induction d with
 | zero =>
  intro i hi hp Q h1 h2
  have:i=l.length:=by omega
  subst this
  have hall:∀ x ∈ l,p x=false:=fun x hx=>by
   obtain ⟨j,hj⟩:=List.getElem?_of_mem hx
   exact hp j x (List.getElem?_eq_some_iff.1 hj).1 hj
  exact h2 hall (by simp only [idxI]; rw [List.findIdx?_eq_none_iff.2 hall])
 | succ d ih =>
  intro i hi hp Q h1 h2
  refine h1 i (by omega) (fun x hx hpx=>?_) (fun x hx hpx=>ih (i+1) (by omega) (fun j y hj hy=>?_) Q h1 h2)
  · have:l.findIdx? p=some i:=by
     rw [List.findIdx?_eq_some_iff_getElem]
     have hlt:=(List.getElem?_eq_some_iff.1 hx).1
     have he:=(List.getElem?_eq_some_iff.1 hx).2
     refine ⟨hlt,by rw [he]; exact hpx,fun j hj=>?_⟩
     have:=hp j _ hj (List.getElem?_eq_getElem (by omega))
     simp [this]
    simp only [idxI,this]
  · rcases Nat.lt_or_ge j i with h | h
    · exact hp j y h hy
    · have:j=i:=by omega
      subst this
      rw [hx] at hy; cases hy; exact hpx
theorem idx_any (p:Int→Bool) (l:List Int):decide (idxI p l≥0)=l.any p:=by
 cases h:l.findIdx? p with
 | none =>
  have e:idxI p l=-1:=by simp only [idxI,h]
  rw [e]
  rw [List.findIdx?_eq_none_iff] at h
  rw [show l.any p=false from by simpa using fun x hx=>by simpa using h x hx]; rfl
 | some i =>
  have e:idxI p l=(i:Int):=by simp only [idxI,h]
  rw [e]
  have:=List.findIdx?_eq_some_iff_getElem.1 h
  obtain ⟨h1,h2,-⟩:=this
  have:l.any p=true:=by rw [List.any_eq_true]; exact ⟨l[i],List.getElem_mem _,h2⟩
  rw [this]; simp
theorem f156b:Try.f156.body=some (Qb Try.prog 156):=by kernel_rfl
theorem u156 {a c k:List AV} {r:AV} (h:Pure Try.prog 156 (a++c++k) r):Qi Try.prog (.clos 156 a k) c r:=Qk Try.func156 (by kernel_rfl) f156b h
theorem p156_start_0 (n:Int) {E:Env} {res:AV} (hE:Qg Try.prog 156 res E) (ho:AllP [Qi Try.prog (.clos 85 [] []) [.int .i64 n] (.bool (Qw n))])
 (hr:AvLe (.bool (!(Qw n))) res):G Try.prog E [.code (Qb Try.prog 156)] ⟨[.int .i64 n]++unds (Try.f156.ntmps - 1),[]⟩ :=
 Qa (n:=400) (evs:=[.v (.bool (Qw n))]) (obs:=_) hE Try.func156 Qy (by kernel_rfl) ho hr
theorem f156W (n:Int) {E:Env} {rv:Bool} (hE:Qg Try.prog 156 (.bool rv) E)
 (h:rv=(!(Qw n))):G Try.prog E [.code (Qb Try.prog 156)] ⟨[.int .i64 n]++unds (Try.f156.ntmps - 1),[]⟩:=by
 exact p156_start_0 n hE ⟨(u85 (Yy n)),trivial⟩ (AvLe.of_eq (by rw [h]; try rfl))
theorem Wc (n:Int):Pure Try.prog 156 [.int .i64 n] (.bool (!Qw n)):=Qs Try.func156 f156b fun E hE=>f156W n hE rfl
theorem f74ab:Try.f59.body=some (Qb Try.prog 59):=by kernel_rfl
def qN (P:Program):List Item:=kAt 400 [.code (Qb P 59)] [.stop]
def f74aS0 (l:(List Int)) (i:Nat):St:=⟨([.rsl (rowI l) 0 l.length,.clos 156 [] []]++jj 5 ([.int .i64 (l.length:Int),.int .i64 (i:Int)]++Js 10)),[]⟩
def f74aG0 (E:Env) (l:(List Int)) (i:Nat):Prop:=G Try.prog E (qN Try.prog) (f74aS0 l i )
theorem p59a_start_0 (l:(List Int)) {E:Env} {rv:AV} (hE:Qg Try.prog 59 rv E) (ho:AllP [])
 (hg:G Try.prog E (qN Try.prog) ⟨([.rsl (rowI l) 0 l.length,.clos 156 [] []]++jj 5 ([.int .i64 (l.length:Int),.int .i64 0]++Js 10)),[]⟩):G Try.prog E [.code (Qb Try.prog 59)] ⟨[.rsl (rowI l) 0 l.length,.clos 156 [] []]++unds (Try.f59.ntmps - 2),[]⟩ :=
 Qh (n:=400) (ds:=[]) (cs:=[]) (live:=[0,1,7,8]) (m:=0) (evs:=[.stop]) (obs:=_) hE.2.1 (hE.nogh _) Qy (by kernel_rfl) ho hg
theorem f74aW (l:(List Int)) {E:Env} {rv:Int} (hE:Qg Try.prog 59 (.int .i64 rv) E)
 (h:f74aG0 E l 0):G Try.prog E [.code (Qb Try.prog 59)] ⟨[.rsl (rowI l) 0 l.length,.clos 156 [] []]++unds (Try.f59.ntmps - 2),[]⟩:=by
 exact p59a_start_0 l hE trivial h
theorem p59a_0_0 (l:(List Int)) (i:Nat) (e:Int) {E:Env} {res:AV} (hE:Qg Try.prog 59 res E) (ho:AllP [(decide ((i:Int)<(l.length:Int)))=true,0≤(i:Int)∧(i:Int)<(l.length:Int),((rowI l).drop (0+(Int.toNat (i:Int))*1)).take 1=[.int .i64 e],Qi Try.prog (.clos 156 [] []) [.int .i64 e] (.bool (!Qw e)),(!Qw e)=true])
 (hr:AvLe (.int .i64 (i:Int)) res):G Try.prog E (qN Try.prog) (f74aS0 l i ) :=
 Qa (n:=400) (evs:=[.b true,.ld (.int .i64 e),.v (.bool (!Qw e)),.b true]) (obs:=_) hE Try.func59 Qy (by kernel_rfl) ho hr
theorem p59a_0_1 (l:(List Int)) (i:Nat) (e:Int) {E:Env} {rv:AV} (hE:Qg Try.prog 59 rv E) (ho:AllP [(decide ((i:Int)<(l.length:Int)))=true,0≤(i:Int)∧(i:Int)<(l.length:Int),((rowI l).drop (0+(Int.toNat (i:Int))*1)).take 1=[.int .i64 e],Qi Try.prog (.clos 156 [] []) [.int .i64 e] (.bool (!Qw e)),(!Qw e)=false,InR .i64 ((i:Int)+1)])
 (hg:G Try.prog E (qN Try.prog) ⟨([.rsl (rowI l) 0 l.length,.clos 156 [] []]++jj 5 ([.int .i64 (l.length:Int),.int .i64 ((i:Int)+1)]++Js 10)),[]⟩):G Try.prog E (qN Try.prog) (f74aS0 l i ) :=
 Qh (n:=400) (ds:=[]) (cs:=[]) (live:=[0,1,7,8]) (m:=0) (evs:=[.b true,.ld (.int .i64 e),.v (.bool (!Qw e)),.b false,.stop]) (obs:=_) hE.2.1 (hE.nogh _) Qy (by kernel_rfl) ho hg
theorem p59a_0_2 (l:(List Int)) (i:Nat) {E:Env} {res:AV} (hE:Qg Try.prog 59 res E) (ho:AllP [(decide ((i:Int)<(l.length:Int)))=false])
 (hr:AvLe (.int .i64 (-1)) res):G Try.prog E (qN Try.prog) (f74aS0 l i ) :=
 Qa (n:=400) (evs:=[.b false]) (obs:=_) hE Try.func59 Qy (by kernel_rfl) ho hr
theorem f74aW0 (l:(List Int)) (i:Nat) {E:Env} {rv:Int} (hE:Qg Try.prog 59 (.int .i64 rv) E)
 (h:(((i:Int)<(l.length:Int)→(∃ e:Int,l[i]?=some e∧(((!Qw e)=true→rv=(i:Int))∧((!Qw e)=false→((I6 ((i:Int)+1))∧f74aG0 E l (i+1))))))∧(¬ ((i:Int)<(l.length:Int))→rv=(-1)))):f74aG0 E l i:=by
 rcases bft (decide ((i:Int)<(l.length:Int))) with hc0 | hc0
 · have h:=h.1 (odt hc0)
   obtain ⟨e,h1,h⟩:=h
   rcases bft (!Qw e) with hc1 | hc1
   · have h:=h.1 hc1
     exact p59a_0_0 l i e hE ⟨hc0,(Qq h1),(rp cI 1 0 1 h1),(u156 (Wc e)),hc1,trivial⟩ (AvLe.of_eq (by rw [h]; try rfl))
   · have h:=h.2 hc1
     obtain ⟨q6_2,h⟩:=h
     exact p59a_0_1 l i e hE ⟨hc0,(Qq h1),(rp cI 1 0 1 h1),(u156 (Wc e)),hc1,q6_2,trivial⟩ h
 · have h:=h.2 (odf hc0)
   exact p59a_0_2 l i hE ⟨hc0,trivial⟩ (AvLe.of_eq (by rw [h]; try rfl))
theorem idx63_ok (l:List Int) (h:l.length≤9223372036854775807):Pure Try.prog 59 [.rsl (rowI l) 0 l.length,.clos 156 [] []] (.int .i64 (idxI (fun x=>!Qw x) l)):=Qs Try.func59 f74ab fun E hE=>by
 refine f74aW l hE (idx_from (fun x=>!Qw x) l l.length 0 (by omega) (fun j x hj=>by omega) (fun i=>f74aG0 E l i) (fun i hi h1 h2=>?_) (fun _ h2=>?_))
 · have hx:l[i]?=some l[i]:=List.getElem?_eq_getElem hi
   exact f74aW0 l i hE ⟨fun _=>⟨_,hx,fun hp=>h1 _ hx hp,fun hp=>⟨by omega,h2 _ hx hp⟩⟩,fun h=>by omega⟩
 · exact f74aW0 l _ hE ⟨fun h=>by omega,fun _=>h2⟩
theorem f62ab:Try.f76.body=some (Qb Try.prog 76):=by kernel_rfl
theorem p76a_start_0 (l:(List Int)) {E:Env} {res:AV} (hE:Qg Try.prog 76 res E) (ho:AllP [Qi Try.prog (.clos 59 [] []) [.rsl (rowI l) 0 l.length,.clos 156 [] []] (.int .i64 (idxI (fun x=>!Qw x) l))])
 (hr:AvLe (.bool (decide ((idxI (fun x=>!Qw x) l)≥0))) res):G Try.prog E [.code (Qb Try.prog 76)] ⟨[.rsl (rowI l) 0 l.length,.clos 156 [] []]++unds (Try.f76.ntmps - 2),[]⟩ :=
 Qa (n:=400) (evs:=[.v (.int .i64 (idxI (fun x=>!Qw x) l))]) (obs:=_) hE Try.func76 Qy (by kernel_rfl) ho hr
theorem f62aW (l:(List Int)) {E:Env} {rv:Bool} (hE:Qg Try.prog 76 (.bool rv) E)
 (h:((l.length≤9223372036854775807)∧rv=(decide ((idxI (fun x=>!Qw x) l)≥0)))):G Try.prog E [.code (Qb Try.prog 76)] ⟨[.rsl (rowI l) 0 l.length,.clos 156 [] []]++unds (Try.f76.ntmps - 2),[]⟩:=by
 obtain ⟨h1,h⟩:=h
 exact p76a_start_0 l hE ⟨(Qk Try.func59 (by kernel_rfl) f74ab (idx63_ok l h1)),trivial⟩ (AvLe.of_eq (by rw [h]; try rfl))
theorem any63_ok (l:List Int) (h:l.length≤9223372036854775807):Pure Try.prog 76 [.rsl (rowI l) 0 l.length,.clos 156 [] []] (.bool (l.any (fun x=>!Qw x))):=Qs Try.func76 f62ab fun E hE =>
 f62aW l hE ⟨h,(idx_any _ _).symm⟩
theorem f74bb:Try.f59.body=some (Qb Try.prog 59):=by kernel_rfl
def qM (P:Program):List Item:=kAt 400 [.code (Qb P 59)] [.stop]
def f74bS0 (l:(List Int)) (i:Nat):St:=⟨([.rsl (rowI l) 0 l.length,.clos 157 [] []]++jj 5 ([.int .i64 (l.length:Int),.int .i64 (i:Int)]++Js 10)),[]⟩
def f74bG0 (E:Env) (l:(List Int)) (i:Nat):Prop:=G Try.prog E (qM Try.prog) (f74bS0 l i )
theorem p59b_start_0 (l:(List Int)) {E:Env} {rv:AV} (hE:Qg Try.prog 59 rv E) (ho:AllP [])
 (hg:G Try.prog E (qM Try.prog) ⟨([.rsl (rowI l) 0 l.length,.clos 157 [] []]++jj 5 ([.int .i64 (l.length:Int),.int .i64 0]++Js 10)),[]⟩):G Try.prog E [.code (Qb Try.prog 59)] ⟨[.rsl (rowI l) 0 l.length,.clos 157 [] []]++unds (Try.f59.ntmps - 2),[]⟩ :=
 Qh (n:=400) (ds:=[]) (cs:=[]) (live:=[0,1,7,8]) (m:=0) (evs:=[.stop]) (obs:=_) hE.2.1 (hE.nogh _) Qy (by kernel_rfl) ho hg
theorem f74bW (l:(List Int)) {E:Env} {rv:Int} (hE:Qg Try.prog 59 (.int .i64 rv) E)
 (h:f74bG0 E l 0):G Try.prog E [.code (Qb Try.prog 59)] ⟨[.rsl (rowI l) 0 l.length,.clos 157 [] []]++unds (Try.f59.ntmps - 2),[]⟩:=by
 exact p59b_start_0 l hE trivial h
theorem p59b_0_0 (l:(List Int)) (i:Nat) (e:Int) {E:Env} {res:AV} (hE:Qg Try.prog 59 res E) (ho:AllP [(decide ((i:Int)<(l.length:Int)))=true,0≤(i:Int)∧(i:Int)<(l.length:Int),((rowI l).drop (0+(Int.toNat (i:Int))*1)).take 1=[.int .i64 e],Qi Try.prog (.clos 157 [] []) [.int .i64 e] (.bool (!Qt e 0 1000)),(!Qt e 0 1000)=true])
 (hr:AvLe (.int .i64 (i:Int)) res):G Try.prog E (qM Try.prog) (f74bS0 l i ) :=
 Qa (n:=400) (evs:=[.b true,.ld (.int .i64 e),.v (.bool (!Qt e 0 1000)),.b true]) (obs:=_) hE Try.func59 Qy (by kernel_rfl) ho hr
theorem p59b_0_1 (l:(List Int)) (i:Nat) (e:Int) {E:Env} {rv:AV} (hE:Qg Try.prog 59 rv E) (ho:AllP [(decide ((i:Int)<(l.length:Int)))=true,0≤(i:Int)∧(i:Int)<(l.length:Int),((rowI l).drop (0+(Int.toNat (i:Int))*1)).take 1=[.int .i64 e],Qi Try.prog (.clos 157 [] []) [.int .i64 e] (.bool (!Qt e 0 1000)),(!Qt e 0 1000)=false,InR .i64 ((i:Int)+1)])
 (hg:G Try.prog E (qM Try.prog) ⟨([.rsl (rowI l) 0 l.length,.clos 157 [] []]++jj 5 ([.int .i64 (l.length:Int),.int .i64 ((i:Int)+1)]++Js 10)),[]⟩):G Try.prog E (qM Try.prog) (f74bS0 l i ) :=
 Qh (n:=400) (ds:=[]) (cs:=[]) (live:=[0,1,7,8]) (m:=0) (evs:=[.b true,.ld (.int .i64 e),.v (.bool (!Qt e 0 1000)),.b false,.stop]) (obs:=_) hE.2.1 (hE.nogh _) Qy (by kernel_rfl) ho hg
theorem p59b_0_2 (l:(List Int)) (i:Nat) {E:Env} {res:AV} (hE:Qg Try.prog 59 res E) (ho:AllP [(decide ((i:Int)<(l.length:Int)))=false])
 (hr:AvLe (.int .i64 (-1)) res):G Try.prog E (qM Try.prog) (f74bS0 l i ) :=
 Qa (n:=400) (evs:=[.b false]) (obs:=_) hE Try.func59 Qy (by kernel_rfl) ho hr
theorem f74bW0 (l:(List Int)) (i:Nat) {E:Env} {rv:Int} (hE:Qg Try.prog 59 (.int .i64 rv) E)
 (h:(((i:Int)<(l.length:Int)→(∃ e:Int,l[i]?=some e∧(((!Qt e 0 1000)=true→rv=(i:Int))∧((!Qt e 0 1000)=false→((I6 ((i:Int)+1))∧f74bG0 E l (i+1))))))∧(¬ ((i:Int)<(l.length:Int))→rv=(-1)))):f74bG0 E l i:=by
 rcases bft (decide ((i:Int)<(l.length:Int))) with hc0 | hc0
 · have h:=h.1 (odt hc0)
   obtain ⟨e,h1,h⟩:=h
   rcases bft (!Qt e 0 1000) with hc1 | hc1
   · have h:=h.1 hc1
     exact p59b_0_0 l i e hE ⟨hc0,(Qq h1),(rp cI 1 0 1 h1),(u157 (Wb e)),hc1,trivial⟩ (AvLe.of_eq (by rw [h]; try rfl))
   · have h:=h.2 hc1
     obtain ⟨q6_2,h⟩:=h
     exact p59b_0_1 l i e hE ⟨hc0,(Qq h1),(rp cI 1 0 1 h1),(u157 (Wb e)),hc1,q6_2,trivial⟩ h
 · have h:=h.2 (odf hc0)
   exact p59b_0_2 l i hE ⟨hc0,trivial⟩ (AvLe.of_eq (by rw [h]; try rfl))
theorem idx64_ok (l:List Int) (h:l.length≤9223372036854775807):Pure Try.prog 59 [.rsl (rowI l) 0 l.length,.clos 157 [] []] (.int .i64 (idxI (fun x=>!Qt x 0 1000) l)):=Qs Try.func59 f74bb fun E hE=>by
 refine f74bW l hE (idx_from (fun x=>!Qt x 0 1000) l l.length 0 (by omega) (fun j x hj=>by omega) (fun i=>f74bG0 E l i) (fun i hi h1 h2=>?_) (fun _ h2=>?_))
 · have hx:l[i]?=some l[i]:=List.getElem?_eq_getElem hi
   exact f74bW0 l i hE ⟨fun _=>⟨_,hx,fun hp=>h1 _ hx hp,fun hp=>⟨by omega,h2 _ hx hp⟩⟩,fun h=>by omega⟩
 · exact f74bW0 l _ hE ⟨fun h=>by omega,fun _=>h2⟩
theorem f62bb:Try.f76.body=some (Qb Try.prog 76):=by kernel_rfl
theorem p76b_start_0 (l:(List Int)) {E:Env} {res:AV} (hE:Qg Try.prog 76 res E) (ho:AllP [Qi Try.prog (.clos 59 [] []) [.rsl (rowI l) 0 l.length,.clos 157 [] []] (.int .i64 (idxI (fun x=>!Qt x 0 1000) l))])
 (hr:AvLe (.bool (decide ((idxI (fun x=>!Qt x 0 1000) l)≥0))) res):G Try.prog E [.code (Qb Try.prog 76)] ⟨[.rsl (rowI l) 0 l.length,.clos 157 [] []]++unds (Try.f76.ntmps - 2),[]⟩ :=
 Qa (n:=400) (evs:=[.v (.int .i64 (idxI (fun x=>!Qt x 0 1000) l))]) (obs:=_) hE Try.func76 Qy (by kernel_rfl) ho hr
theorem f62bW (l:(List Int)) {E:Env} {rv:Bool} (hE:Qg Try.prog 76 (.bool rv) E)
 (h:((l.length≤9223372036854775807)∧rv=(decide ((idxI (fun x=>!Qt x 0 1000) l)≥0)))):G Try.prog E [.code (Qb Try.prog 76)] ⟨[.rsl (rowI l) 0 l.length,.clos 157 [] []]++unds (Try.f76.ntmps - 2),[]⟩:=by
 obtain ⟨h1,h⟩:=h
 exact p76b_start_0 l hE ⟨(Qk Try.func59 (by kernel_rfl) f74bb (idx64_ok l h1)),trivial⟩ (AvLe.of_eq (by rw [h]; try rfl))
theorem any64_ok (l:List Int) (h:l.length≤9223372036854775807):Pure Try.prog 76 [.rsl (rowI l) 0 l.length,.clos 157 [] []] (.bool (l.any (fun x=>!Qt x 0 1000))):=Qs Try.func76 f62bb fun E hE =>
 f62bW l hE ⟨h,(idx_any _ _).symm⟩
end Go.Proofs.Ytemklbioijmjiaa
namespace Go.Proofs.Ytemklbioijmjiaa
open Go Ax
open Go.Proofs
theorem f87b:Try.f87.body=some (Qb Try.prog 87):=by kernel_rfl
theorem u87 {a c k:List AV} {r:AV} (h:Pure Try.prog 87 (a++c++k) r):Qi Try.prog (.clos 87 a k) c r:=Qk Try.func87 (by kernel_rfl) f87b h
theorem p87_start_0 (l:(List Int)) {E:Env} {res:AV} (hE:Qg Try.prog 87 res E) (ho:AllP [Qi Try.prog (.clos 110 [] []) [.int .i64 (l.length:Int),.int .i64 1,.int .i64 10] (.bool (Qt (l.length:Int) 1 10)),(Qt (l.length:Int) 1 10)=true,Qi Try.prog (.clos 76 [] []) [.rsl (rowI l) 0 l.length,.clos 157 [] []] (.bool (l.any (fun x=>!Qt x 0 1000))),(!(l.any (fun x=>!Qt x 0 1000)))=true,Qi Try.prog (.clos 158 [] []) [.rsl (rowI l) 0 l.length] (.int .i64 (sumI l))])
 (hr:AvLe (.bool (decide ((sumI l) > 0))) res):G Try.prog E [.code (Qb Try.prog 87)] ⟨[.rsl (rowI l) 0 l.length]++unds (Try.f87.ntmps - 1),[]⟩ :=
 Qa (n:=400) (evs:=[.v (.bool (Qt (l.length:Int) 1 10)),.b true,.v (.bool (l.any (fun x=>!Qt x 0 1000))),.b true,.v (.int .i64 (sumI l))]) (obs:=_) hE Try.func87 Qy (by kernel_rfl) ho hr
theorem p87_start_1 (l:(List Int)) {E:Env} {res:AV} (hE:Qg Try.prog 87 res E) (ho:AllP [Qi Try.prog (.clos 110 [] []) [.int .i64 (l.length:Int),.int .i64 1,.int .i64 10] (.bool (Qt (l.length:Int) 1 10)),(Qt (l.length:Int) 1 10)=true,Qi Try.prog (.clos 76 [] []) [.rsl (rowI l) 0 l.length,.clos 157 [] []] (.bool (l.any (fun x=>!Qt x 0 1000))),(!(l.any (fun x=>!Qt x 0 1000)))=false])
 (hr:AvLe (.bool false) res):G Try.prog E [.code (Qb Try.prog 87)] ⟨[.rsl (rowI l) 0 l.length]++unds (Try.f87.ntmps - 1),[]⟩ :=
 Qa (n:=400) (evs:=[.v (.bool (Qt (l.length:Int) 1 10)),.b true,.v (.bool (l.any (fun x=>!Qt x 0 1000))),.b false]) (obs:=_) hE Try.func87 Qy (by kernel_rfl) ho hr
theorem p87_start_2 (l:(List Int)) {E:Env} {res:AV} (hE:Qg Try.prog 87 res E) (ho:AllP [Qi Try.prog (.clos 110 [] []) [.int .i64 (l.length:Int),.int .i64 1,.int .i64 10] (.bool (Qt (l.length:Int) 1 10)),(Qt (l.length:Int) 1 10)=false,false=false])
 (hr:AvLe (.bool false) res):G Try.prog E [.code (Qb Try.prog 87)] ⟨[.rsl (rowI l) 0 l.length]++unds (Try.f87.ntmps - 1),[]⟩ :=
 Qa (n:=400) (evs:=[.v (.bool (Qt (l.length:Int) 1 10)),.b false,.b false]) (obs:=_) hE Try.func87 Qy (by kernel_rfl) ho hr
theorem f87W (l:(List Int)) {E:Env} {rv:Bool} (hE:Qg Try.prog 87 (.bool rv) E)
 (h:(((Qt (l.length:Int) 1 10)=true→((l.length≤9223372036854775807)∧(((l.any (fun x=>!Qt x 0 1000))=false→((SumOk l)∧rv=(decide ((sumI l) > 0))))∧((l.any (fun x=>!Qt x 0 1000))=true→rv=false))))∧((Qt (l.length:Int) 1 10)=false→rv=false))):G Try.prog E [.code (Qb Try.prog 87)] ⟨[.rsl (rowI l) 0 l.length]++unds (Try.f87.ntmps - 1),[]⟩:=by
 rcases bft (Qt (l.length:Int) 1 10) with hc0 | hc0
 · have h:=h.1 hc0
   obtain ⟨h1,h⟩:=h
   rcases bft (!(l.any (fun x=>!Qt x 0 1000))) with hc1 | hc1
   · have h:=h.1 (bnT hc1)
     obtain ⟨h2,h⟩:=h
     exact p87_start_0 l hE ⟨(u110 (Yr (l.length:Int) 1 10)),hc0,(Qk Try.func76 (by kernel_rfl) f62bb (any64_ok l h1)),hc1,(u158 (sum_ok l h2)),trivial⟩ (AvLe.of_eq (by rw [h]; try rfl))
   · have h:=h.2 (bnF hc1)
     exact p87_start_1 l hE ⟨(u110 (Yr (l.length:Int) 1 10)),hc0,(Qk Try.func76 (by kernel_rfl) f62bb (any64_ok l h1)),hc1,trivial⟩ (AvLe.of_eq (by rw [h]; try rfl))
 · have h:=h.2 hc0
   exact p87_start_2 l hE ⟨(u110 (Yr (l.length:Int) 1 10)),hc0,rfl,trivial⟩ (AvLe.of_eq (by rw [h]; try rfl))
theorem f86b:Try.f86.body=some (Qb Try.prog 86):=by kernel_rfl
theorem u86 {a c k:List AV} {r:AV} (h:Pure Try.prog 86 (a++c++k) r):Qi Try.prog (.clos 86 a k) c r:=Qk Try.func86 (by kernel_rfl) f86b h
theorem p86_start_0 (l:(List Int)) {E:Env} {res:AV} (hE:Qg Try.prog 86 res E) (ho:AllP [Qi Try.prog (.clos 76 [] []) [.rsl (rowI l) 0 l.length,.clos 156 [] []] (.bool (l.any (fun x=>!Qw x)))])
 (hr:AvLe (.bool (!(l.any (fun x=>!Qw x)))) res):G Try.prog E [.code (Qb Try.prog 86)] ⟨[.rsl (rowI l) 0 l.length]++unds (Try.f86.ntmps - 1),[]⟩ :=
 Qa (n:=400) (evs:=[.v (.bool (l.any (fun x=>!Qw x)))]) (obs:=_) hE Try.func86 Qy (by kernel_rfl) ho hr
theorem f86W (l:(List Int)) {E:Env} {rv:Bool} (hE:Qg Try.prog 86 (.bool rv) E)
 (h:((l.length≤9223372036854775807)∧rv=(!(l.any (fun x=>!Qw x))))):G Try.prog E [.code (Qb Try.prog 86)] ⟨[.rsl (rowI l) 0 l.length]++unds (Try.f86.ntmps - 1),[]⟩:=by
 obtain ⟨h1,h⟩:=h
 exact p86_start_0 l hE ⟨(Qk Try.func76 (by kernel_rfl) f62ab (any63_ok l h1)),trivial⟩ (AvLe.of_eq (by rw [h]; try rfl))
theorem f88b:Try.f88.body=some (Qb Try.prog 88):=by kernel_rfl
theorem u88 {a c k:List AV} {r:AV} (h:Pure Try.prog 88 (a++c++k) r):Qi Try.prog (.clos 88 a k) c r:=Qk Try.func88 (by kernel_rfl) f88b h
def f88K0 (P:Program):List Item:=kAt 400 [.code (Qb P 88)] [.stop]
def f88S0 (c:Int) (ws:(List Int)) (v3:List Int) (v4:List Int) (i:Nat) (g3:Nat) (g4:Nat):St:=⟨([J,J,.ptr 0 0 0,J,J,.ptr 2 0 0,.sl 3 g3 0 v3.length 1,.sl 4 g4 0 v4.length 1,.ptr 5 0 0]++jj 13 ([.rsl (rowI ws) 0 ws.length,.int .i64 (ws.length:Int),.int .i64 (i:Int)]++Js 39)),[⟨true,0,1,true,[.int .i64 c],false⟩,⟨true,0,1,true,[.rsl (rowI ws) 0 ws.length],false⟩,⟨true,0,1,true,[.int .i64 (sumI ws)],false⟩,⟨true,g3,1,true,(rowI v3),true⟩,⟨true,g4,1,true,(rowI v4),true⟩,⟨true,0,1,false,[.clos 159 [] [.ptr 0 0 0,.ptr 1 0 0,.ptr 2 0 0]],false⟩]⟩
def f88G0 (E:Env) (c:Int) (ws:(List Int)) (v3:List Int) (v4:List Int) (i:Nat):Prop:=∀ g3 g4:Nat,G Try.prog E (f88K0 Try.prog) (f88S0 c ws v3 v4 i g3 g4)
def f88K1 (P:Program):List Item:=kAt 400 [.code (Qb P 88)] [.b false,.stop]
def f88S1 (c:Int) (ws:(List Int)) (k:Nat) (k1:Nat) (v3:List Int) (v4:List Int) (k11:Nat) (g3:Nat) (g4:Nat):St:=⟨(jj 6 ([.sl 3 g3 0 v3.length 1]++jj 43 ([.sl 4 g4 0 k 1,.int .i64 (k1:Int),.int .i64 (k11:Int)]++Js 11))),[⟨true,0,1,true,[.int .i64 c],false⟩,⟨true,0,1,true,[.rsl (rowI ws) 0 ws.length],false⟩,⟨true,0,1,true,[.int .i64 (sumI ws)],false⟩,⟨true,g3,1,true,(rowI v3),true⟩,⟨true,g4,1,true,(rowI v4),true⟩,⟨true,0,1,false,[.clos 159 [] [.ptr 0 0 0,.ptr 1 0 0,.ptr 2 0 0]],false⟩]⟩
def f88G1 (E:Env) (c:Int) (ws:(List Int)) (k:Nat) (k1:Nat) (v3:List Int) (v4:List Int) (k11:Nat):Prop:=∀ g3 g4:Nat,G Try.prog E (f88K1 Try.prog) (f88S1 c ws k k1 v3 v4 k11 g3 g4)
theorem p88_start_0 (c:Int) (ws:(List Int)) {E:Env} {rv:AV} (hE:Qg Try.prog 88 rv E) (ho:AllP [Qi Try.prog (.clos 158 [] []) [.rsl (rowI ws) 0 ws.length] (.int .i64 (sumI ws)),1≤1,0≤(ws.length:Int)∧(ws.length:Int)≤(ws.length:Int)∧(ws.length:Int)≤2147483648,0≤(ws.length:Int)∧(ws.length:Int)≤(ws.length:Int)∧(ws.length:Int)≤2147483648,1≤1])
 (hg:G Try.prog E (f88K0 Try.prog) ⟨([J,J,.ptr 0 0 0,J,J,.ptr 2 0 0,.sl 3 0 0 (Int.toNat (ws.length:Int)) 1,.sl 4 0 0 (Int.toNat (ws.length:Int)) 1,.ptr 5 0 0]++jj 13 ([.rsl (rowI ws) 0 ws.length,.int .i64 (ws.length:Int),.int .i64 0]++Js 39)),[⟨true,0,1,true,[.int .i64 c],false⟩,⟨true,0,1,true,[.rsl (rowI ws) 0 ws.length],false⟩,⟨true,0,1,true,[.int .i64 (sumI ws)],false⟩,⟨true,0,1,true,((List.replicate (Int.toNat (ws.length:Int)) ([.int .i64 0]:List AV)).flatten),true⟩,⟨true,0,1,true,((List.replicate (Int.toNat (ws.length:Int)) ([.int .i64 0]:List AV)).flatten),true⟩,⟨true,0,1,false,[.clos 159 [] [.ptr 0 0 0,.ptr 1 0 0,.ptr 2 0 0]],false⟩]⟩):G Try.prog E [.code (Qb Try.prog 88)] ⟨[.int .i64 c,.rsl (rowI ws) 0 ws.length]++unds (Try.f88.ntmps - 2),[]⟩ :=
 Qh (n:=400) (ds:=[]) (cs:=[]) (live:=[2,5,6,7,8,22,23,24]) (m:=6) (evs:=[.v (.int .i64 (sumI ws)),.stop]) (obs:=_) hE.2.1 (hE.nogh _) Qy (by kernel_rfl) ho hg
theorem f88W (c:Int) (ws:(List Int)) {E:Env} {rv:(List Int)} (hE:Qg Try.prog 88 (.rsl (rowI rv) 0 rv.length) E)
 (h:((SumOk ws)∧(ws.length≤2147483648∧(ws.length≤2147483648∧f88G0 E c ws (List.replicate ws.length (0:Int)) (List.replicate ws.length (0:Int)) 0)))):G Try.prog E [.code (Qb Try.prog 88)] ⟨[.int .i64 c,.rsl (rowI ws) 0 ws.length]++unds (Try.f88.ntmps - 2),[]⟩:=by
 obtain ⟨h1,h⟩:=h
 obtain ⟨h2,h⟩:=h
 obtain ⟨h3,h⟩:=h
 refine p88_start_0 c ws hE ⟨(u158 (sum_ok ws h1)),(by decide),⟨by omega,by omega,by have:=h2; omega⟩,⟨by omega,by omega,by have:=h3; omega⟩,(by decide),trivial⟩ ?_
 have h:=(h 0 0)
 simp only [f88G0,f88S0,List.length_set,List.length_replicate] at h
 rw [(show (List.replicate (Int.toNat (ws.length:Int)) ([.int .i64 0]:List AV)).flatten=rowI (List.replicate ws.length (0:Int)) from Vf cI _ _)]
 exact h
theorem p88_0_0 (c:Int) (ws:(List Int)) (v3:List Int) (v4:List Int) (i:Nat) (g3:Nat) (g4:Nat) (e:Int) (e1:Int) (e2:Int) {E:Env} {rv:AV} (hE:Qg Try.prog 88 rv E) (ho:AllP [(decide ((i:Int)<(ws.length:Int)))=true,0≤(i:Int)∧(i:Int)<(ws.length:Int),((rowI ws).drop (0+(Int.toNat (i:Int))*1)).take 1=[.int .i64 e],InR .i64 (c*e),InR .i64 (Int.tdiv (c*e) (sumI ws)),(sumI ws) ≠ 0,0≤(i:Int)∧(i:Int)<(v3.length:Int),g3=g3,((0+(Int.toNat (i:Int))*1)+1)≤(rowI v3).length,g3=g3,0≤(i:Int)∧(i:Int)<(v4.length:Int),g4=g4,((0+(Int.toNat (i:Int))*1)+1)≤(rowI v4).length,g4=g4,InR .i64 ((i:Int)+1)])
 (hg:G Try.prog E (f88K0 Try.prog) ⟨([J,J,.ptr 0 0 0,J,J,.ptr 2 0 0,.sl 3 g3 0 v3.length 1,.sl 4 g4 0 v4.length 1,.ptr 5 0 0]++jj 13 ([.rsl (rowI ws) 0 ws.length,.int .i64 (ws.length:Int),.int .i64 ((i:Int)+1)]++Js 39)),[⟨true,0,1,true,[.int .i64 c],false⟩,⟨true,0,1,true,[.rsl (rowI ws) 0 ws.length],false⟩,⟨true,0,1,true,[.int .i64 (sumI ws)],false⟩,⟨true,g3,1,true,(Qu (rowI v3) (0+(Int.toNat (i:Int))*1) [.int .i64 (Int.tdiv (c*e) (sumI ws))]),true⟩,⟨true,g4,1,true,(Qu (rowI v4) (0+(Int.toNat (i:Int))*1) [.int .i64 (i:Int)]),true⟩,⟨true,0,1,false,[.clos 159 [] [.ptr 0 0 0,.ptr 1 0 0,.ptr 2 0 0]],false⟩]⟩):G Try.prog E (f88K0 Try.prog) (f88S0 c ws v3 v4 i g3 g4) :=
 Qh (n:=400) (ds:=[]) (cs:=[]) (live:=[2,5,6,7,8,22,23,24]) (m:=6) (evs:=[.b true,.ld (.int .i64 e),.stop]) (obs:=_) hE.2.1 (hE.nogh _) Qy (by kernel_rfl) ho hg
theorem p88_0_1 (c:Int) (ws:(List Int)) (v3:List Int) (v4:List Int) (i:Nat) (g3:Nat) (g4:Nat) {E:Env} {rv:AV} (hE:Qg Try.prog 88 rv E) (ho:AllP [(decide ((i:Int)<(ws.length:Int)))=false,YF Try.prog (.clos 160 [] []) [.sl 0 g4 0 v4.length 1,.clos 161 [] [.ptr 1 0 0]] [⟨true,g4,1,true,(rowI v4),true⟩,⟨true,0,1,false,[.clos 159 [] [.ptr 2 0 0,.ptr 3 0 0,.ptr 4 0 0]],false⟩,⟨true,0,1,true,[.int .i64 c],false⟩,⟨true,0,1,true,[.rsl (rowI ws) 0 ws.length],false⟩,⟨true,0,1,true,[.int .i64 (sumI ws)],false⟩] (.tup []) [⟨true,g4,1,true,(rowI (XI (ltI c ws (sumI ws)) v4)),true⟩,⟨true,0,1,false,[.clos 159 [] [.ptr 2 0 0,.ptr 3 0 0,.ptr 4 0 0]],false⟩,⟨true,0,1,true,[.int .i64 c],false⟩,⟨true,0,1,true,[.rsl (rowI ws) 0 ws.length],false⟩,⟨true,0,1,true,[.int .i64 (sumI ws)],false⟩],Qi Try.prog (.clos 158 [] []) [.rsl (rowI v3) 0 v3.length] (.int .i64 (sumI v3)),g3=g3,InR .i64 (c - (sumI v3)),0≤(Int.toNat (c - (sumI v3))),(Int.toNat (c - (sumI v3)))≤v4.length,0≤(c - (sumI v3)),g4=g4,g4=g4])
 (hg:G Try.prog E (f88K1 Try.prog) ⟨(jj 6 ([.sl 3 g3 0 v3.length 1]++jj 43 ([.sl 4 g4 0 (Int.toNat (c - (sumI v3))) 1,.int .i64 (((Int.toNat (c - (sumI v3))):Nat):Int),.int .i64 0]++Js 11))),[⟨true,0,1,true,[.int .i64 c],false⟩,⟨true,0,1,true,[.rsl (rowI ws) 0 ws.length],false⟩,⟨true,0,1,true,[.int .i64 (sumI ws)],false⟩,⟨true,g3,1,true,(rowI v3),true⟩,⟨true,g4,1,true,(rowI (XI (ltI c ws (sumI ws)) v4)),true⟩,⟨true,0,1,false,[.clos 159 [] [.ptr 0 0 0,.ptr 1 0 0,.ptr 2 0 0]],false⟩]⟩):G Try.prog E (f88K0 Try.prog) (f88S0 c ws v3 v4 i g3 g4) :=
 Qh (n:=400) (ds:=[]) (cs:=[]) (live:=[6,50,51,52]) (m:=6) (evs:=[.b false,.lent [4,5,0,1,2] (.tup []) [⟨true,g4,1,true,(rowI (XI (ltI c ws (sumI ws)) v4)),true⟩,⟨true,0,1,false,[.clos 159 [] [.ptr 2 0 0,.ptr 3 0 0,.ptr 4 0 0]],false⟩,⟨true,0,1,true,[.int .i64 c],false⟩,⟨true,0,1,true,[.rsl (rowI ws) 0 ws.length],false⟩,⟨true,0,1,true,[.int .i64 (sumI ws)],false⟩],.v (.int .i64 (sumI v3)),.stop]) (obs:=_) hE.2.1 (hE.nogh _) Qy (by kernel_rfl) ho hg
theorem f88W0 (c:Int) (ws:(List Int)) (v3:List Int) (v4:List Int) (i:Nat) {E:Env} {rv:(List Int)} (hE:Qg Try.prog 88 (.rsl (rowI rv) 0 rv.length) E)
 (h:(((i:Int)<(ws.length:Int)→(∃ e:Int,ws[i]?=some e∧((I6 (c*e))∧((I6 (Int.tdiv (c*e) (sumI ws)))∧((sumI ws) ≠ 0∧(∃ e1:Int,v3[i]?=some e1∧(∃ e2:Int,v4[i]?=some e2∧((I6 ((i:Int)+1))∧f88G0 E c ws (v3.set i (Int.tdiv (c*e) (sumI ws))) (v4.set i (i:Int)) (i+1)))))))))∧(¬ ((i:Int)<(ws.length:Int))→(((∀ x ∈ v4,YG c ws (sumI ws) x)∧v4.length≤15)∧((SumOk v3)∧((I6 (c - (sumI v3)))∧((Int.toNat (c - (sumI v3)))≤v4.length∧(0≤(c - (sumI v3))∧f88G1 E c ws (Int.toNat (c - (sumI v3))) (Int.toNat (c - (sumI v3))) v3 (XI (ltI c ws (sumI ws)) v4) 0)))))))):f88G0 E c ws v3 v4 i:=by
 intro g3 g4
 rcases bft (decide ((i:Int)<(ws.length:Int))) with hc0 | hc0
 · have h:=h.1 (odt hc0)
   obtain ⟨e,h1,h⟩:=h
   obtain ⟨q4_1,h⟩:=h
   obtain ⟨q5_1,h⟩:=h
   obtain ⟨q6_1,h⟩:=h
   obtain ⟨e1,h2,h⟩:=h
   obtain ⟨e2,h3,h⟩:=h
   obtain ⟨q17_1,h⟩:=h
   refine p88_0_0 c ws v3 v4 i g3 g4 e e1 e2 hE ⟨hc0,(Qq h1),(rp cI 1 0 1 h1),q4_1,q5_1,q6_1,(Qq h2),rfl,(rf cI 1 0 1 h2),rfl,(Qq h3),rfl,(rf cI 1 0 1 h3),rfl,q17_1,trivial⟩ ?_
   have h:=(h g3 g4)
   simp only [f88S0,List.length_set] at h
   rw [(show Qu (rowI v3) (0+(Int.toNat (i:Int))*1) [.int .i64 (Int.tdiv (c*e) (sumI ws))]=rowI (v3.set i (Int.tdiv (c*e) (sumI ws))) from QE cI (s:=1) (k:=0) (fun _=>rfl) h2 rfl (by first | decide | simp))]; rw [(show Qu (rowI v4) (0+(Int.toNat (i:Int))*1) [.int .i64 (i:Int)]=rowI (v4.set i (i:Int)) from QE cI (s:=1) (k:=0) (fun _=>rfl) h3 rfl (by first | decide | simp))]
   exact h
 · have h:=h.2 (odf hc0)
   obtain ⟨h1,h⟩:=h
   obtain ⟨h2,h⟩:=h
   obtain ⟨q4_1,h⟩:=h
   obtain ⟨q6_1,h⟩:=h
   obtain ⟨q7_1,h⟩:=h
   refine p88_0_1 c ws v3 v4 i g3 g4 hE ⟨hc0,(XT Try.func160 (by kernel_rfl) f160b (sort_ok v4 c ws (sumI ws) g4 h1)),(u158 (sum_ok v3 h2)),rfl,q4_1,(Nat.zero_le _),q6_1,q7_1,rfl,rfl,trivial⟩ ?_
   have h:=(h g3 g4)
   simp only [f88G1,f88S1,List.length_set,Vk] at h
   skip
   exact h
theorem p88_1_0 (c:Int) (ws:(List Int)) (k:Nat) (k1:Nat) (v3:List Int) (v4:List Int) (k11:Nat) (g3:Nat) (g4:Nat) (e:Int) (e1:Int) {E:Env} {rv:AV} (hE:Qg Try.prog 88 rv E) (ho:AllP [(decide ((k11:Int)<(k1:Int)))=true,0≤(k11:Int)∧(k11:Int)<(k:Int),g4=g4,g4=g4,((rowI v4).drop (0+(Int.toNat (k11:Int))*1)).take 1=[.int .i64 e],0≤e∧e<(v3.length:Int),g3=g3,g3=g3,((rowI v3).drop (0+(Int.toNat e)*1)).take 1=[.int .i64 e1],InR .i64 (e1+1),0≤e∧e<(v3.length:Int),g3=g3,((0+(Int.toNat e)*1)+1)≤(rowI v3).length,g3=g3,InR .i64 ((k11:Int)+1)])
 (hg:G Try.prog E (f88K1 Try.prog) ⟨(jj 6 ([.sl 3 g3 0 v3.length 1]++jj 43 ([.sl 4 g4 0 k 1,.int .i64 (k1:Int),.int .i64 ((k11:Int)+1)]++Js 11))),[⟨true,0,1,true,[.int .i64 c],false⟩,⟨true,0,1,true,[.rsl (rowI ws) 0 ws.length],false⟩,⟨true,0,1,true,[.int .i64 (sumI ws)],false⟩,⟨true,g3,1,true,(Qu (rowI v3) (0+(Int.toNat e)*1) [.int .i64 (e1+1)]),true⟩,⟨true,g4,1,true,(rowI v4),true⟩,⟨true,0,1,false,[.clos 159 [] [.ptr 0 0 0,.ptr 1 0 0,.ptr 2 0 0]],false⟩]⟩):G Try.prog E (f88K1 Try.prog) (f88S1 c ws k k1 v3 v4 k11 g3 g4) :=
 Qh (n:=400) (ds:=[]) (cs:=[]) (live:=[6,50,51,52]) (m:=6) (evs:=[.b true,.ld (.int .i64 e),.ld (.int .i64 e1),.stop]) (obs:=_) hE.2.1 (hE.nogh _) Qy (by kernel_rfl) ho hg
theorem p88_1_1 (c:Int) (ws:(List Int)) (k:Nat) (k1:Nat) (v3:List Int) (v4:List Int) (k11:Nat) (g3:Nat) (g4:Nat) {E:Env} {res:AV} (hE:Qg Try.prog 88 res E) (ho:AllP [(decide ((k11:Int)<(k1:Int)))=false,g3=g3])
 (hr:AvLe (.rsl (rowI v3) 0 v3.length) res):G Try.prog E (f88K1 Try.prog) (f88S1 c ws k k1 v3 v4 k11 g3 g4) :=
 Qa (n:=400) (evs:=[.b false]) (obs:=_) hE Try.func88 Qy (by kernel_rfl) ho hr
theorem f88W1 (c:Int) (ws:(List Int)) (k:Nat) (k1:Nat) (v3:List Int) (v4:List Int) (k11:Nat) {E:Env} {rv:(List Int)} (hE:Qg Try.prog 88 (.rsl (rowI rv) 0 rv.length) E)
 (h:(((k11:Int)<(k1:Int)→(∃ e:Int,v4[k11]?=some e∧((k11:Int)<(k:Int)∧(0≤e∧(∃ e1:Int,v3[Int.toNat e]?=some e1∧((I6 (e1+1))∧((I6 ((k11:Int)+1))∧f88G1 E c ws k k1 (v3.set (Int.toNat e) (e1+1)) v4 (k11+1))))))))∧(¬ ((k11:Int)<(k1:Int))→rv=v3))):f88G1 E c ws k k1 v3 v4 k11:=by
 intro g3 g4
 rcases bft (decide ((k11:Int)<(k1:Int))) with hc0 | hc0
 · have h:=h.1 (odt hc0)
   obtain ⟨e,h1,h⟩:=h
   obtain ⟨h2,h⟩:=h
   obtain ⟨h4,h⟩:=h
   obtain ⟨e1,h3,h⟩:=h
   obtain ⟨q12_1,h⟩:=h
   obtain ⟨q17_1,h⟩:=h
   refine p88_1_0 c ws k k1 v3 v4 k11 g3 g4 e e1 hE ⟨hc0,⟨by omega,h2⟩,rfl,rfl,(rp cI 1 0 1 h1),(Qm h4 h3),rfl,rfl,(rp cI 1 0 1 h3),q12_1,(Qm h4 h3),rfl,(rf cI 1 0 1 h3),rfl,q17_1,trivial⟩ ?_
   have h:=(h g3 g4)
   simp only [f88S1,List.length_set] at h
   rw [(show Qu (rowI v3) (0+(Int.toNat e)*1) [.int .i64 (e1+1)]=rowI (v3.set (Int.toNat e) (e1+1)) from QE cI (s:=1) (k:=0) (fun _=>rfl) h3 rfl (by first | decide | simp))]
   exact h
 · have h:=h.2 (odf hc0)
   exact p88_1_1 c ws k k1 v3 v4 k11 g3 g4 hE ⟨hc0,rfl,trivial⟩ (AvLe.of_eq (by rw [h]; try rfl))
theorem sortI_mem {lt:Int→Int→Bool} {l:List Int} {x:Int} (h:x ∈ XI lt l):x ∈ l:=by
 have:∀ (xs:List Nat) (l:List Int) (x:Int),x ∈ xs.foldl (fun l k=>sink lt (k+1) l) l→x ∈ l:=by
  intro xs
  induction xs with
  | nil=>intro l x h; exact h
  | cons y xs ih=>intro l x h; rw [List.foldl_cons] at h; exact yj (ih _ _ h)
 exact this _ _ _ h
def Xp (c S w:Int):Int:=Int.tdiv (c*w) S
def XV (c:Int) (ws:List Int):List Int:=ws.map (Xp c (sumI ws))
def QJ (c:Int) (ws:List Int):List Int:=XI (ltI c ws (sumI ws)) ((List.range ws.length).map fun i:Nat=>(i:Int))
def bump (l:List Int) (e:Int):List Int:=l.set (Int.toNat e) (l.getD (Int.toNat e) 0+1)
/-- The program's split: the shares rounded down,and a cent more for those first in the order. -/
def Xc (c:Int) (ws:List Int):List Int:=((QJ c ws).take (Int.toNat (c - sumI (XV c ws)))).foldl bump (XV c ws)
structure SplitOk (c:Int) (ws:List Int):Prop where
 len1:1≤ws.length
 len:ws.length≤10
 w:∀ x ∈ ws,0≤x∧x≤1000
 pos:0<sumI ws
 c0:0≤c
 c1:c≤1000000000
theorem sum_bd {B:Int} (hB:0≤B):∀ {l:List Int},(∀ x ∈ l,0≤x∧x≤B)→0≤l.sum∧l.sum≤B*(l.length:Int)
 | [],_=>by simp
 | x :: l,h=>by
  have h1:=h x (by simp)
  have h2:=sum_bd hB (l:=l) (fun y hy=>h y (by simp [hy]))
  rw [List.sum_cons,List.length_cons,Int.natCast_add,Int.mul_add]
  omega
theorem yf {B:Int} {l:List Int} (hB:0≤B) (hB2:B≤1000000000000000) (hl:l.length≤1000) (h:∀ x ∈ l,0≤x∧x≤B):SumOk l:=by
 refine ⟨by omega,fun k hk=>?_⟩
 have h1:=sum_bd hB (l:=l.take k) (fun x hx=>h x (List.mem_of_mem_take hx))
 have h2:(((l.take k).length:Nat):Int)≤1000:=by rw [List.length_take]; omega
 have h3:B*(((l.take k).length:Nat):Int)≤1000000000000000*1000:=Int.mul_le_mul hB2 h2 (by omega) (by omega)
 omega
theorem Wu {c S w:Int} (hS:0<S) (hc:0≤c) (hw:0≤w):0≤Xp c S w∧S*Xp c S w≤c*w∧c*w≤S*Xp c S w+S∧Xp c S w≤c*w:=by
 have h0:0≤c*w:=Int.mul_nonneg hc hw
 have e:Xp c S w=(c*w) / S:=Int.tdiv_eq_ediv_of_nonneg h0
 have h1:=Int.ediv_nonneg h0 (Int.le_of_lt hS)
 have h2:=Int.mul_ediv_self_le (x:=c*w) (k:=S) (by omega)
 have h3:=Int.lt_mul_ediv_self_add (x:=c*w) hS
 have h4:=Int.ediv_le_self S h0
 rw [e]
 exact ⟨h1,h2,by omega,h4⟩
theorem share_sum {c S:Int} (hS:0<S) (hc:0≤c):∀ {l:List Int},(∀ w ∈ l,0≤w)→S*(l.map (Xp c S)).sum≤c*l.sum∧c*l.sum≤S*(l.map (Xp c S)).sum+S*(l.length:Int)
 | [],_=>by simp
 | w :: l,h=>by
  obtain ⟨-,h1,h2,-⟩:=Wu hS hc (h w (by simp))
  have h3:=share_sum hS hc (l:=l) (fun y hy=>h y (by simp [hy]))
  rw [List.map_cons,List.sum_cons,List.sum_cons,List.length_cons,Int.natCast_add,Int.mul_add,Int.mul_add,Int.mul_add]
  omega
theorem Vq {c w:Int} (hc:0≤c∧c≤1000000000) (hw:0≤w∧w≤1000):0≤c*w∧c*w≤1000000000000:=by
 have h1:=Int.mul_nonneg hc.1 hw.1
 have h2:c*w≤1000000000*1000:=Int.mul_le_mul hc.2 hw.2 hw.1 (by omega)
 omega
theorem base_left {c:Int} {ws:List Int} (h:SplitOk c ws):sumI (XV c ws)≤c∧c≤sumI (XV c ws)+ws.length:=by
 have h1:=share_sum h.pos h.c0 (l:=ws) (fun w hw=>(h.w w hw).1)
 have hS:=h.pos
 simp only [sumI,XV] at *
 constructor
 · have:ws.sum*(ws.map (Xp c ws.sum)).sum≤ws.sum*c:=by rw [Int.mul_comm ws.sum c]; exact h1.1
   exact Int.le_of_mul_le_mul_left this hS
 · have:ws.sum*c≤ws.sum*((ws.map (Xp c ws.sum)).sum+ws.length):=by rw [Int.mul_comm ws.sum c,Int.mul_add]; exact h1.2
   exact Int.le_of_mul_le_mul_left this hS
theorem fill_set {α:Type} (xs:List α) (z y:α) (m n:Nat) (hn:n=m+1) {i:Nat} (hi:i=xs.length):(xs++List.replicate n z).set i y=(xs++[y])++List.replicate m z:=by
 subst hn; subst hi
 rw [List.set_append_right _ _ (Nat.le_refl _),Nat.sub_self,List.replicate_succ,List.set_cons_zero,List.append_assoc]; rfl
theorem fill_get {α:Type} (xs:List α) (z:α) (m n:Nat) (hn:n=m+1) {i:Nat} (hi:i=xs.length):(xs++List.replicate n z)[i]?=some z:=by
 subst hn; subst hi
 rw [List.getElem?_append_right (Nat.le_refl _),Nat.sub_self,List.replicate_succ]; rfl
theorem key_ok_of {c:Int} {ws:List Int} (h:SplitOk c ws) {x:Int} (h0:0≤x) (h1:x<ws.length):YG c ws (sumI ws) x:=by
 have hg:ws[Int.toNat x]?=some (ws.getD (Int.toNat x) 0):=by simp [List.getD,show Int.toNat x<ws.length by omega]
 have hw:=h.w _ (List.mem_of_getElem? hg)
 have:=Vq ⟨h.c0,h.c1⟩ hw
 have:=h.pos
 exact ⟨h0,h1,by omega,by omega⟩
theorem split_ok (c:Int) (ws:List Int) (h:SplitOk c ws):Pure Try.prog 88 [.int .i64 c,.rsl (rowI ws) 0 ws.length] (.rsl (rowI (Xc c ws)) 0 (Xc c ws).length):=Qs Try.func88 f88b fun E hE=>by
 have hS:=h.pos
 have hlen:=h.len
 have hb:=base_left h
 have bd:∀ x ∈ XV c ws,0≤x∧x≤1000000000000:=by
  intro x hx
  obtain ⟨w,hw,rfl⟩:=List.mem_map.1 hx
  have h1:=Wu hS h.c0 (h.w w hw).1
  have h2:=Vq ⟨h.c0,h.c1⟩ (h.w w hw)
  omega
 have hbl:(XV c ws).length=ws.length:=by simp [XV]
 have hol:(QJ c ws).length=ws.length:=by simp [QJ,Vk]
 have hom:∀ x ∈ QJ c ws,0≤x∧x<ws.length:=by
  intro x hx
  obtain ⟨i,hi,rfl⟩:=List.mem_map.1 (sortI_mem hx)
  have:=List.mem_range.1 hi
  omega
 -- the cents that are left
 have last:∀ (d i:Nat) (v:List Int),i+d=Int.toNat (c - sumI (XV c ws))→v=((QJ c ws).take i).foldl bump (XV c ws)→v.length=ws.length→(∀ x ∈ v,0≤x∧x≤1000000000000+i) →
  f88G1 E c ws (Int.toNat (c - sumI (XV c ws))) (Int.toNat (c - sumI (XV c ws))) v (QJ c ws) i:=by
  intro d
  induction d with
  | zero =>
   intro i v hd hv hvl hvb
   refine f88W1 c ws _ _ v _ i (rv:=Xc c ws) hE ⟨fun h=>by omega,fun _=>?_⟩
   rw [hv,Xc,← hd]; rfl
  | succ d ih =>
   intro i v hd hv hvl hvb
   have hi:(QJ c ws)[i]?=some (QJ c ws)[i]:=List.getElem?_eq_getElem (by omega)
   have h1:=hom _ (List.mem_of_getElem? hi)
   have h2:v[Int.toNat (QJ c ws)[i]]?=some (v.getD (Int.toNat (QJ c ws)[i]) 0):=by simp [List.getD,show Int.toNat (QJ c ws)[i]<v.length by omega]
   have h3:=hvb _ (List.mem_of_getElem? h2)
   refine f88W1 c ws _ _ v _ i (rv:=Xc c ws) hE ⟨fun _=>⟨_,hi,by omega,h1.1,_,h2,by omega,by omega,ih (i+1) _ (by omega) ?_ (by simp [hvl]) (fun x hx=>?_)⟩,fun h=>by omega⟩
   · rw [List.take_add_one,hi,List.foldl_append,← hv]; rfl
   · rcases List.mem_or_eq_of_mem_set hx with hx | rfl
     · have:=hvb x hx; omega
     · omega
 -- the shares
 have first:∀ (d i:Nat),i+d=ws.length→f88G0 E c ws ((ws.take i).map (Xp c (sumI ws))++List.replicate d 0) ((List.range i).map (fun i:Nat=>(i:Int))++List.replicate d 0) i:=by
  intro d
  induction d with
  | zero =>
   intro i hd
   have e1:(ws.take i).map (Xp c (sumI ws))=XV c ws:=by rw [List.take_of_length_le (by omega)]; rfl
   have e2:i=ws.length:=by omega
   rw [e1,List.replicate_zero,List.append_nil,List.append_nil,e2]
   refine f88W0 c ws _ _ _ (rv:=Xc c ws) hE ⟨fun h=>by omega,fun _=>⟨⟨fun x hx=>?_,by simp; omega⟩,yf (B:=1000000000000) (by omega) (by omega) (by omega) bd,by omega,by simp; omega,by omega,?_⟩⟩
   · obtain ⟨j,hj,rfl⟩:=List.mem_map.1 hx
     have:=List.mem_range.1 hj
     exact key_ok_of h (by omega) (by omega)
   · exact last (Int.toNat (c - sumI (XV c ws))) 0 _ (by omega) rfl hbl (fun x hx=>by have:=bd x hx; omega)
  | succ d ih =>
   intro i hd
   have hi:ws[i]?=some ws[i]:=List.getElem?_eq_getElem (by omega)
   have hw:=h.w _ (List.mem_of_getElem? hi)
   have h1:=Wu hS h.c0 hw.1
   have h2:=Vq ⟨h.c0,h.c1⟩ hw
   have h3:=ih (i+1) (by omega)
   have l1:i=((ws.take i).map (Xp c (sumI ws))).length:=by simp; omega
   have l2:i=((List.range i).map (fun i:Nat=>(i:Int))).length:=by simp
   have g1:((ws.take i).map (Xp c (sumI ws))++List.replicate (d+1) 0)[i]?=some 0:=fill_get _ _ d _ rfl l1
   have g2:((List.range i).map (fun i:Nat=>(i:Int))++List.replicate (d+1) 0)[i]?=some 0:=fill_get _ _ d _ rfl l2
   refine f88W0 c ws _ _ i (rv:=Xc c ws) hE ⟨fun _=>⟨_,hi,by omega,?_,by omega,_,g1,_,g2,by omega,?_⟩,fun h=>by omega⟩
   · simp only [Xp] at h1; omega
   · rw [fill_set _ _ _ d _ rfl l1,fill_set _ _ _ d _ rfl l2]
     rw [List.take_add_one,hi,List.map_append,List.range_succ,List.map_append] at h3
     exact h3
 refine f88W c ws (rv:=Xc c ws) hE ⟨yf (B:=1000) (by omega) (by omega) (by omega) h.w,by omega,by omega,first ws.length 0 (by omega)⟩
end Go.Proofs.Ytemklbioijmjiaa
namespace Go.Proofs.Ytemklbioijmjiaa
open Go Ax
open Go.Proofs
def QM (ws:List Int):Bool:=Qt ws.length 1 10 && (!(ws.any fun x=>!Qt x 0 1000) && decide (sumI ws > 0))
theorem Xw {n lo hi:Int}:Qt n lo hi=true ↔ lo≤n∧n≤hi:=by simp [Qt]
theorem qw {ws:List Int} (h:(ws.any fun x=>!Qt x 0 1000)=false):∀ x ∈ ws,0≤x∧x≤1000:=by
 intro x hx
 rw [List.any_eq_false] at h
 have:=h x hx
 simp only [Bool.not_eq_true',Bool.not_eq_false] at this
 exact Xw.1 (by simpa using this)
theorem Ww (l:List Int) (h:l.length≤9223372036854775807):Pure Try.prog 87 [.rsl (rowI l) 0 l.length] (.bool (QM l)):=Qs Try.func87 f87b fun E hE=>by
 refine f87W l hE ⟨fun h1=>⟨h,fun h2=>⟨?_,?_⟩,fun h2=>?_⟩,fun h1=>?_⟩
 · have:=Xw.1 h1
   exact yf (B:=1000) (by omega) (by omega) (by omega) (qw h2)
 · simp [QM,h1,h2]
 · simp [QM,h2]
 · simp [QM,h1]
theorem VY (l:List Int) (h:l.length≤9223372036854775807):Pure Try.prog 86 [.rsl (rowI l) 0 l.length] (.bool (!(l.any fun x=>!Qw x))):=Qs Try.func86 f86b fun E hE =>
 f86W l hE ⟨h,rfl⟩
theorem split_of {c:Int} {ws:List Int} (hc:0≤c∧c≤1000000000) (h:QM ws=true):SplitOk c ws:=by
 simp only [QM,Bool.and_eq_true,Bool.not_eq_true',decide_eq_true_eq] at h
 obtain ⟨h1,h2,h3⟩:=h
 have h1:=Xw.1 h1
 exact ⟨by omega,by omega,qw h2,h3,hc.1,hc.2⟩
def WG (s:List Int × Int) (x:Int):List Int × Int:=(s.1++[iMin x s.2],s.2 - iMin x s.2)
def payI (c:Int) (cl:List Int):List Int × Int:=cl.foldl WG ([],c)
def Qj (c:Int) (cl ws:List Int):List Int × List Int × Int :=
 if Qw c=false then ([],[],1) else if (cl.length:Int) > 10 then ([],[],1) else if (!cl.any fun x=>!Qw x)=false then ([],[],1) else
 if QM ws=false then ([],[],110) else ((payI c cl).1,Xc (payI c cl).2 ws,0)
theorem f33b:Try.f33.body=some (Qb Try.prog 33):=by kernel_rfl
theorem u33 {a c k:List AV} {r:AV} (h:Pure Try.prog 33 (a++c++k) r):Qi Try.prog (.clos 33 a k) c r:=Qk Try.func33 (by kernel_rfl) f33b h
def f33K0 (P:Program):List Item:=kAt 400 [.code (Qb P 33)] [.b false,.b false,.stop]
def f33S0 (c:Int) (cl:(List Int)) (ws:(List Int)) (cents:Int) (v0:List Int) (i:Nat) (g0:Nat):St:=⟨([.int .i64 cents,J,.rsl (rowI ws) 0 ws.length,J,J,J,.sl 0 g0 0 v0.length 1]++jj 21 ([.rsl (rowI cl) 0 cl.length,.int .i64 (cl.length:Int),.int .i64 (i:Int)]++Js 18)),[⟨true,g0,1,true,(rowI v0),true⟩]⟩
def f33G0 (E:Env) (c:Int) (cl:(List Int)) (ws:(List Int)) (cents:Int) (v0:List Int) (i:Nat):Prop:=∀ g0:Nat,G Try.prog E (f33K0 Try.prog) (f33S0 c cl ws cents v0 i g0)
theorem p33_start_0 (c:Int) (cl:(List Int)) (ws:(List Int)) {E:Env} {res:AV} (hE:Qg Try.prog 33 res E) (ho:AllP [Qi Try.prog (.clos 85 [] []) [.int .i64 c] (.bool (Qw c)),(!(Qw c))=true,true=true,true=true])
 (hr:AvLe (.tup [.nilSl,.nilSl,.int .i64 1]) res):G Try.prog E [.code (Qb Try.prog 33)] ⟨[.int .i64 c,.rsl (rowI cl) 0 cl.length,.rsl (rowI ws) 0 ws.length]++unds (Try.f33.ntmps - 3),[]⟩ :=
 Qa (n:=400) (evs:=[.v (.bool (Qw c)),.b true,.b true,.b true]) (obs:=_) hE Try.func33 Qy (by kernel_rfl) ho hr
theorem p33_start_1 (c:Int) (cl:(List Int)) (ws:(List Int)) {E:Env} {res:AV} (hE:Qg Try.prog 33 res E) (ho:AllP [Qi Try.prog (.clos 85 [] []) [.int .i64 c] (.bool (Qw c)),(!(Qw c))=false,(decide ((cl.length:Int) > 10))=true,true=true])
 (hr:AvLe (.tup [.nilSl,.nilSl,.int .i64 1]) res):G Try.prog E [.code (Qb Try.prog 33)] ⟨[.int .i64 c,.rsl (rowI cl) 0 cl.length,.rsl (rowI ws) 0 ws.length]++unds (Try.f33.ntmps - 3),[]⟩ :=
 Qa (n:=400) (evs:=[.v (.bool (Qw c)),.b false,.b true,.b true]) (obs:=_) hE Try.func33 Qy (by kernel_rfl) ho hr
theorem p33_start_2 (c:Int) (cl:(List Int)) (ws:(List Int)) {E:Env} {res:AV} (hE:Qg Try.prog 33 res E) (ho:AllP [Qi Try.prog (.clos 85 [] []) [.int .i64 c] (.bool (Qw c)),(!(Qw c))=false,(decide ((cl.length:Int) > 10))=false,Qi Try.prog (.clos 86 [] []) [.rsl (rowI cl) 0 cl.length] (.bool (!cl.any (fun x=>!Qw x))),(!(!cl.any (fun x=>!Qw x)))=true])
 (hr:AvLe (.tup [.nilSl,.nilSl,.int .i64 1]) res):G Try.prog E [.code (Qb Try.prog 33)] ⟨[.int .i64 c,.rsl (rowI cl) 0 cl.length,.rsl (rowI ws) 0 ws.length]++unds (Try.f33.ntmps - 3),[]⟩ :=
 Qa (n:=400) (evs:=[.v (.bool (Qw c)),.b false,.b false,.v (.bool (!cl.any (fun x=>!Qw x))),.b true]) (obs:=_) hE Try.func33 Qy (by kernel_rfl) ho hr
theorem p33_start_3 (c:Int) (cl:(List Int)) (ws:(List Int)) {E:Env} {res:AV} (hE:Qg Try.prog 33 res E) (ho:AllP [Qi Try.prog (.clos 85 [] []) [.int .i64 c] (.bool (Qw c)),(!(Qw c))=false,(decide ((cl.length:Int) > 10))=false,Qi Try.prog (.clos 86 [] []) [.rsl (rowI cl) 0 cl.length] (.bool (!cl.any (fun x=>!Qw x))),(!(!cl.any (fun x=>!Qw x)))=false,Qi Try.prog (.clos 87 [] []) [.rsl (rowI ws) 0 ws.length] (.bool (QM ws)),(!(QM ws))=true])
 (hr:AvLe (.tup [.nilSl,.nilSl,.int .i64 110]) res):G Try.prog E [.code (Qb Try.prog 33)] ⟨[.int .i64 c,.rsl (rowI cl) 0 cl.length,.rsl (rowI ws) 0 ws.length]++unds (Try.f33.ntmps - 3),[]⟩ :=
 Qa (n:=400) (evs:=[.v (.bool (Qw c)),.b false,.b false,.v (.bool (!cl.any (fun x=>!Qw x))),.b false,.v (.bool (QM ws)),.b true]) (obs:=_) hE Try.func33 Qy (by kernel_rfl) ho hr
theorem p33_start_4 (c:Int) (cl:(List Int)) (ws:(List Int)) {E:Env} {rv:AV} (hE:Qg Try.prog 33 rv E) (ho:AllP [Qi Try.prog (.clos 85 [] []) [.int .i64 c] (.bool (Qw c)),(!(Qw c))=false,(decide ((cl.length:Int) > 10))=false,Qi Try.prog (.clos 86 [] []) [.rsl (rowI cl) 0 cl.length] (.bool (!cl.any (fun x=>!Qw x))),(!(!cl.any (fun x=>!Qw x)))=false,Qi Try.prog (.clos 87 [] []) [.rsl (rowI ws) 0 ws.length] (.bool (QM ws)),(!(QM ws))=false])
 (hg:G Try.prog E (f33K0 Try.prog) ⟨([.int .i64 c,J,.rsl (rowI ws) 0 ws.length,J,J,J,.sl 0 0 0 0 1]++jj 21 ([.rsl (rowI cl) 0 cl.length,.int .i64 (cl.length:Int),.int .i64 0]++Js 18)),[⟨true,0,1,true,[],true⟩]⟩):G Try.prog E [.code (Qb Try.prog 33)] ⟨[.int .i64 c,.rsl (rowI cl) 0 cl.length,.rsl (rowI ws) 0 ws.length]++unds (Try.f33.ntmps - 3),[]⟩ :=
 Qh (n:=400) (ds:=[(6,1)]) (cs:=[]) (live:=[0,2,6,28,29,30]) (m:=1) (evs:=[.v (.bool (Qw c)),.b false,.b false,.v (.bool (!cl.any (fun x=>!Qw x))),.b false,.v (.bool (QM ws)),.b false,.stop]) (obs:=_) hE.2.1 (hE.nogh _) Qy (by kernel_rfl) ho hg
theorem f33W (c:Int) (cl:(List Int)) (ws:(List Int)) {E:Env} {rv:((List Int) × (List Int) × Int)} (hE:Qg Try.prog 33 (.tup [.rsl (rowI rv.1) 0 rv.1.length,.rsl (rowI rv.2.1) 0 rv.2.1.length,.int .i64 rv.2.2]) E)
 (h:(((Qw c)=false→rv=(([]:List Int),([]:List Int),1))∧((Qw c)=true→(((cl.length:Int) > 10→rv=(([]:List Int),([]:List Int),1))∧(¬ ((cl.length:Int) > 10)→((cl.length≤9223372036854775807)∧(((!cl.any (fun x=>!Qw x))=false→rv=(([]:List Int),([]:List Int),1))∧((!cl.any (fun x=>!Qw x))=true→((ws.length≤9223372036854775807)∧(((QM ws)=false→rv=(([]:List Int),([]:List Int),110))∧((QM ws)=true→f33G0 E c cl ws c ([]) 0))))))))))):G Try.prog E [.code (Qb Try.prog 33)] ⟨[.int .i64 c,.rsl (rowI cl) 0 cl.length,.rsl (rowI ws) 0 ws.length]++unds (Try.f33.ntmps - 3),[]⟩:=by
 rcases bft (!(Qw c)) with hc0 | hc0
 · have h:=h.1 (bnT hc0)
   exact p33_start_0 c cl ws hE ⟨(u85 (Yy c)),hc0,rfl,rfl,trivial⟩ (by rw [h]; exact (YI ⟨Yb,⟨Yb,⟨AvLe.of_eq rfl,trivial⟩⟩⟩))
 · have h:=h.2 (bnF hc0)
   rcases bft (decide ((cl.length:Int) > 10)) with hc1 | hc1
   · have h:=h.1 (odt hc1)
     exact p33_start_1 c cl ws hE ⟨(u85 (Yy c)),hc0,hc1,rfl,trivial⟩ (by rw [h]; exact (YI ⟨Yb,⟨Yb,⟨AvLe.of_eq rfl,trivial⟩⟩⟩))
   · have h:=h.2 (odf hc1)
     obtain ⟨h1,h⟩:=h
     rcases bft (!(!cl.any (fun x=>!Qw x))) with hc2 | hc2
     · have h:=h.1 (bnT hc2)
       exact p33_start_2 c cl ws hE ⟨(u85 (Yy c)),hc0,hc1,(u86 (VY cl h1)),hc2,trivial⟩ (by rw [h]; exact (YI ⟨Yb,⟨Yb,⟨AvLe.of_eq rfl,trivial⟩⟩⟩))
     · have h:=h.2 (bnF hc2)
       obtain ⟨h2,h⟩:=h
       rcases bft (!(QM ws)) with hc3 | hc3
       · have h:=h.1 (bnT hc3)
         exact p33_start_3 c cl ws hE ⟨(u85 (Yy c)),hc0,hc1,(u86 (VY cl h1)),hc2,(u87 (Ww ws h2)),hc3,trivial⟩ (by rw [h]; exact (YI ⟨Yb,⟨Yb,⟨AvLe.of_eq rfl,trivial⟩⟩⟩))
       · have h:=h.2 (bnF hc3)
         exact p33_start_4 c cl ws hE ⟨(u85 (Yy c)),hc0,hc1,(u86 (VY cl h1)),hc2,(u87 (Ww ws h2)),hc3,trivial⟩ (h 0)
theorem p33_0_0 (c:Int) (cl:(List Int)) (ws:(List Int)) (cents:Int) (v0:List Int) (i:Nat) (g0:Nat) (e:Int) {E:Env} {rv:AV} (hE:Qg Try.prog 33 rv E) (ho:AllP [(decide ((i:Int)<(cl.length:Int)))=true,0≤(i:Int)∧(i:Int)<(cl.length:Int),((rowI cl).drop (0+(Int.toNat (i:Int))*1)).take 1=[.int .i64 e],g0=g0,(0+(v0.length*1))=(rowI v0).length,(v0.length+1)≤2147483648,0=0,InR .i64 (cents - (iMin e cents)),InR .i64 ((i:Int)+1)])
 (hg:G Try.prog E (f33K0 Try.prog) ⟨([.int .i64 (cents - (iMin e cents)),J,.rsl (rowI ws) 0 ws.length,J,J,J,.sl 0 (g0+1) 0 (v0.length+1) 1]++jj 21 ([.rsl (rowI cl) 0 cl.length,.int .i64 (cl.length:Int),.int .i64 ((i:Int)+1)]++Js 18)),[⟨true,(g0+1),1,true,((rowI v0)++[.int .i64 (iMin e cents)]),true⟩]⟩):G Try.prog E (f33K0 Try.prog) (f33S0 c cl ws cents v0 i g0) :=
 Qh (n:=400) (ds:=[]) (cs:=[]) (live:=[0,2,6,28,29,30]) (m:=1) (evs:=[.b true,.ld (.int .i64 e),.stop]) (obs:=_) hE.2.1 (hE.nogh _) Qy (by kernel_rfl) ho hg
theorem p33_0_1 (c:Int) (cl:(List Int)) (ws:(List Int)) (cents:Int) (v0:List Int) (i:Nat) (g0:Nat) {E:Env} {res:AV} (hE:Qg Try.prog 33 res E) (ho:AllP [(decide ((i:Int)<(cl.length:Int)))=false,Qi Try.prog (.clos 88 [] []) [.int .i64 cents,.rsl (rowI ws) 0 ws.length] (.rsl (rowI (Xc cents ws)) 0 ((Xc cents ws).length)),g0=g0])
 (hr:AvLe (.tup [.rsl (rowI v0) 0 v0.length,.rsl (rowI (Xc cents ws)) 0 ((Xc cents ws).length),.int .i64 0]) res):G Try.prog E (f33K0 Try.prog) (f33S0 c cl ws cents v0 i g0) :=
 Qa (n:=400) (evs:=[.b false,.v (.rsl (rowI (Xc cents ws)) 0 ((Xc cents ws).length))]) (obs:=_) hE Try.func33 Qy (by kernel_rfl) ho hr
theorem f33W0 (c:Int) (cl:(List Int)) (ws:(List Int)) (cents:Int) (v0:List Int) (i:Nat) {E:Env} {rv:((List Int) × (List Int) × Int)} (hE:Qg Try.prog 33 (.tup [.rsl (rowI rv.1) 0 rv.1.length,.rsl (rowI rv.2.1) 0 rv.2.1.length,.int .i64 rv.2.2]) E)
 (h:(((i:Int)<(cl.length:Int)→(∃ e:Int,cl[i]?=some e∧((v0.length+1)≤2147483648∧((I6 (cents - (iMin e cents)))∧((I6 ((i:Int)+1))∧f33G0 E c cl ws (cents - (iMin e cents)) (v0++[(iMin e cents)]) (i+1))))))∧(¬ ((i:Int)<(cl.length:Int))→((SplitOk cents ws)∧rv=(v0,(Xc cents ws),0))))):f33G0 E c cl ws cents v0 i:=by
 intro g0
 rcases bft (decide ((i:Int)<(cl.length:Int))) with hc0 | hc0
 · have h:=h.1 (odt hc0)
   obtain ⟨e,h1,h⟩:=h
   obtain ⟨h2,h⟩:=h
   obtain ⟨q8_1,h⟩:=h
   obtain ⟨q9_1,h⟩:=h
   refine p33_0_0 c cl ws cents v0 i g0 e hE ⟨hc0,(Qq h1),(rp cI 1 0 1 h1),rfl,(by have hx:=QW cI (s:=1) (fun _=>rfl) v0; simp only [rowI] at hx ⊢; rw [hx]; simp),h2,rfl,q8_1,q9_1,trivial⟩ ?_
   rw [(show rowI v0++[.int .i64 (iMin e cents)]=rowI (v0++[(iMin e cents)]) from (yn cI v0 [(iMin e cents)]).symm)]; rw [(show (v0.length+1)=(v0++[(iMin e cents)]).length from by simp)]; exact (h (g0+1))
 · have h:=h.2 (odf hc0)
   obtain ⟨h1,h⟩:=h
   exact p33_0_1 c cl ws cents v0 i g0 hE ⟨hc0,(u88 (split_ok cents ws h1)),rfl,trivial⟩ (AvLe.of_eq (by rw [h]; try rfl))
theorem YR (c:Int) (cl ws:List Int) (h:cl.length≤9223372036854775807∧ws.length≤9223372036854775807):Pure Try.prog 33 [.int .i64 c,.rsl (rowI cl) 0 cl.length,.rsl (rowI ws) 0 ws.length]
 (.tup [.rsl (rowI (Qj c cl ws).1) 0 (Qj c cl ws).1.length,.rsl (rowI (Qj c cl ws).2.1) 0 (Qj c cl ws).2.1.length,.int .i64 (Qj c cl ws).2.2]):=Qs Try.func33 f33b fun E hE=>by
 refine f33W c cl ws (rv:=Qj c cl ws) hE ⟨fun h1=>by simp [Qj,h1],fun h1=>⟨fun h2=>by simp only [Qj]; rw [if_neg (by rw [h1]; simp),if_pos h2],fun h2=>⟨h.1,fun h3=>?_,fun h3=>⟨h.2,fun h4=>?_,fun h4=>?_⟩⟩⟩⟩
 · simp only [Qj]; rw [if_neg (by rw [h1]; simp),if_neg h2,if_pos h3]
 · simp only [Qj]; rw [if_neg (by rw [h1]; simp),if_neg h2,if_neg (by rw [h3]; simp),if_pos h4]
 · have he:Qj c cl ws=((payI c cl).1,Xc (payI c cl).2 ws,0):=by
    simp only [Qj]; rw [if_neg (by rw [h1]; simp),if_neg h2,if_neg (by rw [h3]; simp),if_neg (by rw [h4]; simp)]
   have ha:∀ x ∈ cl,0≤x∧x≤1000000000:=by
    intro x hx
    have:(cl.any fun x=>!Qw x)=false:=by simpa using h3
    rw [List.any_eq_false] at this
    have:=this x hx
    exact Xw.1 (by simpa [Qw] using this)
   have hc:0≤c∧c≤1000000000:=Xw.1 h1
   have key:∀ (d i:Nat) (p:List Int × Int),i+d=cl.length→p=(cl.take i).foldl WG ([],c)→p.1.length=i→(0≤p.2∧p.2≤1000000000)→f33G0 E c cl ws p.2 p.1 i:=by
    intro d
    induction d with
    | zero =>
     intro i p hd hp hl hb
     refine f33W0 c cl ws _ _ i (rv:=Qj c cl ws) hE ⟨fun h=>by omega,fun _=>⟨split_of hb h4,?_⟩⟩
     rw [he,payI,hp,List.take_of_length_le (by omega)]
    | succ d ih =>
     intro i p hd hp hl hb
     have hi:cl[i]?=some cl[i]:=List.getElem?_eq_getElem (by omega)
     have hx:=ha _ (List.mem_of_getElem? hi)
     have hm:0≤iMin cl[i] p.2∧iMin cl[i] p.2≤p.2:=by simp only [iMin]; split <;> omega
     refine f33W0 c cl ws _ _ i (rv:=Qj c cl ws) hE ⟨fun _=>⟨_,hi,by omega,by omega,by omega,?_⟩,fun h=>by omega⟩
     refine ih (i+1) (WG p cl[i]) (by omega) ?_ (by simp [WG,hl]) (by simp only [WG]; omega)
     rw [List.take_add_one,hi,List.foldl_append,← hp]; rfl
   exact key cl.length 0 ([],c) (by omega) rfl rfl hc
end Go.Proofs.Ytemklbioijmjiaa
namespace Go.Proofs.Ytemklbioijmjiaa
open Go Ax
open Go.Proofs
structure Bra where
 from_:Int
 per:Int
/-- Sorted,in range. -/
def BrS (l:List Bra):Prop:=(∀ b ∈ l,0≤b.from_∧b.from_≤1000000000∧0≤b.per∧b.per≤100)∧l.Pairwise fun a b=>a.from_<b.from_
theorem BrS.drop {l:List Bra} (h:BrS l) (i:Nat):BrS (l.drop i):=⟨fun b hb=>h.1 b (List.mem_of_mem_drop hb),h.2.sublist (List.drop_sublist _ _)⟩
end Go.Proofs.Ytemklbioijmjiaa
namespace Go.Proofs.Ytemklbioijmjiaa
open Go Ax
open Go.Proofs
theorem sum_set:∀ {l:List Int} {i:Nat} {x:Int},i<l.length→(l.set i x).sum=l.sum - l.getD i 0+x
 | [],i,x,h=>by simp at h
 | y :: l,0,x,h=>by simp; omega
 | y :: l,i+1,x,h=>by
  have:=sum_set (l:=l) (i:=i) (x:=x) (by simpa using h)
  simp only [List.set_cons_succ,List.sum_cons,List.getD_cons_succ]; omega
end Go.Proofs.Ytemklbioijmjiaa
namespace Go.Proofs.Ytemklbioijmjiaa
open Go Ax
open Go.Proofs
def prec (K:Int→Int) (i j:Int):Prop:=K i > K j ∨ (K i=K j∧i<j)
theorem prec_asymm {K:Int→Int} {i j:Int} (h:prec K i j) (h2:prec K j i):False:=by
 rcases h with h | h <;> rcases h2 with h2 | h2 <;> omega
theorem Wz {lt:Int→Int→Bool}:∀ {d:Nat} {S R:List Int} {x:Int},S.length=d→∃ S1 S2,S=S1++S2∧sink lt d (S++x :: R)=S1++x :: (S2++R)∧(∀ y ∈ S2,lt x y=true)∧(∀ y,S1.getLast?=some y→lt x y=false)
 | 0,S,R,x,h=>⟨[],[],by simpa using h,by rw [List.length_eq_zero_iff.1 h]; rfl,by simp,by simp⟩
 | d+1,S,R,x,h=>by
  obtain ⟨S',y,rfl⟩:∃ S' y,S=S'++[y]:=⟨S.dropLast,S.getLast (by intro e; simp [e] at h),(List.dropLast_concat_getLast _).symm⟩
  have h':S'.length=d:=by simpa using h
  subst h'
  have e0:S'++[y]++x :: R=S'++y :: x :: R:=by simp
  have e1:(S'++y :: x :: R)[S'.length+1]?=some x:=by rw [List.getElem?_append_right (by omega),show S'.length+1 - S'.length=1 by omega]; rfl
  have e2:(S'++y :: x :: R)[S'.length]?=some y:=by rw [List.getElem?_append_right (by omega),Nat.sub_self]; rfl
  rw [e0]
  simp only [sink,e1,e2]
  by_cases hl:lt x y=true
  · rw [if_pos hl,List.set_append_right _ _ (by omega),show S'.length+1 - S'.length=1 by omega,List.set_append_right _ _ (by omega),Nat.sub_self]
    obtain ⟨S1,S2,q1,q2,q3,q4⟩:=Wz (lt:=lt) (S:=S') (R:=y :: R) (x:=x) rfl
    refine ⟨S1,S2++[y],by rw [← List.append_assoc,← q1],?_,fun z hz=>?_,q4⟩
    · have:((y :: x :: R).set 1 y).set 0 x=x :: y :: R:=rfl
      rw [this,q2]; simp
    · rcases List.mem_append.1 hz with hz | hz
      · exact q3 z hz
      · rw [List.mem_singleton.1 hz]; exact hl
  · rw [if_neg hl]
    exact ⟨S'++[y],[],by simp,by simp,by simp,fun z hz=>by simp at hz; subst hz; simpa using hl⟩
theorem pw_ins {K:Int→Int} {lt:Int→Int→Bool} (hlt:∀ x y,lt x y=true ↔ K y<K x) {S1 S2:List Int} {x:Int} (hp:(S1++S2).Pairwise (prec K)) (hx:∀ y ∈ S1,y<x)
 (h1:∀ y,S1.getLast?=some y→lt x y=false) (h2:∀ y ∈ S2,lt x y=true):(S1++x :: S2).Pairwise (prec K):=by
 rw [List.pairwise_append] at hp
 obtain ⟨p1,p2,p3⟩:=hp
 have low:∀ y ∈ S1,prec K y x:=by
  rcases List.eq_nil_or_concat S1 with rfl | ⟨S',z,rfl⟩
  · simp
  intro y hy
  have hz:=h1 z (by simp)
  have hz':¬ K z<K x:=fun h=>by rw [(hlt x z).2 h] at hz; cases hz
  have hyz:K z≤K y:=by
   rw [List.concat_eq_append,List.pairwise_append] at p1
   simp only [List.concat_eq_append,List.mem_append,List.mem_singleton] at hy
   rcases hy with hy | rfl
   · have:=p1.2.2 y hy z (by simp)
     rcases this with h | h <;> omega
   · omega
  have:=hx y hy
  by_cases e:K y=K x
  · exact .inr ⟨e,this⟩
  · exact .inl (by omega)
 rw [List.pairwise_append]
 refine ⟨p1,List.pairwise_cons.2 ⟨fun y hy=>.inl ((hlt x y).1 (h2 y hy)),p2⟩,fun a ha b hb=>?_⟩
 rcases List.mem_cons.1 hb with rfl | hb
 · exact low a ha
 · exact p3 a ha b hb
def idxL (n:Nat):List Int:=(List.range n).map fun i:Nat=>(i:Int)
theorem idxL_get {n k:Nat} (h:k<n):(idxL n)[k]?=some (k:Int):=by simp [idxL,List.getElem?_map,List.getElem?_range h]
theorem idxL_drop {n k:Nat} (h:k<n):(idxL n).drop k=(k:Int) :: (idxL n).drop (k+1):=by
 have hl:k<(idxL n).length:=by simpa [idxL] using h
 rw [List.drop_eq_getElem_cons hl]
 congr 1
 have:=idxL_get h
 rw [List.getElem?_eq_getElem hl] at this
 exact Option.some.inj this
theorem sort_inv {K:Int→Int} {lt:Int→Int→Bool} (hlt:∀ x y,lt x y=true ↔ K y<K x) (n:Nat):∀ k,k+1≤n→∃ S,S.length=k+1∧(List.range k).foldl (fun l k=>sink lt (k+1) l) (idxL n)=S++(idxL n).drop (k+1)∧(∀ x,x ∈ S ↔ 0≤x∧x<(k:Int)+1)∧S.Pairwise (prec K)
 | 0,h=>⟨[0],rfl,by have:=idxL_drop (n:=n) (k:=0) (by omega); simpa using this,fun x=>by simp; omega,by simp⟩
 | k+1,h=>by
  obtain ⟨S,s1,s2,s3,s4⟩:=sort_inv hlt n k (by omega)
  obtain ⟨S1,S2,rfl,q2,q3,q4⟩:=Wz (lt:=lt) (S:=S) (R:=(idxL n).drop (k+1+1)) (x:=((k+1:Nat):Int)) s1
  refine ⟨S1++((k+1:Nat):Int) :: S2,?_,?_,fun x=>?_,pw_ins hlt s4 (fun y hy=>?_) q4 q3⟩
  · simp only [List.length_append,List.length_cons] at *; omega
  · rw [List.range_succ,List.foldl_append,s2,List.foldl_cons,List.foldl_nil,idxL_drop (by omega),q2]; simp
  · have:=s3 x
    rw [List.mem_append] at this
    rw [List.mem_append,List.mem_cons]
    constructor
    · rintro (h1 | rfl | h1)
      · have:=this.1 (.inl h1); omega
      · omega
      · have:=this.1 (.inr h1); omega
    · intro h1
      by_cases e:x=((k+1:Nat):Int)
      · exact .inr (.inl e)
      · rcases this.2 (by omega) with h2 | h2
        · exact .inl h2
        · exact .inr (.inr h2)
  · have:=(s3 y).1 (List.mem_append_left _ hy); omega
theorem ltI_iff (c:Int) (ws:List Int) (al x y:Int):ltI c ws al x y=true ↔ keyI c ws al y<keyI c ws al x:=by
 simp only [ltI,decide_eq_true_eq,Wn,cmpI]
 split
 · simp; omega
 · split <;> simp <;> omega
theorem order_spec {c:Int} {ws:List Int} (h:1≤ws.length):(QJ c ws).length=ws.length∧(∀ x,x ∈ QJ c ws ↔ 0≤x∧x<(ws.length:Int))∧(QJ c ws).Pairwise (prec (keyI c ws (sumI ws))):=by
 obtain ⟨S,s1,s2,s3,s4⟩:=sort_inv (K:=keyI c ws (sumI ws)) (lt:=ltI c ws (sumI ws)) (ltI_iff c ws _) ws.length (ws.length - 1) (by omega)
 have e:QJ c ws=S:=by
  have hl:(idxL ws.length).length=ws.length:=by simp [idxL]
  rw [QJ,XI]
  show (List.range ((idxL ws.length).length - 1)).foldl _ (idxL ws.length)=S
  rw [hl,s2,List.drop_eq_nil_of_le (by rw [hl]; omega),List.append_nil]
 rw [e]
 exact ⟨by omega,fun x=>by rw [s3 x]; omega,s4⟩
end Go.Proofs.Ytemklbioijmjiaa
namespace Go.Proofs.Ytemklbioijmjiaa
open Go Ax
open Go.Proofs
theorem yQ {l:List Int} {e:Int}:(bump l e).length=l.length:=by simp [bump]
theorem bumps_len:∀ {z v:List Int},(z.foldl bump v).length=v.length
 | [],v=>rfl
 | e :: z,v=>by rw [List.foldl_cons,bumps_len,yQ]
theorem splitI_len {c:Int} {ws:List Int}:(Xc c ws).length=ws.length:=by rw [Xc,bumps_len]; simp [XV]
theorem bumps_get:∀ {z v:List Int} {i:Nat},(∀ e ∈ z,0≤e∧e<(v.length:Int))→z.Nodup→(z.foldl bump v).getD i 0=v.getD i 0+if (i:Int) ∈ z then 1 else 0
 | [],v,i,_,_=>by simp
 | e :: z,v,i,h,hn=>by
  have he:=h e (by simp)
  obtain ⟨n1,n2⟩:=List.nodup_cons.1 hn
  rw [List.foldl_cons,bumps_get (fun x hx=>by rw [yQ]; exact h x (by simp [hx])) n2,bump]
  by_cases q:Int.toNat e=i
  · have q2:(i:Int)=e:=by omega
    rw [if_neg (by rw [q2]; exact n1),if_pos (by rw [q2]; simp),q]
    simp [List.getD,show i<v.length by omega]
  · have q2:¬ (i:Int)=e:=by omega
    have q3:((i:Int) ∈ e :: z)=((i:Int) ∈ z):=by simp [q2]
    simp only [q3]
    congr 1
    simp [List.getD,List.getElem?_set_ne q]
theorem bumps_sum:∀ {z v:List Int},(∀ e ∈ z,0≤e∧e<(v.length:Int))→(z.foldl bump v).sum=v.sum+z.length
 | [],v,_=>by simp
 | e :: z,v,h=>by
  have he:=h e (by simp)
  rw [List.foldl_cons,bumps_sum (fun x hx=>by rw [yQ]; exact h x (by simp [hx])),bump,sum_set (by omega)]
  simp only [List.length_cons,Int.natCast_add]; omega
theorem fold_sum {f:Int→Int} {lt:Int→Int→Bool} (n:Nat) (l0:List Int) (h0:l0.length=n):∀ k,k+1≤n→(((List.range k).foldl (fun l k=>sink lt (k+1) l) l0).map f).sum=(l0.map f).sum∧((List.range k).foldl (fun l k=>sink lt (k+1) l) l0).length=n
 | 0,_=>⟨rfl,h0⟩
 | k+1,h=>by
  obtain ⟨i1,i2⟩:=fold_sum (f:=f) (lt:=lt) n l0 h0 k (by omega)
  rw [List.range_succ,List.foldl_append,List.foldl_cons,List.foldl_nil]
  generalize (List.range k).foldl (fun l k=>sink lt (k+1) l) l0=l at i1 i2
  refine ⟨?_,by rw [Wt,i2]⟩
  rw [← i1]
  have e:l=l.take (k+1)++l[k+1] :: l.drop (k+1+1):=by rw [← List.drop_eq_getElem_cons (by omega),List.take_append_drop]
  obtain ⟨S1,S2,q1,q2,-,-⟩:=Wz (lt:=lt) (S:=l.take (k+1)) (R:=l.drop (k+1+1)) (x:=l[k+1]) (d:=k+1) (by rw [List.length_take]; omega)
  rw [← e] at q2
  rw [q2]
  have e2:(l.map f).sum=((l.take (k+1)).map f).sum+(f l[k+1]+((l.drop (k+1+1)).map f).sum):=by
   conv=>lhs; rw [e]
   simp only [List.map_append,List.map_cons,List.sum_append,List.sum_cons]
  rw [e2,q1]
  simp only [List.map_append,List.map_cons,List.sum_append,List.sum_cons]
  omega
theorem order_sum {c:Int} {ws:List Int} (h:1≤ws.length) (f:Int→Int):((QJ c ws).map f).sum=((idxL ws.length).map f).sum:=by
 have hl:(idxL ws.length).length=ws.length:=by simp [idxL]
 have:=(fold_sum (f:=f) (lt:=ltI c ws (sumI ws)) ws.length (idxL ws.length) hl (ws.length - 1) (by omega)).1
 rw [QJ,XI]
 show (((List.range ((idxL ws.length).length - 1)).foldl _ (idxL ws.length)).map f).sum=_
 rw [hl]; exact this
theorem idx_map {f:Int→Int} {g:Int→Int}:∀ (ws:List Int) (n:Nat),(∀ i:Nat,n+i<n+ws.length→f ((n+i:Nat):Int)=g (ws.getD i 0))→(((List.range' n ws.length).map fun i:Nat=>(i:Int)).map f).sum=(ws.map g).sum
 | [],n,h=>by simp
 | w :: ws,n,h=>by
  have h0:=h 0 (by simp)
  have:=idx_map (f:=f) (g:=g) ws (n+1) (fun i hi=>by
   have:=h (i+1) (by simp only [List.length_cons]; omega)
   rw [show n+1+i=n+(i+1) by omega]; simpa using this)
  rw [List.length_cons,List.range'_succ]
  simp only [List.map_cons,List.sum_cons]
  rw [this]
  simp only [Nat.add_zero,List.getD_cons_zero] at h0
  rw [h0]
/-- What the parts are. -/
structure Parts (c:Int) (ws:List Int) (p:List Int):Prop where
 len:p.length=ws.length
 sum:p.sum=c
 low:∀ (i:Nat) (w x:Int),ws[i]?=some w→p[i]?=some x→x=Xp c (sumI ws) w ∨ (x=Xp c (sumI ws) w+1∧Int.tmod (c*w) (sumI ws) ≠ 0)
 same:∀ (k i:Nat) (w x y:Int),k<i→ws[k]?=some w→ws[i]?=some w→p[k]?=some x→p[i]?=some y→y≤x∧x≤y+1
theorem tmod_bd {c S w:Int} (hS:0<S) (hc:0≤c) (hw:0≤w):c*w=S*Xp c S w+Int.tmod (c*w) S∧0≤Int.tmod (c*w) S∧Int.tmod (c*w) S<S:=by
 have h0:0≤c*w:=Int.mul_nonneg hc hw
 have h1:=Int.mul_tdiv_add_tmod (c*w) S
 exact ⟨by rw [Xp]; exact h1.symm,Int.tmod_nonneg _ h0,Int.tmod_lt_of_pos _ hS⟩
theorem rem_sum {c S:Int} (hS:0<S) (hc:0≤c):∀ {l:List Int},(∀ w ∈ l,0≤w)→S*(l.map (Xp c S)).sum+(l.map fun w=>Int.tmod (c*w) S).sum=c*l.sum
 | [],_=>by simp
 | w :: l,h=>by
  obtain ⟨h1,-,-⟩:=tmod_bd hS hc (h w (by simp))
  have h3:=rem_sum hS hc (l:=l) (fun y hy=>h y (by simp [hy]))
  simp only [List.map_cons,List.sum_cons,Int.mul_add]
  omega
theorem Wy {f:Int→Int} {B:Int}:∀ {l:List Int},(∀ x ∈ l,f x≤B)→(l.map f).sum≤B*(l.length:Int)
 | [],_=>by simp
 | x :: l,h=>by
  have h1:=h x (by simp)
  have h2:=Wy (f:=f) (B:=B) (l:=l) fun y hy=>h y (by simp [hy])
  simp only [List.map_cons,List.sum_cons,List.length_cons,Int.natCast_add,Int.mul_add]; omega
theorem parts_of {c:Int} {ws:List Int} (h:SplitOk c ws):Parts c ws (Xc c ws):=by
 have hS:=h.pos
 have hb:=base_left h
 obtain ⟨ol,om,op⟩:=order_spec (c:=c) h.len1
 have hbl:(XV c ws).length=ws.length:=by simp [XV]
 generalize hL:Int.toNat (c - sumI (XV c ws))=L
 have hLn:L≤ws.length:=by omega
 have hZ:∀ e ∈ (QJ c ws).take L,0≤e∧e<((XV c ws).length:Int):=fun e he=>by
  rw [hbl]; exact (om e).1 (List.mem_of_mem_take he)
 have nd:(QJ c ws).Nodup:=op.imp fun hp=>fun e=>by subst e; exact prec_asymm hp hp
 have ndZ:((QJ c ws).take L).Nodup:=nd.sublist (List.take_sublist ..)
 have hs:Xc c ws=((QJ c ws).take L).foldl bump (XV c ws):=by rw [Xc,hL]
 have hg:∀ i w,ws[i]?=some w→(XV c ws).getD i 0=Xp c (sumI ws) w:=fun i w hw=>by simp [XV,List.getD,List.getElem?_map,hw]
 have kd:∀ {i:Nat} {w:Int},ws[i]?=some w→keyI c ws (sumI ws) i=Int.tmod (c*w) (sumI ws):=fun {i w} hw=>by simp [keyI,List.getD,hw]
 have val:∀ (i:Nat) (w x:Int),ws[i]?=some w→(Xc c ws)[i]?=some x→x=Xp c (sumI ws) w+if (i:Int) ∈ (QJ c ws).take L then 1 else 0:=fun i w x hw hx=>by
  have:(Xc c ws).getD i 0=x:=by simp [List.getD,hx]
  rw [← this,hs,bumps_get hZ ndZ,hg i w hw]
 have lS:(sumI ws)*(L:Int)=((QJ c ws).map (keyI c ws (sumI ws))).sum:=by
  rw [order_sum h.len1]
  have e1:((idxL ws.length).map (keyI c ws (sumI ws))).sum=(ws.map fun w=>Int.tmod (c*w) (sumI ws)).sum:=by
   have:=idx_map (f:=keyI c ws (sumI ws)) (g:=fun w=>Int.tmod (c*w) (sumI ws)) ws 0 (fun i hi=>by
    have hi:ws[i]?=some ws[i]:=List.getElem?_eq_getElem (by omega)
    rw [Nat.zero_add,kd hi]; simp [List.getD,hi])
   rw [← this,idxL,List.range_eq_range']
  have e2:=rem_sum hS h.c0 (l:=ws) (fun w hw=>(h.w w hw).1)
  rw [e1]
  have e3:(L:Int)=c - (XV c ws).sum:=by rw [← hL]; simp only [sumI] at *; omega
  rw [e3,Int.mul_sub]
  have e4:sumI ws*c=c*ws.sum:=by rw [Int.mul_comm]; rfl
  simp only [XV]
  omega
 have pos:∀ (i:Nat) (w:Int),ws[i]?=some w→(i:Int) ∈ (QJ c ws).take L→Int.tmod (c*w) (sumI ws) ≠ 0:=by
  intro i w hw hi h0
  rw [← kd hw] at h0
  obtain ⟨A,B,hAB⟩:=List.append_of_mem hi
  have ho:QJ c ws=A++(i:Int) :: (B++(QJ c ws).drop L):=by
   conv=>lhs; rw [← List.take_append_drop L (QJ c ws),hAB]
   simp
  have hAL:A.length+1≤L:=by
   have:(A++(i:Int) :: B).length≤L:=by rw [← hAB,List.length_take]; omega
   simp at this; omega
  rw [ho] at lS op
  have knn:∀ x ∈ QJ c ws,0≤keyI c ws (sumI ws) x∧keyI c ws (sumI ws) x≤sumI ws - 1:=fun x hx=>by
   have hx:=(om x).1 hx
   have hj:ws[Int.toNat x]?=some ws[Int.toNat x]:=List.getElem?_eq_getElem (by omega)
   have k1:=kd hj
   rw [show ((Int.toNat x:Nat):Int)=x by omega] at k1
   have:=tmod_bd hS h.c0 (h.w _ (List.mem_of_getElem? hj)).1
   rw [k1]; omega
  have s1:(A.map (keyI c ws (sumI ws))).sum≤(sumI ws - 1)*(A.length:Int):=Wy fun x hx=>(knn x (by rw [ho]; simp [hx])).2
  rw [List.pairwise_append,List.pairwise_cons] at op
  have s2:((B++(QJ c ws).drop L).map (keyI c ws (sumI ws))).sum≤0*((B++(QJ c ws).drop L).length:Int):=Wy fun x hx=>by
   have:=op.2.1.1 x hx
   rcases this with h1 | h1
   · omega
   · omega
  simp only [List.map_append,List.map_cons,List.sum_append,List.sum_cons] at lS s2
  have s3:(sumI ws - 1)*(A.length:Int)≤sumI ws*(A.length:Int):=Int.mul_le_mul_of_nonneg_right (by omega) (by omega)
  have s4:sumI ws*((A.length:Int)+1)≤sumI ws*(L:Int):=Int.mul_le_mul_of_nonneg_left (by omega) (by omega)
  rw [Int.mul_add] at s4
  omega
 refine ⟨splitI_len,?_,fun i w x hw hx=>?_,fun k i w x y hki hk hi hx hy=>?_⟩
 · rw [hs,bumps_sum hZ,List.length_take,ol]
   simp only [sumI] at *; omega
 · have v:=val i w x hw hx
   by_cases q:(i:Int) ∈ (QJ c ws).take L
   · rw [if_pos q] at v; exact .inr ⟨v,pos i w hw q⟩
   · rw [if_neg q] at v; exact .inl (by omega)
 · have v1:=val k w x hk hx
   have v2:=val i w y hi hy
   have imp:(i:Int) ∈ (QJ c ws).take L→(k:Int) ∈ (QJ c ws).take L:=fun q=>by
    apply Classical.byContradiction; intro nk
    have hk':=(om (k:Int)).2 ⟨by omega,by have:=(List.getElem?_eq_some_iff.1 hk).1; omega⟩
    rw [← List.take_append_drop L (QJ c ws)] at hk' op
    rw [List.pairwise_append] at op
    rcases List.mem_append.1 hk' with h1 | h1
    · exact nk h1
    · have:=op.2.2 _ q _ h1
      rcases this with h2 | h2
      · rw [kd hk,kd hi] at h2; omega
      · omega
   by_cases q:(i:Int) ∈ (QJ c ws).take L
   · rw [if_pos q] at v2; rw [if_pos (imp q)] at v1; omega
   · rw [if_neg q] at v2
     split at v1 <;> omega
theorem claimsK_zero {c:Int} {cl ws:List Int} (h:(Qj c cl ws).2.2=0):(0≤c∧c≤1000000000)∧QM ws=true∧(∀ x ∈ cl,0≤x∧x≤1000000000)∧cl.length≤10∧(Qj c cl ws).1=(payI c cl).1∧(Qj c cl ws).2.1=Xc (payI c cl).2 ws:=by
 simp only [Qj] at *
 split at h
 · cases h
 rename_i h1
 split at h
 · cases h
 rename_i hl
 split at h
 · cases h
 rename_i h2
 split at h
 · cases h
 rename_i h3
 refine ⟨Xw.1 (show Qw c=true by simpa using h1),by simpa using h3,fun x hx=>?_,by omega,?_⟩
 · have:(cl.any fun x=>!Qw x)=false:=by simpa using h2
   rw [List.any_eq_false] at this
   have:=this x hx
   exact Xw.1 (by simpa [Qw] using this)
 · rw [if_neg h1,if_neg hl,if_neg h2,if_neg h3]; exact ⟨rfl,rfl⟩
end Go.Proofs.Ytemklbioijmjiaa
namespace Go.Proofs.Ytemklbioijmjiaa
open Go Ax
open Go.Proofs
structure Stn where
 s:Stl
 stock:List Int
 weights:List Int
def cStn (s:Stn):List AV:=[.rsl (Qe s.s.stages) 0 s.s.stages.length,.rsl (rowI s.s.worth) 0 s.s.worth.length,.int .i64 s.s.price,.rsl (rowI s.stock) 0 s.stock.length,.rsl (rowI s.weights) 0 s.weights.length]
/-- How many of these stages draw. -/
def VC (s:Stl) (l:List Int):Nat:=(l.filter fun e=>decide ((s.stages.getD (Int.toNat e) ⟨0,0,[]⟩).kind=1)).length
theorem usedN_le {s:Stl} {l:List Int}:VC s l≤l.length:=List.length_filter_le _ _
theorem qx {s:Stl} {e:Int} {l:List Int}:VC s (e :: l)=(if (s.stages.getD (Int.toNat e) ⟨0,0,[]⟩).kind=1 then 1 else 0)+VC s l:=by
 unfold VC
 rw [List.filter_cons]
 split
 · rename_i h
   rw [if_pos (by simpa using h),List.length_cons]; omega
 · rename_i h
   rw [if_neg (by simpa using h)]; omega
theorem usedN_take {s:Stl} {l:List Int} {k:Nat} {e:Int} (h:l[k]?=some e):VC s (l.take (k+1))=VC s (l.take k)+(if (s.stages.getD (Int.toNat e) ⟨0,0,[]⟩).kind=1 then 1 else 0):=by
 rw [List.take_add_one,h]
 unfold VC
 rw [List.filter_append,List.length_append]
 congr 1
 have:=qx (s:=s) (e:=e) (l:=[])
 unfold VC at this
 simpa using this
theorem play_use {s:Stl} (hc:XS s=0) {plan:List Int} (hpl:QO s plan=true):∀ (n:Nat) (at_:Int) (v ds:List Int),0≤at_→at_<(s.stages.length:Int)→(s.stages.length:Int)≤at_+n→(YK s plan n at_ v ds).2.2=0 →
 ∃ r,(YK s plan n at_ v ds).1=v++r∧(∀ e ∈ r,0≤e∧e<(s.stages.length:Int))∧VC s r≤ds.length:=by
 obtain ⟨hm,es⟩:=Vr (Xs hc)
 have hform:=(QH hm.st).2.2.2.2
 rw [es] at hform
 intro n
 induction n with
 | zero=>intro at_ v ds h0 h1 h2; omega
 | succ n ih =>
  intro at_ v ds h0 h1 h2 h3
  have hi:s.stages[Int.toNat at_]?=some s.stages[Int.toNat at_]:=List.getElem?_eq_getElem (by omega)
  have hx:s.stages.getD (Int.toNat at_) ⟨0,0,[]⟩=s.stages[Int.toNat at_]:=by simp [List.getD,hi]
  have hto:=YA hi (hform _ (by omega))
  have hfo:=Yc hi (hform _ (by omega))
  obtain ⟨e,hpe,he0,he1⟩:=(WD hpl).2 _ _ hi
  have hpi:planI plan at_=e:=by simp [planI,List.getD,hpe]
  have hus:∀ r,VC s (at_ :: r)=(if (s.stages[Int.toNat at_]).kind=1 then 1 else 0)+VC s r:=fun r=>by rw [qx,hx]
  have hmm:∀ r:List Int,(∀ e ∈ r,0≤e∧e<(s.stages.length:Int))→∀ e ∈ at_ :: r,0≤e∧e<(s.stages.length:Int):=fun r hr e he=>by
   rcases List.mem_cons.1 he with rfl | he
   · exact ⟨h0,h1⟩
   · exact hr e he
  unfold YK at h3 ⊢
  rw [hx,hpi] at h3 ⊢
  generalize s.stages[Int.toNat at_]=x at hi hto hfo he1 h3 hus ⊢
  split at h3
  · rename_i h4
    rw [if_pos h4]
    refine ⟨[at_],rfl,hmm [] (by simp),?_⟩
    rw [hus,if_neg (by omega)]; simp [VC]
  · rename_i h4
    rw [if_neg h4]
    split at h3
    · rename_i h1'
      rw [if_pos h1']
      cases ds with
      | nil=>simp at h3
      | cons d ds =>
       simp only at h3 ⊢
       split at h3
       · rename_i hw
         rw [if_pos hw]
         have hwd:=Qz.1 hw
         have hmem:=Vy (ts:=x.turns) (d:=d) hwd.1 (by have:=hwd.2; rw [totI] at this; omega)
         have h5:=hto _ hmem
         obtain ⟨r,a,b,c⟩:=ih _ (v++[at_]) ds (by omega) (by omega) (by omega) h3
         refine ⟨at_ :: r,by rw [a]; simp,hmm r b,?_⟩
         rw [hus,if_pos h1',List.length_cons]; omega
       · simp at h3
    · rename_i h1'
      rw [if_neg h1']
      have hel:Int.toNat e<x.turns.length:=by
       rcases hfo with ⟨q,-⟩ | ⟨q0,-,q,-⟩
       · exact absurd q h4
       · rw [Xe,if_pos (by omega)] at he1; omega
      have hte:x.turns[Int.toNat e]?=some x.turns[Int.toNat e]:=List.getElem?_eq_getElem hel
      rw [show x.turns.getD (Int.toNat e) ⟨0,0⟩=x.turns[Int.toNat e] by simp [List.getD,hte]] at h3 ⊢
      have hmem:=List.mem_of_getElem? hte
      have h5:=hto _ hmem
      obtain ⟨r,a,b,c⟩:=ih _ (v++[at_]) ds (by omega) (by omega) (by omega) h3
      refine ⟨at_ :: r,by rw [a]; simp,hmm r b,?_⟩
      rw [hus,if_neg h1']; omega
theorem sum_bd1 {B:Int} (hB:0≤B):∀ {l:List Int},(∀ x ∈ l,0≤x∧x≤B)→0≤l.sum∧l.sum≤B*l.length
 | [],_=>by simp
 | a :: l,h=>by
  have h1:=h a (by simp)
  have h2:=sum_bd1 hB (l:=l) fun x hx=>h x (by simp [hx])
  simp only [List.sum_cons,List.length_cons,Int.natCast_add,Int.mul_add]
  have:B*((1:Nat):Int)=B:=by simp
  omega
theorem worth_bd {s:Stl} (h:XS s=0) {n:Int} (hn:n ∈ s.worth):0≤n∧n≤10000:=by
 obtain ⟨hm,es⟩:=Vr (Xs h)
 have:=(QH hm.st).2.2.1
 rw [es] at this; exact this n hn
theorem f34b:Try.f34.body=some (Qb Try.prog 34):=by kernel_rfl
theorem u34 {a c k:List AV} {r:AV} (h:Pure Try.prog 34 (a++c++k) r):Qi Try.prog (.clos 34 a k) c r:=Qk Try.func34 (by kernel_rfl) f34b h
def f34K0 (P:Program):List Item:=kAt 400 [.code (Qb P 34)] [.stop]
def f34S0 (l:(List Int)) (n:Int) (i:Nat):St:=⟨([.rsl (rowI l) 0 l.length,J,J,.int .i64 n,.int .i64 (i:Int)]++Js 13),[]⟩
def f34G0 (E:Env) (l:(List Int)) (n:Int) (i:Nat):Prop:=G Try.prog E (f34K0 Try.prog) (f34S0 l n i )
theorem p34_start_0 (l:(List Int)) {E:Env} {rv:AV} (hE:Qg Try.prog 34 rv E) (ho:AllP [])
 (hg:G Try.prog E (f34K0 Try.prog) ⟨([.rsl (rowI l) 0 l.length,J,J,.int .i64 0,.int .i64 0]++Js 13),[]⟩):G Try.prog E [.code (Qb Try.prog 34)] ⟨[.rsl (rowI l) 0 l.length]++unds (Try.f34.ntmps - 1),[]⟩ :=
 Qh (n:=400) (ds:=[]) (cs:=[]) (live:=[0,3,4]) (m:=0) (evs:=[.stop]) (obs:=_) hE.2.1 (hE.nogh _) Qv (by kernel_rfl) ho hg
theorem f34W (l:(List Int)) {E:Env} {rv:Int} (hE:Qg Try.prog 34 (.int .i64 rv) E)
 (h:f34G0 E l 0 0):G Try.prog E [.code (Qb Try.prog 34)] ⟨[.rsl (rowI l) 0 l.length]++unds (Try.f34.ntmps - 1),[]⟩:=by
 exact p34_start_0 l hE trivial h
theorem p34_0_0 (l:(List Int)) (n:Int) (i:Nat) (e:Int) {E:Env} {rv:AV} (hE:Qg Try.prog 34 rv E) (ho:AllP [(decide ((i:Int)<(l.length:Int)))=true,0≤(i:Int)∧(i:Int)<(l.length:Int),((rowI l).drop (0+(Int.toNat (i:Int))*1)).take 1=[.int .i64 e],InR .i64 (n+e),InR .i64 ((i:Int)+1)])
 (hg:G Try.prog E (f34K0 Try.prog) ⟨([.rsl (rowI l) 0 l.length,J,J,.int .i64 (n+e),.int .i64 ((i:Int)+1)]++Js 13),[]⟩):G Try.prog E (f34K0 Try.prog) (f34S0 l n i ) :=
 Qh (n:=400) (ds:=[]) (cs:=[]) (live:=[0,3,4]) (m:=0) (evs:=[.b true,.ld (.int .i64 e),.stop]) (obs:=_) hE.2.1 (hE.nogh _) Qv (by kernel_rfl) ho hg
theorem p34_0_1 (l:(List Int)) (n:Int) (i:Nat) {E:Env} {res:AV} (hE:Qg Try.prog 34 res E) (ho:AllP [(decide ((i:Int)<(l.length:Int)))=false])
 (hr:AvLe (.int .i64 n) res):G Try.prog E (f34K0 Try.prog) (f34S0 l n i ) :=
 Qa (n:=400) (evs:=[.b false]) (obs:=_) hE Try.func34 Qv (by kernel_rfl) ho hr
theorem f34W0 (l:(List Int)) (n:Int) (i:Nat) {E:Env} {rv:Int} (hE:Qg Try.prog 34 (.int .i64 rv) E)
 (h:(((i:Int)<(l.length:Int)→(∃ e:Int,l[i]?=some e∧((I6 (n+e))∧((I6 ((i:Int)+1))∧f34G0 E l (n+e) (i+1)))))∧(¬ ((i:Int)<(l.length:Int))→rv=n))):f34G0 E l n i:=by
 rcases bft (decide ((i:Int)<(l.length:Int))) with hc0 | hc0
 · have h:=h.1 (odt hc0)
   obtain ⟨e,h1,h⟩:=h
   obtain ⟨q4_1,h⟩:=h
   obtain ⟨q5_1,h⟩:=h
   exact p34_0_0 l n i e hE ⟨hc0,(Qq h1),(rp cI 1 0 1 h1),q4_1,q5_1,trivial⟩ h
 · have h:=h.2 (odf hc0)
   exact p34_0_1 l n i hE ⟨hc0,trivial⟩ (AvLe.of_eq (by rw [h]; try rfl))
theorem tsum_ok (l:List Int) (h:l.length≤1000∧∀ x ∈ l,0≤x∧x≤2000000000000):Pure Try.prog 34 [.rsl (rowI l) 0 l.length] (.int .i64 l.sum):=Qs Try.func34 f34b fun E hE=>by
 have bd:∀ k,0≤(l.take k).sum∧(l.take k).sum≤2000000000000000:=fun k=>by
  have h1:=sum_bd1 (B:=2000000000000) (by omega) (l:=l.take k) fun x hx=>h.2 x (List.mem_of_mem_take hx)
  have h2:(l.take k).length≤1000:=by rw [List.length_take]; omega
  omega
 have key:∀ (d i:Nat),i+d=l.length→f34G0 E l (l.take i).sum i:=by
  intro d
  induction d with
  | zero =>
   intro i hd
   have e:l.take i=l:=List.take_of_length_le (by omega)
   exact f34W0 l _ i (rv:=l.sum) hE ⟨fun h=>by omega,fun _=>by rw [e]⟩
  | succ d ih =>
   intro i hd
   have hg:l[i]?=some l[i]:=List.getElem?_eq_getElem (by omega)
   have e:(l.take (i+1)).sum=(l.take i).sum+l[i]:=by rw [List.take_add_one,hg,List.sum_append]; simp
   have b1:=bd (i+1)
   refine f34W0 l _ i (rv:=l.sum) hE ⟨fun _=>⟨_,hg,by omega,by omega,?_⟩,fun h=>by omega⟩
   rw [← e]
   exact ih (i+1) (by omega)
 exact f34W l (rv:=l.sum) hE (key l.length 0 (by omega))
theorem f8b:Try.f8.body=some (Qb Try.prog 8):=by kernel_rfl
def f8K0 (P:Program):List Item:=kAt 400 [.code (Qb P 8)] [.b false,.stop]
def f8S0 (s:Stn) (plan:(List Int)) (draws:(List Int)) (i:Nat):St:=⟨([J,.rsl (rowI plan) 0 plan.length,.rsl (rowI draws) 0 draws.length,.ptr 0 0 0,J,J,J,.int .i64 (i:Int)]++Js 247),[⟨true,0,1,true,[.rsl (Qe s.s.stages) 0 s.s.stages.length,.rsl (rowI s.s.worth) 0 s.s.worth.length,.int .i64 s.s.price,.rsl (rowI s.stock) 0 s.stock.length,.rsl (rowI s.weights) 0 s.weights.length],false⟩]⟩
def f8G0 (E:Env) (s:Stn) (plan:(List Int)) (draws:(List Int)) (i:Nat):Prop:=G Try.prog E (f8K0 Try.prog) (f8S0 s plan draws i )
def f8K1 (P:Program):List Item:=kAt 400 [.code (Qb P 8)] [.b false,.b false,.b false,.stop]
def f8S1 (s:Stn) (plan:(List Int)) (draws:(List Int)) (v2:List Int) (worth:Int) (left:(List Int)) (i:Nat) (g2:Nat):St:=⟨([J,.rsl (rowI plan) 0 plan.length,J,.ptr 0 0 0,J,J,J,J,.int .i64 (iMin ((QD s.s s.stock).1) 30),J,.sl 2 g2 0 v2.length 1,.int .i64 worth,.rsl (rowI left) 0 left.length,.int .i64 (i:Int)]++Js 241),[⟨true,0,1,true,[.rsl (Qe s.s.stages) 0 s.s.stages.length,.rsl (rowI s.s.worth) 0 s.s.worth.length,.int .i64 s.s.price,.rsl (rowI s.stock) 0 s.stock.length,.rsl (rowI s.weights) 0 s.weights.length],false⟩,⟨false,2,1,true,[],false⟩,⟨true,g2,1,true,(rowI v2),true⟩,⟨false,2,1,true,[],false⟩]⟩
def f8G1 (E:Env) (s:Stn) (plan:(List Int)) (draws:(List Int)) (v2:List Int) (worth:Int) (left:(List Int)) (i:Nat):Prop:=∀ g2:Nat,G Try.prog E (f8K1 Try.prog) (f8S1 s plan draws v2 worth left i g2)
def f8K2 (P:Program):List Item:=kAt 400 [.code (Qb P 8)] [.b false,.b false,.b false,.b true,.b false,.stop]
def f8S2 (s:Stn) (plan:(List Int)) (draws:(List Int)) (v2:List Int) (used:Nat) (k:Nat) (worth:Int) (left:(List Int)) (i:Nat) (stages:(List Int)) (prize:Int) (g2:Nat):St:=⟨([J,.rsl (rowI plan) 0 plan.length,J,.ptr 0 0 0,J,J,J,J,.int .i64 (iMin ((QD s.s s.stock).1) 30),J,.sl 2 g2 0 v2.length 1,.int .i64 worth,.rsl (rowI left) 0 left.length,.int .i64 (i:Int),.rsl (rowI stages) 0 stages.length,.int .i64 prize,J,.int .i64 (used:Int),.int .i64 (k:Int)]++Js 236),[⟨true,0,1,true,[.rsl (Qe s.s.stages) 0 s.s.stages.length,.rsl (rowI s.s.worth) 0 s.s.worth.length,.int .i64 s.s.price,.rsl (rowI s.stock) 0 s.stock.length,.rsl (rowI s.weights) 0 s.weights.length],false⟩,⟨false,2,1,true,[],false⟩,⟨true,g2,1,true,(rowI v2),true⟩,⟨false,2,1,true,[],false⟩,⟨false,2,1,true,[],false⟩]⟩
def f8G2 (E:Env) (s:Stn) (plan:(List Int)) (draws:(List Int)) (v2:List Int) (used:Nat) (k:Nat) (worth:Int) (left:(List Int)) (i:Nat) (stages:(List Int)) (prize:Int):Prop:=∀ g2:Nat,G Try.prog E (f8K2 Try.prog) (f8S2 s plan draws v2 used k worth left i stages prize g2)
def f8K3 (P:Program):List Item:=kAt 400 [.code (Qb P 8)] [.b false,.b false,.b false,.b true,.b true,.stop]
def f8S3 (s:Stn) (plan:(List Int)) (draws:(List Int)) (v2:List Int) (plays:Int) (i:Nat) (worth:Int) (g2:Nat):St:=⟨([J,J,J,.ptr 0 0 0,J,J,J,J,.int .i64 plays,J,.sl 2 g2 0 v2.length 1,.int .i64 worth]++jj 7 ([.int .i64 (i:Int)]++Js 235)),[⟨true,0,1,true,[.rsl (Qe s.s.stages) 0 s.s.stages.length,.rsl (rowI s.s.worth) 0 s.s.worth.length,.int .i64 s.s.price,.rsl (rowI s.stock) 0 s.stock.length,.rsl (rowI s.weights) 0 s.weights.length],false⟩,⟨false,2,1,true,[],false⟩,⟨true,g2,1,true,(rowI v2),true⟩,⟨false,2,1,true,[],false⟩]⟩
def f8G3 (E:Env) (s:Stn) (plan:(List Int)) (draws:(List Int)) (v2:List Int) (plays:Int) (i:Nat) (worth:Int):Prop:=∀ g2:Nat,G Try.prog E (f8K3 Try.prog) (f8S3 s plan draws v2 plays i worth g2)
theorem p8_start_0 (s:Stn) (plan:(List Int)) (draws:(List Int)) {E:Env} {res:AV} (hE:Qg Try.prog 8 res E) (ho:AllP [(decide ((s.s.stages.length:Int) > 80))=true,true=true,true=true,true=true,true=true,true=true,Qi Try.prog (.clos 13 [] []) [] (.bool true)])
 (hr:AvLe (.bool true) res):G Try.prog E [.code (Qb Try.prog 8)] ⟨[.agg [.rsl (Qe s.s.stages) 0 s.s.stages.length,.rsl (rowI s.s.worth) 0 s.s.worth.length,.int .i64 s.s.price,.rsl (rowI s.stock) 0 s.stock.length,.rsl (rowI s.weights) 0 s.weights.length],.rsl (rowI plan) 0 plan.length,.rsl (rowI draws) 0 draws.length]++unds (Try.f8.ntmps - 3),[]⟩ :=
 Qa (n:=400) (evs:=[.b true,.b true,.b true,.b true,.b true,.b true,.v (.bool true)]) (obs:=_) hE Try.func8 Qv (by kernel_rfl) ho hr
theorem p8_start_1 (s:Stn) (plan:(List Int)) (draws:(List Int)) {E:Env} {res:AV} (hE:Qg Try.prog 8 res E) (ho:AllP [(decide ((s.s.stages.length:Int) > 80))=false,(decide ((s.s.worth.length:Int) > 12))=true,true=true,true=true,true=true,true=true,Qi Try.prog (.clos 13 [] []) [] (.bool true)])
 (hr:AvLe (.bool true) res):G Try.prog E [.code (Qb Try.prog 8)] ⟨[.agg [.rsl (Qe s.s.stages) 0 s.s.stages.length,.rsl (rowI s.s.worth) 0 s.s.worth.length,.int .i64 s.s.price,.rsl (rowI s.stock) 0 s.stock.length,.rsl (rowI s.weights) 0 s.weights.length],.rsl (rowI plan) 0 plan.length,.rsl (rowI draws) 0 draws.length]++unds (Try.f8.ntmps - 3),[]⟩ :=
 Qa (n:=400) (evs:=[.b false,.b true,.b true,.b true,.b true,.b true,.v (.bool true)]) (obs:=_) hE Try.func8 Qv (by kernel_rfl) ho hr
theorem p8_start_2 (s:Stn) (plan:(List Int)) (draws:(List Int)) {E:Env} {res:AV} (hE:Qg Try.prog 8 res E) (ho:AllP [(decide ((s.s.stages.length:Int) > 80))=false,(decide ((s.s.worth.length:Int) > 12))=false,(decide ((s.stock.length:Int) > 12))=true,true=true,true=true,true=true,Qi Try.prog (.clos 13 [] []) [] (.bool true)])
 (hr:AvLe (.bool true) res):G Try.prog E [.code (Qb Try.prog 8)] ⟨[.agg [.rsl (Qe s.s.stages) 0 s.s.stages.length,.rsl (rowI s.s.worth) 0 s.s.worth.length,.int .i64 s.s.price,.rsl (rowI s.stock) 0 s.stock.length,.rsl (rowI s.weights) 0 s.weights.length],.rsl (rowI plan) 0 plan.length,.rsl (rowI draws) 0 draws.length]++unds (Try.f8.ntmps - 3),[]⟩ :=
 Qa (n:=400) (evs:=[.b false,.b false,.b true,.b true,.b true,.b true,.v (.bool true)]) (obs:=_) hE Try.func8 Qv (by kernel_rfl) ho hr
theorem p8_start_3 (s:Stn) (plan:(List Int)) (draws:(List Int)) {E:Env} {res:AV} (hE:Qg Try.prog 8 res E) (ho:AllP [(decide ((s.s.stages.length:Int) > 80))=false,(decide ((s.s.worth.length:Int) > 12))=false,(decide ((s.stock.length:Int) > 12))=false,(decide ((s.weights.length:Int) > 12))=true,true=true,true=true,Qi Try.prog (.clos 13 [] []) [] (.bool true)])
 (hr:AvLe (.bool true) res):G Try.prog E [.code (Qb Try.prog 8)] ⟨[.agg [.rsl (Qe s.s.stages) 0 s.s.stages.length,.rsl (rowI s.s.worth) 0 s.s.worth.length,.int .i64 s.s.price,.rsl (rowI s.stock) 0 s.stock.length,.rsl (rowI s.weights) 0 s.weights.length],.rsl (rowI plan) 0 plan.length,.rsl (rowI draws) 0 draws.length]++unds (Try.f8.ntmps - 3),[]⟩ :=
 Qa (n:=400) (evs:=[.b false,.b false,.b false,.b true,.b true,.b true,.v (.bool true)]) (obs:=_) hE Try.func8 Qv (by kernel_rfl) ho hr
theorem p8_start_4 (s:Stn) (plan:(List Int)) (draws:(List Int)) {E:Env} {res:AV} (hE:Qg Try.prog 8 res E) (ho:AllP [(decide ((s.s.stages.length:Int) > 80))=false,(decide ((s.s.worth.length:Int) > 12))=false,(decide ((s.stock.length:Int) > 12))=false,(decide ((s.weights.length:Int) > 12))=false,(decide ((draws.length:Int) > 200))=true,true=true,Qi Try.prog (.clos 13 [] []) [] (.bool true)])
 (hr:AvLe (.bool true) res):G Try.prog E [.code (Qb Try.prog 8)] ⟨[.agg [.rsl (Qe s.s.stages) 0 s.s.stages.length,.rsl (rowI s.s.worth) 0 s.s.worth.length,.int .i64 s.s.price,.rsl (rowI s.stock) 0 s.stock.length,.rsl (rowI s.weights) 0 s.weights.length],.rsl (rowI plan) 0 plan.length,.rsl (rowI draws) 0 draws.length]++unds (Try.f8.ntmps - 3),[]⟩ :=
 Qa (n:=400) (evs:=[.b false,.b false,.b false,.b false,.b true,.b true,.v (.bool true)]) (obs:=_) hE Try.func8 Qv (by kernel_rfl) ho hr
theorem p8_start_5 (s:Stn) (plan:(List Int)) (draws:(List Int)) {E:Env} {res:AV} (hE:Qg Try.prog 8 res E) (ho:AllP [(decide ((s.s.stages.length:Int) > 80))=false,(decide ((s.s.worth.length:Int) > 12))=false,(decide ((s.stock.length:Int) > 12))=false,(decide ((s.weights.length:Int) > 12))=false,(decide ((draws.length:Int) > 200))=false,(decide ((plan.length:Int) > 80))=true,Qi Try.prog (.clos 13 [] []) [] (.bool true)])
 (hr:AvLe (.bool true) res):G Try.prog E [.code (Qb Try.prog 8)] ⟨[.agg [.rsl (Qe s.s.stages) 0 s.s.stages.length,.rsl (rowI s.s.worth) 0 s.s.worth.length,.int .i64 s.s.price,.rsl (rowI s.stock) 0 s.stock.length,.rsl (rowI s.weights) 0 s.weights.length],.rsl (rowI plan) 0 plan.length,.rsl (rowI draws) 0 draws.length]++unds (Try.f8.ntmps - 3),[]⟩ :=
 Qa (n:=400) (evs:=[.b false,.b false,.b false,.b false,.b false,.b true,.v (.bool true)]) (obs:=_) hE Try.func8 Qv (by kernel_rfl) ho hr
theorem p8_start_6 (s:Stn) (plan:(List Int)) (draws:(List Int)) {E:Env} {rv:AV} (hE:Qg Try.prog 8 rv E) (ho:AllP [(decide ((s.s.stages.length:Int) > 80))=false,(decide ((s.s.worth.length:Int) > 12))=false,(decide ((s.stock.length:Int) > 12))=false,(decide ((s.weights.length:Int) > 12))=false,(decide ((draws.length:Int) > 200))=false,(decide ((plan.length:Int) > 80))=false])
 (hg:G Try.prog E (f8K0 Try.prog) ⟨([J,.rsl (rowI plan) 0 plan.length,.rsl (rowI draws) 0 draws.length,.ptr 0 0 0,J,J,J,.int .i64 0]++Js 247),[⟨true,0,1,true,[.rsl (Qe s.s.stages) 0 s.s.stages.length,.rsl (rowI s.s.worth) 0 s.s.worth.length,.int .i64 s.s.price,.rsl (rowI s.stock) 0 s.stock.length,.rsl (rowI s.weights) 0 s.weights.length],false⟩]⟩):G Try.prog E [.code (Qb Try.prog 8)] ⟨[.agg [.rsl (Qe s.s.stages) 0 s.s.stages.length,.rsl (rowI s.s.worth) 0 s.s.worth.length,.int .i64 s.s.price,.rsl (rowI s.stock) 0 s.stock.length,.rsl (rowI s.weights) 0 s.weights.length],.rsl (rowI plan) 0 plan.length,.rsl (rowI draws) 0 draws.length]++unds (Try.f8.ntmps - 3),[]⟩ :=
 Qh (n:=400) (ds:=[]) (cs:=[]) (live:=[1,2,3,7]) (m:=1) (evs:=[.b false,.b false,.b false,.b false,.b false,.b false,.stop]) (obs:=_) hE.2.1 (hE.nogh _) Qv (by kernel_rfl) ho hg
theorem f8W (s:Stn) (plan:(List Int)) (draws:(List Int)) {E:Env} {rv:Bool} (hE:Qg Try.prog 8 (.bool rv) E)
 (h:(((s.s.stages.length:Int) > 80→rv=true)∧(¬ ((s.s.stages.length:Int) > 80)→(((s.s.worth.length:Int) > 12→rv=true)∧(¬ ((s.s.worth.length:Int) > 12)→(((s.stock.length:Int) > 12→rv=true)∧(¬ ((s.stock.length:Int) > 12)→(((s.weights.length:Int) > 12→rv=true)∧(¬ ((s.weights.length:Int) > 12)→(((draws.length:Int) > 200→rv=true)∧(¬ ((draws.length:Int) > 200)→(((plan.length:Int) > 80→rv=true)∧(¬ ((plan.length:Int) > 80)→f8G0 E s plan draws 0))))))))))))):G Try.prog E [.code (Qb Try.prog 8)] ⟨[.agg [.rsl (Qe s.s.stages) 0 s.s.stages.length,.rsl (rowI s.s.worth) 0 s.s.worth.length,.int .i64 s.s.price,.rsl (rowI s.stock) 0 s.stock.length,.rsl (rowI s.weights) 0 s.weights.length],.rsl (rowI plan) 0 plan.length,.rsl (rowI draws) 0 draws.length]++unds (Try.f8.ntmps - 3),[]⟩:=by
 rcases bft (decide ((s.s.stages.length:Int) > 80)) with hc0 | hc0
 · have h:=h.1 (odt hc0)
   exact p8_start_0 s plan draws hE ⟨hc0,rfl,rfl,rfl,rfl,rfl,(u13 (Yq )),trivial⟩ (AvLe.of_eq (by rw [h]; try rfl))
 · have h:=h.2 (odf hc0)
   rcases bft (decide ((s.s.worth.length:Int) > 12)) with hc1 | hc1
   · have h:=h.1 (odt hc1)
     exact p8_start_1 s plan draws hE ⟨hc0,hc1,rfl,rfl,rfl,rfl,(u13 (Yq )),trivial⟩ (AvLe.of_eq (by rw [h]; try rfl))
   · have h:=h.2 (odf hc1)
     rcases bft (decide ((s.stock.length:Int) > 12)) with hc2 | hc2
     · have h:=h.1 (odt hc2)
       exact p8_start_2 s plan draws hE ⟨hc0,hc1,hc2,rfl,rfl,rfl,(u13 (Yq )),trivial⟩ (AvLe.of_eq (by rw [h]; try rfl))
     · have h:=h.2 (odf hc2)
       rcases bft (decide ((s.weights.length:Int) > 12)) with hc3 | hc3
       · have h:=h.1 (odt hc3)
         exact p8_start_3 s plan draws hE ⟨hc0,hc1,hc2,hc3,rfl,rfl,(u13 (Yq )),trivial⟩ (AvLe.of_eq (by rw [h]; try rfl))
       · have h:=h.2 (odf hc3)
         rcases bft (decide ((draws.length:Int) > 200)) with hc4 | hc4
         · have h:=h.1 (odt hc4)
           exact p8_start_4 s plan draws hE ⟨hc0,hc1,hc2,hc3,hc4,rfl,(u13 (Yq )),trivial⟩ (AvLe.of_eq (by rw [h]; try rfl))
         · have h:=h.2 (odf hc4)
           rcases bft (decide ((plan.length:Int) > 80)) with hc5 | hc5
           · have h:=h.1 (odt hc5)
             exact p8_start_5 s plan draws hE ⟨hc0,hc1,hc2,hc3,hc4,hc5,(u13 (Yq )),trivial⟩ (AvLe.of_eq (by rw [h]; try rfl))
           · have h:=h.2 (odf hc5)
             exact p8_start_6 s plan draws hE ⟨hc0,hc1,hc2,hc3,hc4,hc5,trivial⟩ h
theorem p8_0_0 (s:Stn) (plan:(List Int)) (draws:(List Int)) (i:Nat) (se:Stg) {E:Env} {res:AV} (hE:Qg Try.prog 8 res E) (ho:AllP [(decide ((i:Int)<(s.s.stages.length:Int)))=true,0≤(i:Int)∧(i:Int)<(s.s.stages.length:Int),((Qe s.s.stages).drop ((0+(Int.toNat (i:Int))*3)+2)).take 1=[.rsl (Qn se.turns) 0 se.turns.length],(decide ((se.turns.length:Int) > 12))=true,Qi Try.prog (.clos 13 [] []) [] (.bool true)])
 (hr:AvLe (.bool true) res):G Try.prog E (f8K0 Try.prog) (f8S0 s plan draws i ) :=
 Qa (n:=400) (evs:=[.b true,.auto,.ld (.rsl (Qn se.turns) 0 se.turns.length),.b true,.v (.bool true)]) (obs:=_) hE Try.func8 Qv (by kernel_rfl) ho hr
theorem p8_0_1 (s:Stn) (plan:(List Int)) (draws:(List Int)) (i:Nat) (se:Stg) {E:Env} {rv:AV} (hE:Qg Try.prog 8 rv E) (ho:AllP [(decide ((i:Int)<(s.s.stages.length:Int)))=true,0≤(i:Int)∧(i:Int)<(s.s.stages.length:Int),((Qe s.s.stages).drop ((0+(Int.toNat (i:Int))*3)+2)).take 1=[.rsl (Qn se.turns) 0 se.turns.length],(decide ((se.turns.length:Int) > 12))=false,InR .i64 ((i:Int)+1)])
 (hg:G Try.prog E (f8K0 Try.prog) ⟨([J,.rsl (rowI plan) 0 plan.length,.rsl (rowI draws) 0 draws.length,.ptr 0 0 0,J,J,J,.int .i64 ((i:Int)+1)]++Js 247),[⟨true,0,1,true,[.rsl (Qe s.s.stages) 0 s.s.stages.length,.rsl (rowI s.s.worth) 0 s.s.worth.length,.int .i64 s.s.price,.rsl (rowI s.stock) 0 s.stock.length,.rsl (rowI s.weights) 0 s.weights.length],false⟩]⟩):G Try.prog E (f8K0 Try.prog) (f8S0 s plan draws i ) :=
 Qh (n:=400) (ds:=[]) (cs:=[]) (live:=[1,2,3,7]) (m:=1) (evs:=[.b true,.auto,.ld (.rsl (Qn se.turns) 0 se.turns.length),.b false,.stop]) (obs:=_) hE.2.1 (hE.nogh _) Qv (by kernel_rfl) ho hg
theorem p8_0_2 (s:Stn) (plan:(List Int)) (draws:(List Int)) (i:Nat) {E:Env} {res:AV} (hE:Qg Try.prog 8 res E) (ho:AllP [(decide ((i:Int)<(s.s.stages.length:Int)))=false,1=1,0=0,0=0,(0+s.stock.length)≤2147483648,((rowI s.stock).drop 0).take (s.stock.length*1)=(rowI s.stock),(rowI s.stock).length=(s.stock.length*1),noRefs (rowI s.stock)=true,Qi Try.prog (.clos 32 [] []) [.agg [.rsl (Qe s.s.stages) 0 s.s.stages.length,.rsl (rowI s.s.worth) 0 s.s.worth.length,.int .i64 s.s.price],.rsl (rowI s.stock) 0 (0+s.stock.length)] (.tup [.int .i64 ((QD s.s s.stock).1),.int .i64 ((QD s.s s.stock).2)]),((QD s.s s.stock).2 != 0)=true,Qi Try.prog (.clos 13 [] []) [] (.bool true)])
 (hr:AvLe (.bool true) res):G Try.prog E (f8K0 Try.prog) (f8S0 s plan draws i ) :=
 Qa (n:=400) (evs:=[.b false,.fz,.cs (rowI s.stock),.v (.tup [.int .i64 ((QD s.s s.stock).1),.int .i64 ((QD s.s s.stock).2)]),.b true,.v (.bool true)]) (obs:=_) hE Try.func8 Qv (by kernel_rfl) ho hr
theorem p8_0_3 (s:Stn) (plan:(List Int)) (draws:(List Int)) (i:Nat) {E:Env} {rv:AV} (hE:Qg Try.prog 8 rv E) (ho:AllP [(decide ((i:Int)<(s.s.stages.length:Int)))=false,1=1,0=0,0=0,(0+s.stock.length)≤2147483648,((rowI s.stock).drop 0).take (s.stock.length*1)=(rowI s.stock),(rowI s.stock).length=(s.stock.length*1),noRefs (rowI s.stock)=true,Qi Try.prog (.clos 32 [] []) [.agg [.rsl (Qe s.s.stages) 0 s.s.stages.length,.rsl (rowI s.s.worth) 0 s.s.worth.length,.int .i64 s.s.price],.rsl (rowI s.stock) 0 (0+s.stock.length)] (.tup [.int .i64 ((QD s.s s.stock).1),.int .i64 ((QD s.s s.stock).2)]),((QD s.s s.stock).2 != 0)=false,0≤(s.stock.length:Int)∧(s.stock.length:Int)≤(s.stock.length:Int)∧(s.stock.length:Int)≤2147483648,1=1,0=0,0=0,(0+draws.length)≤2147483648,((rowI draws).drop 0).take (draws.length*1)=(rowI draws),(rowI draws).length=(draws.length*1),noRefs (rowI draws)=true])
 (hg:G Try.prog E (f8K1 Try.prog) ⟨([J,.rsl (rowI plan) 0 plan.length,J,.ptr 0 0 0,J,J,J,J,.int .i64 (iMin ((QD s.s s.stock).1) 30),J,.sl 2 0 0 (Int.toNat (s.stock.length:Int)) 1,.int .i64 0,.rsl (rowI draws) 0 (0+draws.length),.int .i64 0]++Js 241),[⟨true,0,1,true,[.rsl (Qe s.s.stages) 0 s.s.stages.length,.rsl (rowI s.s.worth) 0 s.s.worth.length,.int .i64 s.s.price,.rsl (rowI s.stock) 0 s.stock.length,.rsl (rowI s.weights) 0 s.weights.length],false⟩,⟨false,2,1,true,[],false⟩,⟨true,0,1,true,((List.replicate (Int.toNat (s.stock.length:Int)) ([.int .i64 0]:List AV)).flatten),true⟩,⟨false,2,1,true,[],false⟩]⟩):G Try.prog E (f8K0 Try.prog) (f8S0 s plan draws i ) :=
 Qh (n:=400) (ds:=[]) (cs:=[]) (live:=[1,3,8,10,11,12,13]) (m:=4) (evs:=[.b false,.fz,.cs (rowI s.stock),.v (.tup [.int .i64 ((QD s.s s.stock).1),.int .i64 ((QD s.s s.stock).2)]),.b false,.fz,.cs (rowI draws),.stop]) (obs:=_) hE.2.1 (hE.nogh _) Qv (by kernel_rfl) ho hg
theorem f8W0 (s:Stn) (plan:(List Int)) (draws:(List Int)) (i:Nat) {E:Env} {rv:Bool} (hE:Qg Try.prog 8 (.bool rv) E)
 (h:(((i:Int)<(s.s.stages.length:Int)→(∃ se:Stg,s.s.stages[i]?=some se∧(((se.turns.length:Int) > 12→rv=true)∧(¬ ((se.turns.length:Int) > 12)→((I6 ((i:Int)+1))∧f8G0 E s plan draws (i+1))))))∧(¬ ((i:Int)<(s.s.stages.length:Int))→((0+s.stock.length)≤2147483648∧(((s.s.stages.length≤9223372036854775807∧s.s.worth.length≤9223372036854775807)∧s.stock.length≤9223372036854775807)∧((¬ ((QD s.s s.stock).2=0)→rv=true)∧((QD s.s s.stock).2=0→(s.stock.length≤2147483648∧((0+draws.length)≤2147483648∧f8G1 E s plan draws (List.replicate s.stock.length (0:Int)) 0 draws 0))))))))):f8G0 E s plan draws i:=by
 rcases bft (decide ((i:Int)<(s.s.stages.length:Int))) with hc0 | hc0
 · have h:=h.1 (odt hc0)
   obtain ⟨se,h1,h⟩:=h
   rcases bft (decide ((se.turns.length:Int) > 12)) with hc1 | hc1
   · have h:=h.1 (odt hc1)
     exact p8_0_0 s plan draws i se hE ⟨hc0,(Qq h1),(rp cStg 3 2 1 h1),hc1,(u13 (Yq )),trivial⟩ (AvLe.of_eq (by rw [h]; try rfl))
   · have h:=h.2 (odf hc1)
     obtain ⟨q5_2,h⟩:=h
     exact p8_0_1 s plan draws i se hE ⟨hc0,(Qq h1),(rp cStg 3 2 1 h1),hc1,q5_2,trivial⟩ h
 · have h:=h.2 (odf hc0)
   obtain ⟨h1,h⟩:=h
   obtain ⟨h2,h⟩:=h
   rcases bft ((QD s.s s.stock).2 != 0) with hc1 | hc1
   · have h:=h.1 (bneT hc1)
     exact p8_0_2 s plan draws i hE ⟨hc0,rfl,rfl,rfl,h1,(by exact Yp cI (fun _=>rfl) s.stock),(by exact QW cI (fun _=>rfl) s.stock),(by exact Ys cI (fun _=>rfl) s.stock),(by rw [(show AV.rsl (rowI s.stock) 0 (0+s.stock.length)=AV.rsl (rowI s.stock) 0 s.stock.length from by rw [show (0+s.stock.length)=s.stock.length from by simp])]; exact (u32 (lasts_ok s.s s.stock h2))),hc1,(u13 (Yq )),trivial⟩ (AvLe.of_eq (by rw [h]; try rfl))
   · have h:=h.2 (bneF hc1)
     obtain ⟨h3,h⟩:=h
     obtain ⟨h4,h⟩:=h
     refine p8_0_3 s plan draws i hE ⟨hc0,rfl,rfl,rfl,h1,(by exact Yp cI (fun _=>rfl) s.stock),(by exact QW cI (fun _=>rfl) s.stock),(by exact Ys cI (fun _=>rfl) s.stock),(by rw [(show AV.rsl (rowI s.stock) 0 (0+s.stock.length)=AV.rsl (rowI s.stock) 0 s.stock.length from by rw [show (0+s.stock.length)=s.stock.length from by simp])]; exact (u32 (lasts_ok s.s s.stock h2))),hc1,⟨by omega,by omega,by have:=h3; omega⟩,rfl,rfl,rfl,h4,(by exact Yp cI (fun _=>rfl) draws),(by exact QW cI (fun _=>rfl) draws),(by exact Ys cI (fun _=>rfl) draws),trivial⟩ ?_
     refine YV (t:=12) (v':=.rsl (rowI draws) 0 draws.length) rfl rfl rfl (AvLe.of_eq (by rw [show (0+draws.length)=draws.length from by simp])) ?_
     simp only [List.set_cons_succ,List.set_cons_zero]
     have h:=(h 0)
     simp only [f8G1,f8S1,List.length_set,List.length_replicate] at h
     rw [(show (List.replicate (Int.toNat (s.stock.length:Int)) ([.int .i64 0]:List AV)).flatten=rowI (List.replicate s.stock.length (0:Int)) from Vf cI _ _)]
     exact h
theorem p8_1_0 (s:Stn) (plan:(List Int)) (draws:(List Int)) (v2:List Int) (worth:Int) (left:(List Int)) (i:Nat) (g2:Nat) {E:Env} {rv:AV} (hE:Qg Try.prog 8 rv E) (ho:AllP [(decide ((i:Int)<(iMin ((QD s.s s.stock).1) 30)))=true,1=1,0=0,0=0,(0+plan.length)≤2147483648,((rowI plan).drop 0).take (plan.length*1)=(rowI plan),(rowI plan).length=(plan.length*1),noRefs (rowI plan)=true,Qi Try.prog (.clos 22 [] []) [.agg [.rsl (Qe s.s.stages) 0 s.s.stages.length,.rsl (rowI s.s.worth) 0 s.s.worth.length,.int .i64 s.s.price],.rsl (rowI plan) 0 (0+plan.length),.rsl (rowI left) 0 left.length] (.tup [.rsl (rowI ((QY s.s plan left).1)) 0 (((QY s.s plan left).1).length),.int .i64 ((QY s.s plan left).2.1),.int .i64 ((QY s.s plan left).2.2)]),((QY s.s plan left).2.2 != 0)=true])
 (hg:G Try.prog E (f8K3 Try.prog) ⟨([J,J,J,.ptr 0 0 0,J,J,J,J,.int .i64 (i:Int),J,.sl 2 g2 0 v2.length 1,.int .i64 worth]++jj 7 ([.int .i64 0]++Js 235)),[⟨true,0,1,true,[.rsl (Qe s.s.stages) 0 s.s.stages.length,.rsl (rowI s.s.worth) 0 s.s.worth.length,.int .i64 s.s.price,.rsl (rowI s.stock) 0 s.stock.length,.rsl (rowI s.weights) 0 s.weights.length],false⟩,⟨false,2,1,true,[],false⟩,⟨true,g2,1,true,(rowI v2),true⟩,⟨false,2,1,true,[],false⟩]⟩):G Try.prog E (f8K1 Try.prog) (f8S1 s plan draws v2 worth left i g2) :=
 Qh (n:=400) (ds:=[]) (cs:=[]) (live:=[3,8,10,11,19]) (m:=4) (evs:=[.b true,.fz,.cs (rowI plan),.v (.tup [.rsl (rowI ((QY s.s plan left).1)) 0 (((QY s.s plan left).1).length),.int .i64 ((QY s.s plan left).2.1),.int .i64 ((QY s.s plan left).2.2)]),.b true,.stop]) (obs:=_) hE.2.1 (hE.nogh _) Qv (by kernel_rfl) ho hg
theorem p8_1_1 (s:Stn) (plan:(List Int)) (draws:(List Int)) (v2:List Int) (worth:Int) (left:(List Int)) (i:Nat) (g2:Nat) {E:Env} {rv:AV} (hE:Qg Try.prog 8 rv E) (ho:AllP [(decide ((i:Int)<(iMin ((QD s.s s.stock).1) 30)))=true,1=1,0=0,0=0,(0+plan.length)≤2147483648,((rowI plan).drop 0).take (plan.length*1)=(rowI plan),(rowI plan).length=(plan.length*1),noRefs (rowI plan)=true,Qi Try.prog (.clos 22 [] []) [.agg [.rsl (Qe s.s.stages) 0 s.s.stages.length,.rsl (rowI s.s.worth) 0 s.s.worth.length,.int .i64 s.s.price],.rsl (rowI plan) 0 (0+plan.length),.rsl (rowI left) 0 left.length] (.tup [.rsl (rowI ((QY s.s plan left).1)) 0 (((QY s.s plan left).1).length),.int .i64 ((QY s.s plan left).2.1),.int .i64 ((QY s.s plan left).2.2)]),((QY s.s plan left).2.2 != 0)=false])
 (hg:G Try.prog E (f8K2 Try.prog) ⟨([J,.rsl (rowI plan) 0 plan.length,J,.ptr 0 0 0,J,J,J,J,.int .i64 (iMin ((QD s.s s.stock).1) 30),J,.sl 2 g2 0 v2.length 1,.int .i64 worth,.rsl (rowI left) 0 left.length,.int .i64 (i:Int),.rsl (rowI ((QY s.s plan left).1)) 0 (((QY s.s plan left).1).length),.int .i64 ((QY s.s plan left).2.1),J,.int .i64 0,.int .i64 0]++Js 236),[⟨true,0,1,true,[.rsl (Qe s.s.stages) 0 s.s.stages.length,.rsl (rowI s.s.worth) 0 s.s.worth.length,.int .i64 s.s.price,.rsl (rowI s.stock) 0 s.stock.length,.rsl (rowI s.weights) 0 s.weights.length],false⟩,⟨false,2,1,true,[],false⟩,⟨true,g2,1,true,(rowI v2),true⟩,⟨false,2,1,true,[],false⟩,⟨false,2,1,true,[],false⟩]⟩):G Try.prog E (f8K1 Try.prog) (f8S1 s plan draws v2 worth left i g2) :=
 Qh (n:=400) (ds:=[]) (cs:=[]) (live:=[1,3,8,10,11,12,13,14,15,17,18]) (m:=5) (evs:=[.b true,.fz,.cs (rowI plan),.v (.tup [.rsl (rowI ((QY s.s plan left).1)) 0 (((QY s.s plan left).1).length),.int .i64 ((QY s.s plan left).2.1),.int .i64 ((QY s.s plan left).2.2)]),.b false,.stop]) (obs:=_) hE.2.1 (hE.nogh _) Qv (by kernel_rfl) ho hg
theorem p8_1_2 (s:Stn) (plan:(List Int)) (draws:(List Int)) (v2:List Int) (worth:Int) (left:(List Int)) (i:Nat) (g2:Nat) {E:Env} {rv:AV} (hE:Qg Try.prog 8 rv E) (ho:AllP [(decide ((i:Int)<(iMin ((QD s.s s.stock).1) 30)))=false])
 (hg:G Try.prog E (f8K3 Try.prog) ⟨([J,J,J,.ptr 0 0 0,J,J,J,J,.int .i64 (iMin ((QD s.s s.stock).1) 30),J,.sl 2 g2 0 v2.length 1,.int .i64 worth]++jj 7 ([.int .i64 0]++Js 235)),[⟨true,0,1,true,[.rsl (Qe s.s.stages) 0 s.s.stages.length,.rsl (rowI s.s.worth) 0 s.s.worth.length,.int .i64 s.s.price,.rsl (rowI s.stock) 0 s.stock.length,.rsl (rowI s.weights) 0 s.weights.length],false⟩,⟨false,2,1,true,[],false⟩,⟨true,g2,1,true,(rowI v2),true⟩,⟨false,2,1,true,[],false⟩]⟩):G Try.prog E (f8K1 Try.prog) (f8S1 s plan draws v2 worth left i g2) :=
 Qh (n:=400) (ds:=[]) (cs:=[]) (live:=[3,8,10,11,19]) (m:=4) (evs:=[.b false,.stop]) (obs:=_) hE.2.1 (hE.nogh _) Qv (by kernel_rfl) ho hg
theorem f8W1 (s:Stn) (plan:(List Int)) (draws:(List Int)) (v2:List Int) (worth:Int) (left:(List Int)) (i:Nat) {E:Env} {rv:Bool} (hE:Qg Try.prog 8 (.bool rv) E)
 (h:(((i:Int)<(iMin ((QD s.s s.stock).1) 30)→((0+plan.length)≤2147483648∧((s.s.stages.length≤9223372036854775807∧s.s.worth.length≤9223372036854775807)∧((¬ ((QY s.s plan left).2.2=0)→f8G3 E s plan draws v2 (i:Int) 0 worth)∧((QY s.s plan left).2.2=0→f8G2 E s plan draws v2 0 0 worth left i ((QY s.s plan left).1) ((QY s.s plan left).2.1))))))∧(¬ ((i:Int)<(iMin ((QD s.s s.stock).1) 30))→f8G3 E s plan draws v2 (iMin ((QD s.s s.stock).1) 30) 0 worth))):f8G1 E s plan draws v2 worth left i:=by
 intro g2
 rcases bft (decide ((i:Int)<(iMin ((QD s.s s.stock).1) 30))) with hc0 | hc0
 · have h:=h.1 (odt hc0)
   obtain ⟨h1,h⟩:=h
   obtain ⟨h2,h⟩:=h
   rcases bft ((QY s.s plan left).2.2 != 0) with hc1 | hc1
   · have h:=h.1 (bneT hc1)
     exact p8_1_0 s plan draws v2 worth left i g2 hE ⟨hc0,rfl,rfl,rfl,h1,(by exact Yp cI (fun _=>rfl) plan),(by exact QW cI (fun _=>rfl) plan),(by exact Ys cI (fun _=>rfl) plan),(by rw [(show AV.rsl (rowI plan) 0 (0+plan.length)=AV.rsl (rowI plan) 0 plan.length from by rw [show (0+plan.length)=plan.length from by simp])]; exact (u22 (play_ok s.s plan left h2))),hc1,trivial⟩ (h g2)
   · have h:=h.2 (bneF hc1)
     exact p8_1_1 s plan draws v2 worth left i g2 hE ⟨hc0,rfl,rfl,rfl,h1,(by exact Yp cI (fun _=>rfl) plan),(by exact QW cI (fun _=>rfl) plan),(by exact Ys cI (fun _=>rfl) plan),(by rw [(show AV.rsl (rowI plan) 0 (0+plan.length)=AV.rsl (rowI plan) 0 plan.length from by rw [show (0+plan.length)=plan.length from by simp])]; exact (u22 (play_ok s.s plan left h2))),hc1,trivial⟩ (h g2)
 · have h:=h.2 (odf hc0)
   exact p8_1_2 s plan draws v2 worth left i g2 hE ⟨hc0,trivial⟩ (h g2)
theorem p8_2_0 (s:Stn) (plan:(List Int)) (draws:(List Int)) (v2:List Int) (used:Nat) (k:Nat) (worth:Int) (left:(List Int)) (i:Nat) (stages:(List Int)) (prize:Int) (g2:Nat) (e:Int) {E:Env} {res:AV} (hE:Qg Try.prog 8 res E) (ho:AllP [(decide ((k:Int)<(stages.length:Int)))=true,0≤(k:Int)∧(k:Int)<(stages.length:Int),((rowI stages).drop (0+(Int.toNat (k:Int))*1)).take 1=[.int .i64 e],(decide (e<0))=true,true=true])
 (hr:AvLe (.bool false) res):G Try.prog E (f8K2 Try.prog) (f8S2 s plan draws v2 used k worth left i stages prize g2) :=
 Qa (n:=400) (evs:=[.b true,.ld (.int .i64 e),.b true,.b true]) (obs:=_) hE Try.func8 Qv (by kernel_rfl) ho hr
theorem p8_2_1 (s:Stn) (plan:(List Int)) (draws:(List Int)) (v2:List Int) (used:Nat) (k:Nat) (worth:Int) (left:(List Int)) (i:Nat) (stages:(List Int)) (prize:Int) (g2:Nat) (e:Int) {E:Env} {res:AV} (hE:Qg Try.prog 8 res E) (ho:AllP [(decide ((k:Int)<(stages.length:Int)))=true,0≤(k:Int)∧(k:Int)<(stages.length:Int),((rowI stages).drop (0+(Int.toNat (k:Int))*1)).take 1=[.int .i64 e],(decide (e<0))=false,0≤(k:Int)∧(k:Int)<(stages.length:Int),((rowI stages).drop (0+(Int.toNat (k:Int))*1)).take 1=[.int .i64 e],(decide (e≥(s.s.stages.length:Int)))=true])
 (hr:AvLe (.bool false) res):G Try.prog E (f8K2 Try.prog) (f8S2 s plan draws v2 used k worth left i stages prize g2) :=
 Qa (n:=400) (evs:=[.b true,.ld (.int .i64 e),.b false,.ld (.int .i64 e),.b true]) (obs:=_) hE Try.func8 Qv (by kernel_rfl) ho hr
theorem p8_2_2 (s:Stn) (plan:(List Int)) (draws:(List Int)) (v2:List Int) (used:Nat) (k:Nat) (worth:Int) (left:(List Int)) (i:Nat) (stages:(List Int)) (prize:Int) (g2:Nat) (e:Int) (se:Stg) {E:Env} {rv:AV} (hE:Qg Try.prog 8 rv E) (ho:AllP [(decide ((k:Int)<(stages.length:Int)))=true,0≤(k:Int)∧(k:Int)<(stages.length:Int),((rowI stages).drop (0+(Int.toNat (k:Int))*1)).take 1=[.int .i64 e],(decide (e<0))=false,0≤(k:Int)∧(k:Int)<(stages.length:Int),((rowI stages).drop (0+(Int.toNat (k:Int))*1)).take 1=[.int .i64 e],(decide (e≥(s.s.stages.length:Int)))=false,0≤(k:Int)∧(k:Int)<(stages.length:Int),((rowI stages).drop (0+(Int.toNat (k:Int))*1)).take 1=[.int .i64 e],0≤e∧e<(s.s.stages.length:Int),((Qe s.s.stages).drop ((0+(Int.toNat e)*3)+0)).take 1=[.int .i64 se.kind],(se.kind == 1)=true,InR .i64 ((used:Int)+1),InR .i64 ((k:Int)+1)])
 (hg:G Try.prog E (f8K2 Try.prog) ⟨([J,.rsl (rowI plan) 0 plan.length,J,.ptr 0 0 0,J,J,J,J,.int .i64 (iMin ((QD s.s s.stock).1) 30),J,.sl 2 g2 0 v2.length 1,.int .i64 worth,.rsl (rowI left) 0 left.length,.int .i64 (i:Int),.rsl (rowI stages) 0 stages.length,.int .i64 prize,J,.int .i64 ((used:Int)+1),.int .i64 ((k:Int)+1)]++Js 236),[⟨true,0,1,true,[.rsl (Qe s.s.stages) 0 s.s.stages.length,.rsl (rowI s.s.worth) 0 s.s.worth.length,.int .i64 s.s.price,.rsl (rowI s.stock) 0 s.stock.length,.rsl (rowI s.weights) 0 s.weights.length],false⟩,⟨false,2,1,true,[],false⟩,⟨true,g2,1,true,(rowI v2),true⟩,⟨false,2,1,true,[],false⟩,⟨false,2,1,true,[],false⟩]⟩):G Try.prog E (f8K2 Try.prog) (f8S2 s plan draws v2 used k worth left i stages prize g2) :=
 Qh (n:=400) (ds:=[]) (cs:=[]) (live:=[1,3,8,10,11,12,13,14,15,17,18]) (m:=5) (evs:=[.b true,.ld (.int .i64 e),.b false,.ld (.int .i64 e),.b false,.auto,.ld (.int .i64 e),.ld (.int .i64 se.kind),.b true,.stop]) (obs:=_) hE.2.1 (hE.nogh _) Qv (by kernel_rfl) ho hg
theorem p8_2_3 (s:Stn) (plan:(List Int)) (draws:(List Int)) (v2:List Int) (used:Nat) (k:Nat) (worth:Int) (left:(List Int)) (i:Nat) (stages:(List Int)) (prize:Int) (g2:Nat) (e:Int) (se:Stg) {E:Env} {rv:AV} (hE:Qg Try.prog 8 rv E) (ho:AllP [(decide ((k:Int)<(stages.length:Int)))=true,0≤(k:Int)∧(k:Int)<(stages.length:Int),((rowI stages).drop (0+(Int.toNat (k:Int))*1)).take 1=[.int .i64 e],(decide (e<0))=false,0≤(k:Int)∧(k:Int)<(stages.length:Int),((rowI stages).drop (0+(Int.toNat (k:Int))*1)).take 1=[.int .i64 e],(decide (e≥(s.s.stages.length:Int)))=false,0≤(k:Int)∧(k:Int)<(stages.length:Int),((rowI stages).drop (0+(Int.toNat (k:Int))*1)).take 1=[.int .i64 e],0≤e∧e<(s.s.stages.length:Int),((Qe s.s.stages).drop ((0+(Int.toNat e)*3)+0)).take 1=[.int .i64 se.kind],(se.kind == 1)=false,InR .i64 ((k:Int)+1)])
 (hg:G Try.prog E (f8K2 Try.prog) ⟨([J,.rsl (rowI plan) 0 plan.length,J,.ptr 0 0 0,J,J,J,J,.int .i64 (iMin ((QD s.s s.stock).1) 30),J,.sl 2 g2 0 v2.length 1,.int .i64 worth,.rsl (rowI left) 0 left.length,.int .i64 (i:Int),.rsl (rowI stages) 0 stages.length,.int .i64 prize,J,.int .i64 (used:Int),.int .i64 ((k:Int)+1)]++Js 236),[⟨true,0,1,true,[.rsl (Qe s.s.stages) 0 s.s.stages.length,.rsl (rowI s.s.worth) 0 s.s.worth.length,.int .i64 s.s.price,.rsl (rowI s.stock) 0 s.stock.length,.rsl (rowI s.weights) 0 s.weights.length],false⟩,⟨false,2,1,true,[],false⟩,⟨true,g2,1,true,(rowI v2),true⟩,⟨false,2,1,true,[],false⟩,⟨false,2,1,true,[],false⟩]⟩):G Try.prog E (f8K2 Try.prog) (f8S2 s plan draws v2 used k worth left i stages prize g2) :=
 Qh (n:=400) (ds:=[]) (cs:=[]) (live:=[1,3,8,10,11,12,13,14,15,17,18]) (m:=5) (evs:=[.b true,.ld (.int .i64 e),.b false,.ld (.int .i64 e),.b false,.auto,.ld (.int .i64 e),.ld (.int .i64 se.kind),.b false,.stop]) (obs:=_) hE.2.1 (hE.nogh _) Qv (by kernel_rfl) ho hg
theorem p8_2_4 (s:Stn) (plan:(List Int)) (draws:(List Int)) (v2:List Int) (used:Nat) (k:Nat) (worth:Int) (left:(List Int)) (i:Nat) (stages:(List Int)) (prize:Int) (g2:Nat) {E:Env} {res:AV} (hE:Qg Try.prog 8 res E) (ho:AllP [(decide ((k:Int)<(stages.length:Int)))=false,(decide ((used:Int) > (left.length:Int)))=true,true=true,true=true,true=true])
 (hr:AvLe (.bool false) res):G Try.prog E (f8K2 Try.prog) (f8S2 s plan draws v2 used k worth left i stages prize g2) :=
 Qa (n:=400) (evs:=[.b false,.b true,.b true,.b true,.b true]) (obs:=_) hE Try.func8 Qv (by kernel_rfl) ho hr
theorem p8_2_5 (s:Stn) (plan:(List Int)) (draws:(List Int)) (v2:List Int) (used:Nat) (k:Nat) (worth:Int) (left:(List Int)) (i:Nat) (stages:(List Int)) (prize:Int) (g2:Nat) {E:Env} {res:AV} (hE:Qg Try.prog 8 res E) (ho:AllP [(decide ((k:Int)<(stages.length:Int)))=false,(decide ((used:Int) > (left.length:Int)))=false,(decide (prize<(-1)))=true,true=true,true=true])
 (hr:AvLe (.bool false) res):G Try.prog E (f8K2 Try.prog) (f8S2 s plan draws v2 used k worth left i stages prize g2) :=
 Qa (n:=400) (evs:=[.b false,.b false,.b true,.b true,.b true]) (obs:=_) hE Try.func8 Qv (by kernel_rfl) ho hr
theorem p8_2_6 (s:Stn) (plan:(List Int)) (draws:(List Int)) (v2:List Int) (used:Nat) (k:Nat) (worth:Int) (left:(List Int)) (i:Nat) (stages:(List Int)) (prize:Int) (g2:Nat) {E:Env} {res:AV} (hE:Qg Try.prog 8 res E) (ho:AllP [(decide ((k:Int)<(stages.length:Int)))=false,(decide ((used:Int) > (left.length:Int)))=false,(decide (prize<(-1)))=false,g2=g2,(decide (prize≥(v2.length:Int)))=true,true=true])
 (hr:AvLe (.bool false) res):G Try.prog E (f8K2 Try.prog) (f8S2 s plan draws v2 used k worth left i stages prize g2) :=
 Qa (n:=400) (evs:=[.b false,.b false,.b false,.b true,.b true]) (obs:=_) hE Try.func8 Qv (by kernel_rfl) ho hr
theorem p8_2_7 (s:Stn) (plan:(List Int)) (draws:(List Int)) (v2:List Int) (used:Nat) (k:Nat) (worth:Int) (left:(List Int)) (i:Nat) (stages:(List Int)) (prize:Int) (g2:Nat) {E:Env} {res:AV} (hE:Qg Try.prog 8 res E) (ho:AllP [(decide ((k:Int)<(stages.length:Int)))=false,(decide ((used:Int) > (left.length:Int)))=false,(decide (prize<(-1)))=false,g2=g2,(decide (prize≥(v2.length:Int)))=false,(decide (prize≥(s.s.worth.length:Int)))=true])
 (hr:AvLe (.bool false) res):G Try.prog E (f8K2 Try.prog) (f8S2 s plan draws v2 used k worth left i stages prize g2) :=
 Qa (n:=400) (evs:=[.b false,.b false,.b false,.b false,.b true]) (obs:=_) hE Try.func8 Qv (by kernel_rfl) ho hr
theorem p8_2_8 (s:Stn) (plan:(List Int)) (draws:(List Int)) (v2:List Int) (used:Nat) (k:Nat) (worth:Int) (left:(List Int)) (i:Nat) (stages:(List Int)) (prize:Int) (g2:Nat) (e:Int) (e1:Int) {E:Env} {rv:AV} (hE:Qg Try.prog 8 rv E) (ho:AllP [(decide ((k:Int)<(stages.length:Int)))=false,(decide ((used:Int) > (left.length:Int)))=false,(decide (prize<(-1)))=false,g2=g2,(decide (prize≥(v2.length:Int)))=false,(decide (prize≥(s.s.worth.length:Int)))=false,(Int.toNat (used:Int))≤left.length,left.length≤left.length,0≤(used:Int),(decide (prize≥0))=true,0≤prize∧prize<(v2.length:Int),g2=g2,g2=g2,((rowI v2).drop (0+(Int.toNat prize)*1)).take 1=[.int .i64 e],InR .i64 (e+1),0≤prize∧prize<(v2.length:Int),g2=g2,((0+(Int.toNat prize)*1)+1)≤(rowI v2).length,g2=g2,0≤prize∧prize<(s.s.worth.length:Int),((rowI s.s.worth).drop (0+(Int.toNat prize)*1)).take 1=[.int .i64 e1],InR .i64 (worth+e1),InR .i64 ((i:Int)+1)])
 (hg:G Try.prog E (f8K1 Try.prog) ⟨([J,.rsl (rowI plan) 0 plan.length,J,.ptr 0 0 0,J,J,J,J,.int .i64 (iMin ((QD s.s s.stock).1) 30),J,.sl 2 g2 0 v2.length 1,.int .i64 (worth+e1),.rsl (rowI left) (0+((Int.toNat (used:Int))*1)) (left.length - (Int.toNat (used:Int))),.int .i64 ((i:Int)+1)]++Js 241),[⟨true,0,1,true,[.rsl (Qe s.s.stages) 0 s.s.stages.length,.rsl (rowI s.s.worth) 0 s.s.worth.length,.int .i64 s.s.price,.rsl (rowI s.stock) 0 s.stock.length,.rsl (rowI s.weights) 0 s.weights.length],false⟩,⟨false,2,1,true,[],false⟩,⟨true,g2,1,true,(Qu (rowI v2) (0+(Int.toNat prize)*1) [.int .i64 (e+1)]),true⟩,⟨false,2,1,true,[],false⟩]⟩):G Try.prog E (f8K2 Try.prog) (f8S2 s plan draws v2 used k worth left i stages prize g2) :=
 Qh (n:=400) (ds:=[]) (cs:=[]) (live:=[1,3,8,10,11,12,13]) (m:=4) (evs:=[.b false,.b false,.b false,.b false,.b false,.b true,.ld (.int .i64 e),.auto,.ld (.int .i64 e1),.stop]) (obs:=_) hE.2.1 (hE.nogh _) Qv (by kernel_rfl) ho hg
theorem p8_2_9 (s:Stn) (plan:(List Int)) (draws:(List Int)) (v2:List Int) (used:Nat) (k:Nat) (worth:Int) (left:(List Int)) (i:Nat) (stages:(List Int)) (prize:Int) (g2:Nat) {E:Env} {rv:AV} (hE:Qg Try.prog 8 rv E) (ho:AllP [(decide ((k:Int)<(stages.length:Int)))=false,(decide ((used:Int) > (left.length:Int)))=false,(decide (prize<(-1)))=false,g2=g2,(decide (prize≥(v2.length:Int)))=false,(decide (prize≥(s.s.worth.length:Int)))=false,(Int.toNat (used:Int))≤left.length,left.length≤left.length,0≤(used:Int),(decide (prize≥0))=false,InR .i64 ((i:Int)+1)])
 (hg:G Try.prog E (f8K1 Try.prog) ⟨([J,.rsl (rowI plan) 0 plan.length,J,.ptr 0 0 0,J,J,J,J,.int .i64 (iMin ((QD s.s s.stock).1) 30),J,.sl 2 g2 0 v2.length 1,.int .i64 worth,.rsl (rowI left) (0+((Int.toNat (used:Int))*1)) (left.length - (Int.toNat (used:Int))),.int .i64 ((i:Int)+1)]++Js 241),[⟨true,0,1,true,[.rsl (Qe s.s.stages) 0 s.s.stages.length,.rsl (rowI s.s.worth) 0 s.s.worth.length,.int .i64 s.s.price,.rsl (rowI s.stock) 0 s.stock.length,.rsl (rowI s.weights) 0 s.weights.length],false⟩,⟨false,2,1,true,[],false⟩,⟨true,g2,1,true,(rowI v2),true⟩,⟨false,2,1,true,[],false⟩]⟩):G Try.prog E (f8K2 Try.prog) (f8S2 s plan draws v2 used k worth left i stages prize g2) :=
 Qh (n:=400) (ds:=[]) (cs:=[]) (live:=[1,3,8,10,11,12,13]) (m:=4) (evs:=[.b false,.b false,.b false,.b false,.b false,.b false,.stop]) (obs:=_) hE.2.1 (hE.nogh _) Qv (by kernel_rfl) ho hg
theorem f8W2 (s:Stn) (plan:(List Int)) (draws:(List Int)) (v2:List Int) (used:Nat) (k:Nat) (worth:Int) (left:(List Int)) (i:Nat) (stages:(List Int)) (prize:Int) {E:Env} {rv:Bool} (hE:Qg Try.prog 8 (.bool rv) E)
 (h:(((k:Int)<(stages.length:Int)→(∃ e:Int,stages[k]?=some e∧((e<0→rv=false)∧(¬ (e<0)→((e≥(s.s.stages.length:Int)→rv=false)∧(¬ (e≥(s.s.stages.length:Int))→(0≤e∧(∃ se:Stg,s.s.stages[Int.toNat e]?=some se∧((se.kind=1→((I6 ((used:Int)+1))∧((I6 ((k:Int)+1))∧f8G2 E s plan draws v2 (used+1) (k+1) worth left i stages prize)))∧(¬ (se.kind=1)→((I6 ((k:Int)+1))∧f8G2 E s plan draws v2 used (k+1) worth left i stages prize)))))))))))∧(¬ ((k:Int)<(stages.length:Int))→(((used:Int) > (left.length:Int)→rv=false)∧(¬ ((used:Int) > (left.length:Int))→((prize<(-1)→rv=false)∧(¬ (prize<(-1))→((prize≥(v2.length:Int)→rv=false)∧(¬ (prize≥(v2.length:Int))→((prize≥(s.s.worth.length:Int)→rv=false)∧(¬ (prize≥(s.s.worth.length:Int))→((Int.toNat (used:Int))≤left.length∧((prize≥0→(0≤prize∧(∃ e:Int,v2[Int.toNat prize]?=some e∧((I6 (e+1))∧(0≤prize∧(∃ e1:Int,s.s.worth[Int.toNat prize]?=some e1∧((I6 (worth+e1))∧((I6 ((i:Int)+1))∧f8G1 E s plan draws (v2.set (Int.toNat prize) (e+1)) (worth+e1) (left.drop (Int.toNat (used:Int))) (i+1)))))))))∧(¬ (prize≥0)→((I6 ((i:Int)+1))∧f8G1 E s plan draws v2 worth (left.drop (Int.toNat (used:Int))) (i+1)))))))))))))))):f8G2 E s plan draws v2 used k worth left i stages prize:=by
 intro g2
 rcases bft (decide ((k:Int)<(stages.length:Int))) with hc0 | hc0
 · have h:=h.1 (odt hc0)
   obtain ⟨e,h1,h⟩:=h
   rcases bft (decide (e<0)) with hc1 | hc1
   · have h:=h.1 (odt hc1)
     exact p8_2_0 s plan draws v2 used k worth left i stages prize g2 e hE ⟨hc0,(Qq h1),(rp cI 1 0 1 h1),hc1,rfl,trivial⟩ (AvLe.of_eq (by rw [h]; try rfl))
   · have h:=h.2 (odf hc1)
     rcases bft (decide (e≥(s.s.stages.length:Int))) with hc2 | hc2
     · have h:=h.1 (odt hc2)
       exact p8_2_1 s plan draws v2 used k worth left i stages prize g2 e hE ⟨hc0,(Qq h1),(rp cI 1 0 1 h1),hc1,(Qq h1),(rp cI 1 0 1 h1),hc2,trivial⟩ (AvLe.of_eq (by rw [h]; try rfl))
     · have h:=h.2 (odf hc2)
       obtain ⟨h3,h⟩:=h
       obtain ⟨se,h2,h⟩:=h
       rcases bft (se.kind == 1) with hc3 | hc3
       · have h:=h.1 (eq_of_beq hc3)
         obtain ⟨q14_4,h⟩:=h
         obtain ⟨q15_4,h⟩:=h
         exact p8_2_2 s plan draws v2 used k worth left i stages prize g2 e se hE ⟨hc0,(Qq h1),(rp cI 1 0 1 h1),hc1,(Qq h1),(rp cI 1 0 1 h1),hc2,(Qq h1),(rp cI 1 0 1 h1),(Qm h3 h2),(rp cStg 3 0 1 h2),hc3,q14_4,q15_4,trivial⟩ (h g2)
       · have h:=h.2 (ne_of_beq_false hc3)
         obtain ⟨q14_4,h⟩:=h
         exact p8_2_3 s plan draws v2 used k worth left i stages prize g2 e se hE ⟨hc0,(Qq h1),(rp cI 1 0 1 h1),hc1,(Qq h1),(rp cI 1 0 1 h1),hc2,(Qq h1),(rp cI 1 0 1 h1),(Qm h3 h2),(rp cStg 3 0 1 h2),hc3,q14_4,trivial⟩ (h g2)
 · have h:=h.2 (odf hc0)
   rcases bft (decide ((used:Int) > (left.length:Int))) with hc1 | hc1
   · have h:=h.1 (odt hc1)
     exact p8_2_4 s plan draws v2 used k worth left i stages prize g2 hE ⟨hc0,hc1,rfl,rfl,rfl,trivial⟩ (AvLe.of_eq (by rw [h]; try rfl))
   · have h:=h.2 (odf hc1)
     rcases bft (decide (prize<(-1))) with hc2 | hc2
     · have h:=h.1 (odt hc2)
       exact p8_2_5 s plan draws v2 used k worth left i stages prize g2 hE ⟨hc0,hc1,hc2,rfl,rfl,trivial⟩ (AvLe.of_eq (by rw [h]; try rfl))
     · have h:=h.2 (odf hc2)
       rcases bft (decide (prize≥(v2.length:Int))) with hc3 | hc3
       · have h:=h.1 (odt hc3)
         exact p8_2_6 s plan draws v2 used k worth left i stages prize g2 hE ⟨hc0,hc1,hc2,rfl,hc3,rfl,trivial⟩ (AvLe.of_eq (by rw [h]; try rfl))
       · have h:=h.2 (odf hc3)
         rcases bft (decide (prize≥(s.s.worth.length:Int))) with hc4 | hc4
         · have h:=h.1 (odt hc4)
           exact p8_2_7 s plan draws v2 used k worth left i stages prize g2 hE ⟨hc0,hc1,hc2,rfl,hc3,hc4,trivial⟩ (AvLe.of_eq (by rw [h]; try rfl))
         · have h:=h.2 (odf hc4)
           obtain ⟨q6_5,h⟩:=h
           rcases bft (decide (prize≥0)) with hc5 | hc5
           · have h:=h.1 (odt hc5)
             obtain ⟨h2,h⟩:=h
             obtain ⟨e,h1,h⟩:=h
             obtain ⟨q15_6,h⟩:=h
             obtain ⟨h4,h⟩:=h
             obtain ⟨e1,h3,h⟩:=h
             obtain ⟨q23_6,h⟩:=h
             obtain ⟨q24_6,h⟩:=h
             refine p8_2_8 s plan draws v2 used k worth left i stages prize g2 e e1 hE ⟨hc0,hc1,hc2,rfl,hc3,hc4,q6_5,(Nat.le_refl _),(by omega),hc5,(Qm h2 h1),rfl,rfl,(rp cI 1 0 1 h1),q15_6,(Qm h2 h1),rfl,(rf cI 1 0 1 h1),rfl,(Qm h4 h3),(rp cI 1 0 1 h3),q23_6,q24_6,trivial⟩ ?_
             refine YV (t:=12) (v':=.rsl (rowI (left.drop (Int.toNat (used:Int)))) 0 ((left.drop (Int.toNat (used:Int))).length)) rfl rfl rfl (by exact yl cI (s:=1) (fun _=>rfl) (Int.toNat (used:Int)) (by omega) (by first | rfl | omega | simp)) ?_
             simp only [List.set_cons_succ,List.set_cons_zero]
             have h:=(h g2)
             simp only [f8S1,List.length_set] at h
             rw [(show Qu (rowI v2) (0+(Int.toNat prize)*1) [.int .i64 (e+1)]=rowI (v2.set (Int.toNat prize) (e+1)) from QE cI (s:=1) (k:=0) (fun _=>rfl) h1 rfl (by first | decide | simp))]
             exact h
           · have h:=h.2 (odf hc5)
             obtain ⟨q10_6,h⟩:=h
             refine p8_2_9 s plan draws v2 used k worth left i stages prize g2 hE ⟨hc0,hc1,hc2,rfl,hc3,hc4,q6_5,(Nat.le_refl _),(by omega),hc5,q10_6,trivial⟩ ?_
             refine YV (t:=12) (v':=.rsl (rowI (left.drop (Int.toNat (used:Int)))) 0 ((left.drop (Int.toNat (used:Int))).length)) rfl rfl rfl (by exact yl cI (s:=1) (fun _=>rfl) (Int.toNat (used:Int)) (by omega) (by first | rfl | omega | simp)) ?_
             simp only [List.set_cons_succ,List.set_cons_zero]
             skip; exact (h g2)
theorem p8_3_0 (s:Stn) (plan:(List Int)) (draws:(List Int)) (v2:List Int) (plays:Int) (i:Nat) (worth:Int) (g2:Nat) (e:Int) (e1:Int) {E:Env} {res:AV} (hE:Qg Try.prog 8 res E) (ho:AllP [g2=g2,(decide ((i:Int)<(v2.length:Int)))=true,0≤(i:Int)∧(i:Int)<(v2.length:Int),g2=g2,g2=g2,((rowI v2).drop (0+(Int.toNat (i:Int))*1)).take 1=[.int .i64 e],0≤(i:Int)∧(i:Int)<(s.stock.length:Int),((rowI s.stock).drop (0+(Int.toNat (i:Int))*1)).take 1=[.int .i64 e1],(decide (e > e1))=true])
 (hr:AvLe (.bool false) res):G Try.prog E (f8K3 Try.prog) (f8S3 s plan draws v2 plays i worth g2) :=
 Qa (n:=400) (evs:=[.b true,.ld (.int .i64 e),.auto,.ld (.int .i64 e1),.b true]) (obs:=_) hE Try.func8 Qv (by kernel_rfl) ho hr
theorem p8_3_1 (s:Stn) (plan:(List Int)) (draws:(List Int)) (v2:List Int) (plays:Int) (i:Nat) (worth:Int) (g2:Nat) (e:Int) (e1:Int) {E:Env} {rv:AV} (hE:Qg Try.prog 8 rv E) (ho:AllP [g2=g2,(decide ((i:Int)<(v2.length:Int)))=true,0≤(i:Int)∧(i:Int)<(v2.length:Int),g2=g2,g2=g2,((rowI v2).drop (0+(Int.toNat (i:Int))*1)).take 1=[.int .i64 e],0≤(i:Int)∧(i:Int)<(s.stock.length:Int),((rowI s.stock).drop (0+(Int.toNat (i:Int))*1)).take 1=[.int .i64 e1],(decide (e > e1))=false,InR .i64 ((i:Int)+1)])
 (hg:G Try.prog E (f8K3 Try.prog) ⟨([J,J,J,.ptr 0 0 0,J,J,J,J,.int .i64 plays,J,.sl 2 g2 0 v2.length 1,.int .i64 worth]++jj 7 ([.int .i64 ((i:Int)+1)]++Js 235)),[⟨true,0,1,true,[.rsl (Qe s.s.stages) 0 s.s.stages.length,.rsl (rowI s.s.worth) 0 s.s.worth.length,.int .i64 s.s.price,.rsl (rowI s.stock) 0 s.stock.length,.rsl (rowI s.weights) 0 s.weights.length],false⟩,⟨false,2,1,true,[],false⟩,⟨true,g2,1,true,(rowI v2),true⟩,⟨false,2,1,true,[],false⟩]⟩):G Try.prog E (f8K3 Try.prog) (f8S3 s plan draws v2 plays i worth g2) :=
 Qh (n:=400) (ds:=[]) (cs:=[]) (live:=[3,8,10,11,19]) (m:=4) (evs:=[.b true,.ld (.int .i64 e),.auto,.ld (.int .i64 e1),.b false,.stop]) (obs:=_) hE.2.1 (hE.nogh _) Qv (by kernel_rfl) ho hg
theorem p8_3_2 (s:Stn) (plan:(List Int)) (draws:(List Int)) (v2:List Int) (plays:Int) (i:Nat) (worth:Int) (g2:Nat) {E:Env} {res:AV} (hE:Qg Try.prog 8 res E) (ho:AllP [g2=g2,(decide ((i:Int)<(v2.length:Int)))=false,InR .i64 (plays*s.s.price),1=1,0=0,0=0,(0+s.weights.length)≤2147483648,((rowI s.weights).drop 0).take (s.weights.length*1)=(rowI s.weights),(rowI s.weights).length=(s.weights.length*1),noRefs (rowI s.weights)=true,YF Try.prog (.clos 33 [] []) [.int .i64 (plays*s.s.price),.sl 0 0 0 1 1,.rsl (rowI s.weights) 0 (0+s.weights.length)] [⟨true,0,1,true,[.int .i64 worth],true⟩] (.tup [.rsl (rowI ((Qj (plays*s.s.price) ([worth]) s.weights).1)) 0 (((Qj (plays*s.s.price) ([worth]) s.weights).1).length),.rsl (rowI ((Qj (plays*s.s.price) ([worth]) s.weights).2.1)) 0 (((Qj (plays*s.s.price) ([worth]) s.weights).2.1).length),.int .i64 ((Qj (plays*s.s.price) ([worth]) s.weights).2.2)]) [⟨false,1,1,true,[],false⟩],((Qj (plays*s.s.price) ([worth]) s.weights).2.2 != 0)=true,Qi Try.prog (.clos 13 [] []) [] (.bool true)])
 (hr:AvLe (.bool true) res):G Try.prog E (f8K3 Try.prog) (f8S3 s plan draws v2 plays i worth g2) :=
 Qa (n:=400) (evs:=[.b false,.fz,.cs (rowI s.weights),.lent [4] (.tup [.rsl (rowI ((Qj (plays*s.s.price) ([worth]) s.weights).1)) 0 (((Qj (plays*s.s.price) ([worth]) s.weights).1).length),.rsl (rowI ((Qj (plays*s.s.price) ([worth]) s.weights).2.1)) 0 (((Qj (plays*s.s.price) ([worth]) s.weights).2.1).length),.int .i64 ((Qj (plays*s.s.price) ([worth]) s.weights).2.2)]) [⟨false,1,1,true,[],false⟩],.b true,.v (.bool true)]) (obs:=_) hE Try.func8 Qv (by kernel_rfl) ho hr
theorem p8_3_3 (s:Stn) (plan:(List Int)) (draws:(List Int)) (v2:List Int) (plays:Int) (i:Nat) (worth:Int) (g2:Nat) (e:Int) {E:Env} {res:AV} (hE:Qg Try.prog 8 res E) (ho:AllP [g2=g2,(decide ((i:Int)<(v2.length:Int)))=false,InR .i64 (plays*s.s.price),1=1,0=0,0=0,(0+s.weights.length)≤2147483648,((rowI s.weights).drop 0).take (s.weights.length*1)=(rowI s.weights),(rowI s.weights).length=(s.weights.length*1),noRefs (rowI s.weights)=true,YF Try.prog (.clos 33 [] []) [.int .i64 (plays*s.s.price),.sl 0 0 0 1 1,.rsl (rowI s.weights) 0 (0+s.weights.length)] [⟨true,0,1,true,[.int .i64 worth],true⟩] (.tup [.rsl (rowI ((Qj (plays*s.s.price) ([worth]) s.weights).1)) 0 (((Qj (plays*s.s.price) ([worth]) s.weights).1).length),.rsl (rowI ((Qj (plays*s.s.price) ([worth]) s.weights).2.1)) 0 (((Qj (plays*s.s.price) ([worth]) s.weights).2.1).length),.int .i64 ((Qj (plays*s.s.price) ([worth]) s.weights).2.2)]) [⟨false,1,1,true,[],false⟩],((Qj (plays*s.s.price) ([worth]) s.weights).2.2 != 0)=false,(((((Qj (plays*s.s.price) ([worth]) s.weights).1).length:Nat):Int) == 1)=true,(0:Int)≤0∧(0:Int)<((((Qj (plays*s.s.price) ([worth]) s.weights).1).length:Nat):Int),((rowI ((Qj (plays*s.s.price) ([worth]) s.weights).1)).drop (0+0*1)).take 1=[.int .i64 e],(e == (iMin worth (plays*s.s.price)))=true,(0:Int)≤0∧(0:Int)<((((Qj (plays*s.s.price) ([worth]) s.weights).1).length:Nat):Int),((rowI ((Qj (plays*s.s.price) ([worth]) s.weights).1)).drop (0+0*1)).take 1=[.int .i64 e],Qi Try.prog (.clos 34 [] []) [.rsl (rowI ((Qj (plays*s.s.price) ([worth]) s.weights).2.1)) 0 (((Qj (plays*s.s.price) ([worth]) s.weights).2.1).length)] (.int .i64 (((Qj (plays*s.s.price) ([worth]) s.weights).2.1).sum)),InR .i64 (e+(((Qj (plays*s.s.price) ([worth]) s.weights).2.1).sum)),((e+(((Qj (plays*s.s.price) ([worth]) s.weights).2.1).sum)) == (plays*s.s.price))=true,Qi Try.prog (.clos 13 [] []) [] (.bool true)])
 (hr:AvLe (.bool true) res):G Try.prog E (f8K3 Try.prog) (f8S3 s plan draws v2 plays i worth g2) :=
 Qa (n:=400) (evs:=[.b false,.fz,.cs (rowI s.weights),.lent [4] (.tup [.rsl (rowI ((Qj (plays*s.s.price) ([worth]) s.weights).1)) 0 (((Qj (plays*s.s.price) ([worth]) s.weights).1).length),.rsl (rowI ((Qj (plays*s.s.price) ([worth]) s.weights).2.1)) 0 (((Qj (plays*s.s.price) ([worth]) s.weights).2.1).length),.int .i64 ((Qj (plays*s.s.price) ([worth]) s.weights).2.2)]) [⟨false,1,1,true,[],false⟩],.b false,.b true,.ld (.int .i64 e),.b true,.ld (.int .i64 e),.v (.int .i64 (((Qj (plays*s.s.price) ([worth]) s.weights).2.1).sum)),.b true,.v (.bool true)]) (obs:=_) hE Try.func8 Qv (by kernel_rfl) ho hr
theorem p8_3_4 (s:Stn) (plan:(List Int)) (draws:(List Int)) (v2:List Int) (plays:Int) (i:Nat) (worth:Int) (g2:Nat) (e:Int) {E:Env} {res:AV} (hE:Qg Try.prog 8 res E) (ho:AllP [g2=g2,(decide ((i:Int)<(v2.length:Int)))=false,InR .i64 (plays*s.s.price),1=1,0=0,0=0,(0+s.weights.length)≤2147483648,((rowI s.weights).drop 0).take (s.weights.length*1)=(rowI s.weights),(rowI s.weights).length=(s.weights.length*1),noRefs (rowI s.weights)=true,YF Try.prog (.clos 33 [] []) [.int .i64 (plays*s.s.price),.sl 0 0 0 1 1,.rsl (rowI s.weights) 0 (0+s.weights.length)] [⟨true,0,1,true,[.int .i64 worth],true⟩] (.tup [.rsl (rowI ((Qj (plays*s.s.price) ([worth]) s.weights).1)) 0 (((Qj (plays*s.s.price) ([worth]) s.weights).1).length),.rsl (rowI ((Qj (plays*s.s.price) ([worth]) s.weights).2.1)) 0 (((Qj (plays*s.s.price) ([worth]) s.weights).2.1).length),.int .i64 ((Qj (plays*s.s.price) ([worth]) s.weights).2.2)]) [⟨false,1,1,true,[],false⟩],((Qj (plays*s.s.price) ([worth]) s.weights).2.2 != 0)=false,(((((Qj (plays*s.s.price) ([worth]) s.weights).1).length:Nat):Int) == 1)=true,(0:Int)≤0∧(0:Int)<((((Qj (plays*s.s.price) ([worth]) s.weights).1).length:Nat):Int),((rowI ((Qj (plays*s.s.price) ([worth]) s.weights).1)).drop (0+0*1)).take 1=[.int .i64 e],(e == (iMin worth (plays*s.s.price)))=true,(0:Int)≤0∧(0:Int)<((((Qj (plays*s.s.price) ([worth]) s.weights).1).length:Nat):Int),((rowI ((Qj (plays*s.s.price) ([worth]) s.weights).1)).drop (0+0*1)).take 1=[.int .i64 e],Qi Try.prog (.clos 34 [] []) [.rsl (rowI ((Qj (plays*s.s.price) ([worth]) s.weights).2.1)) 0 (((Qj (plays*s.s.price) ([worth]) s.weights).2.1).length)] (.int .i64 (((Qj (plays*s.s.price) ([worth]) s.weights).2.1).sum)),InR .i64 (e+(((Qj (plays*s.s.price) ([worth]) s.weights).2.1).sum)),((e+(((Qj (plays*s.s.price) ([worth]) s.weights).2.1).sum)) == (plays*s.s.price))=false])
 (hr:AvLe (.bool false) res):G Try.prog E (f8K3 Try.prog) (f8S3 s plan draws v2 plays i worth g2) :=
 Qa (n:=400) (evs:=[.b false,.fz,.cs (rowI s.weights),.lent [4] (.tup [.rsl (rowI ((Qj (plays*s.s.price) ([worth]) s.weights).1)) 0 (((Qj (plays*s.s.price) ([worth]) s.weights).1).length),.rsl (rowI ((Qj (plays*s.s.price) ([worth]) s.weights).2.1)) 0 (((Qj (plays*s.s.price) ([worth]) s.weights).2.1).length),.int .i64 ((Qj (plays*s.s.price) ([worth]) s.weights).2.2)]) [⟨false,1,1,true,[],false⟩],.b false,.b true,.ld (.int .i64 e),.b true,.ld (.int .i64 e),.v (.int .i64 (((Qj (plays*s.s.price) ([worth]) s.weights).2.1).sum)),.b false]) (obs:=_) hE Try.func8 Qv (by kernel_rfl) ho hr
theorem p8_3_5 (s:Stn) (plan:(List Int)) (draws:(List Int)) (v2:List Int) (plays:Int) (i:Nat) (worth:Int) (g2:Nat) (e:Int) {E:Env} {res:AV} (hE:Qg Try.prog 8 res E) (ho:AllP [g2=g2,(decide ((i:Int)<(v2.length:Int)))=false,InR .i64 (plays*s.s.price),1=1,0=0,0=0,(0+s.weights.length)≤2147483648,((rowI s.weights).drop 0).take (s.weights.length*1)=(rowI s.weights),(rowI s.weights).length=(s.weights.length*1),noRefs (rowI s.weights)=true,YF Try.prog (.clos 33 [] []) [.int .i64 (plays*s.s.price),.sl 0 0 0 1 1,.rsl (rowI s.weights) 0 (0+s.weights.length)] [⟨true,0,1,true,[.int .i64 worth],true⟩] (.tup [.rsl (rowI ((Qj (plays*s.s.price) ([worth]) s.weights).1)) 0 (((Qj (plays*s.s.price) ([worth]) s.weights).1).length),.rsl (rowI ((Qj (plays*s.s.price) ([worth]) s.weights).2.1)) 0 (((Qj (plays*s.s.price) ([worth]) s.weights).2.1).length),.int .i64 ((Qj (plays*s.s.price) ([worth]) s.weights).2.2)]) [⟨false,1,1,true,[],false⟩],((Qj (plays*s.s.price) ([worth]) s.weights).2.2 != 0)=false,(((((Qj (plays*s.s.price) ([worth]) s.weights).1).length:Nat):Int) == 1)=true,(0:Int)≤0∧(0:Int)<((((Qj (plays*s.s.price) ([worth]) s.weights).1).length:Nat):Int),((rowI ((Qj (plays*s.s.price) ([worth]) s.weights).1)).drop (0+0*1)).take 1=[.int .i64 e],(e == (iMin worth (plays*s.s.price)))=false,false=false])
 (hr:AvLe (.bool false) res):G Try.prog E (f8K3 Try.prog) (f8S3 s plan draws v2 plays i worth g2) :=
 Qa (n:=400) (evs:=[.b false,.fz,.cs (rowI s.weights),.lent [4] (.tup [.rsl (rowI ((Qj (plays*s.s.price) ([worth]) s.weights).1)) 0 (((Qj (plays*s.s.price) ([worth]) s.weights).1).length),.rsl (rowI ((Qj (plays*s.s.price) ([worth]) s.weights).2.1)) 0 (((Qj (plays*s.s.price) ([worth]) s.weights).2.1).length),.int .i64 ((Qj (plays*s.s.price) ([worth]) s.weights).2.2)]) [⟨false,1,1,true,[],false⟩],.b false,.b true,.ld (.int .i64 e),.b false,.b false]) (obs:=_) hE Try.func8 Qv (by kernel_rfl) ho hr
theorem p8_3_6 (s:Stn) (plan:(List Int)) (draws:(List Int)) (v2:List Int) (plays:Int) (i:Nat) (worth:Int) (g2:Nat) {E:Env} {res:AV} (hE:Qg Try.prog 8 res E) (ho:AllP [g2=g2,(decide ((i:Int)<(v2.length:Int)))=false,InR .i64 (plays*s.s.price),1=1,0=0,0=0,(0+s.weights.length)≤2147483648,((rowI s.weights).drop 0).take (s.weights.length*1)=(rowI s.weights),(rowI s.weights).length=(s.weights.length*1),noRefs (rowI s.weights)=true,YF Try.prog (.clos 33 [] []) [.int .i64 (plays*s.s.price),.sl 0 0 0 1 1,.rsl (rowI s.weights) 0 (0+s.weights.length)] [⟨true,0,1,true,[.int .i64 worth],true⟩] (.tup [.rsl (rowI ((Qj (plays*s.s.price) ([worth]) s.weights).1)) 0 (((Qj (plays*s.s.price) ([worth]) s.weights).1).length),.rsl (rowI ((Qj (plays*s.s.price) ([worth]) s.weights).2.1)) 0 (((Qj (plays*s.s.price) ([worth]) s.weights).2.1).length),.int .i64 ((Qj (plays*s.s.price) ([worth]) s.weights).2.2)]) [⟨false,1,1,true,[],false⟩],((Qj (plays*s.s.price) ([worth]) s.weights).2.2 != 0)=false,(((((Qj (plays*s.s.price) ([worth]) s.weights).1).length:Nat):Int) == 1)=false,false=false,false=false])
 (hr:AvLe (.bool false) res):G Try.prog E (f8K3 Try.prog) (f8S3 s plan draws v2 plays i worth g2) :=
 Qa (n:=400) (evs:=[.b false,.fz,.cs (rowI s.weights),.lent [4] (.tup [.rsl (rowI ((Qj (plays*s.s.price) ([worth]) s.weights).1)) 0 (((Qj (plays*s.s.price) ([worth]) s.weights).1).length),.rsl (rowI ((Qj (plays*s.s.price) ([worth]) s.weights).2.1)) 0 (((Qj (plays*s.s.price) ([worth]) s.weights).2.1).length),.int .i64 ((Qj (plays*s.s.price) ([worth]) s.weights).2.2)]) [⟨false,1,1,true,[],false⟩],.b false,.b false,.b false,.b false]) (obs:=_) hE Try.func8 Qv (by kernel_rfl) ho hr
theorem f8W3 (s:Stn) (plan:(List Int)) (draws:(List Int)) (v2:List Int) (plays:Int) (i:Nat) (worth:Int) {E:Env} {rv:Bool} (hE:Qg Try.prog 8 (.bool rv) E)
 (h:(((i:Int)<(v2.length:Int)→(∃ e:Int,v2[i]?=some e∧(∃ e1:Int,s.stock[i]?=some e1∧((e > e1→rv=false)∧(¬ (e > e1)→((I6 ((i:Int)+1))∧f8G3 E s plan draws v2 plays (i+1) worth))))))∧(¬ ((i:Int)<(v2.length:Int))→((I6 (plays*s.s.price))∧((0+s.weights.length)≤2147483648∧((([worth]).length≤9223372036854775807∧s.weights.length≤9223372036854775807)∧((¬ ((Qj (plays*s.s.price) ([worth]) s.weights).2.2=0)→rv=true)∧((Qj (plays*s.s.price) ([worth]) s.weights).2.2=0→((((((Qj (plays*s.s.price) ([worth]) s.weights).1).length:Nat):Int)=1→(∃ e:Int,((Qj (plays*s.s.price) ([worth]) s.weights).1)[0]?=some e∧((e=(iMin worth (plays*s.s.price))→((((Qj (plays*s.s.price) ([worth]) s.weights).2.1).length≤1000∧∀ x ∈ ((Qj (plays*s.s.price) ([worth]) s.weights).2.1),0≤x∧x≤2000000000000)∧((I6 (e+(((Qj (plays*s.s.price) ([worth]) s.weights).2.1).sum)))∧(((e+(((Qj (plays*s.s.price) ([worth]) s.weights).2.1).sum))=(plays*s.s.price)→rv=true)∧(¬ ((e+(((Qj (plays*s.s.price) ([worth]) s.weights).2.1).sum))=(plays*s.s.price))→rv=false)))))∧(¬ (e=(iMin worth (plays*s.s.price)))→rv=false))))∧(¬ (((((Qj (plays*s.s.price) ([worth]) s.weights).1).length:Nat):Int)=1)→rv=false)))))))))):f8G3 E s plan draws v2 plays i worth:=by
 intro g2
 rcases bft (decide ((i:Int)<(v2.length:Int))) with hc0 | hc0
 · have h:=h.1 (odt hc0)
   obtain ⟨e,h1,h⟩:=h
   obtain ⟨e1,h2,h⟩:=h
   rcases bft (decide (e > e1)) with hc1 | hc1
   · have h:=h.1 (odt hc1)
     exact p8_3_0 s plan draws v2 plays i worth g2 e e1 hE ⟨rfl,hc0,(Qq h1),rfl,rfl,(rp cI 1 0 1 h1),(Qq h2),(rp cI 1 0 1 h2),hc1,trivial⟩ (AvLe.of_eq (by rw [h]; try rfl))
   · have h:=h.2 (odf hc1)
     obtain ⟨q11_2,h⟩:=h
     exact p8_3_1 s plan draws v2 plays i worth g2 e e1 hE ⟨rfl,hc0,(Qq h1),rfl,rfl,(rp cI 1 0 1 h1),(Qq h2),(rp cI 1 0 1 h2),hc1,q11_2,trivial⟩ (h g2)
 · have h:=h.2 (odf hc0)
   obtain ⟨q2_1,h⟩:=h
   obtain ⟨h1,h⟩:=h
   obtain ⟨h2,h⟩:=h
   rcases bft ((Qj (plays*s.s.price) ([worth]) s.weights).2.2 != 0) with hc1 | hc1
   · have h:=h.1 (bneT hc1)
     exact p8_3_2 s plan draws v2 plays i worth g2 hE ⟨rfl,hc0,q2_1,rfl,rfl,rfl,h1,(by exact Yp cI (fun _=>rfl) s.weights),(by exact QW cI (fun _=>rfl) s.weights),(by exact Ys cI (fun _=>rfl) s.weights),(Xo (fv':=.clos 33 [] []) (args':=[.int .i64 (plays*s.s.price),.rsl [.int .i64 worth] 0 1,.rsl (rowI s.weights) 0 (0+s.weights.length)]) (o1:=[]) (o2:=[0=0]) (by kernel_rfl) trivial (by kernel_rfl) ⟨rfl,trivial⟩ (by rw [(show AV.rsl (rowI s.weights) 0 (0+s.weights.length)=AV.rsl (rowI s.weights) 0 s.weights.length from by rw [show (0+s.weights.length)=s.weights.length from by simp])]; exact (u33 (YR (plays*s.s.price) ([worth]) s.weights h2)))),hc1,(u13 (Yq )),trivial⟩ (AvLe.of_eq (by rw [h]; try rfl))
   · have h:=h.2 (bneF hc1)
     rcases bft (((((Qj (plays*s.s.price) ([worth]) s.weights).1).length:Nat):Int) == 1) with hc2 | hc2
     · have h:=h.1 (eq_of_beq hc2)
       obtain ⟨e,h3,h⟩:=h
       rcases bft (e == (iMin worth (plays*s.s.price))) with hc3 | hc3
       · have h:=h.1 (eq_of_beq hc3)
         obtain ⟨h4,h⟩:=h
         obtain ⟨q20_4,h⟩:=h
         rcases bft ((e+(((Qj (plays*s.s.price) ([worth]) s.weights).2.1).sum)) == (plays*s.s.price)) with hc4 | hc4
         · have h:=h.1 (eq_of_beq hc4)
           exact p8_3_3 s plan draws v2 plays i worth g2 e hE ⟨rfl,hc0,q2_1,rfl,rfl,rfl,h1,(by exact Yp cI (fun _=>rfl) s.weights),(by exact QW cI (fun _=>rfl) s.weights),(by exact Ys cI (fun _=>rfl) s.weights),(Xo (fv':=.clos 33 [] []) (args':=[.int .i64 (plays*s.s.price),.rsl [.int .i64 worth] 0 1,.rsl (rowI s.weights) 0 (0+s.weights.length)]) (o1:=[]) (o2:=[0=0]) (by kernel_rfl) trivial (by kernel_rfl) ⟨rfl,trivial⟩ (by rw [(show AV.rsl (rowI s.weights) 0 (0+s.weights.length)=AV.rsl (rowI s.weights) 0 s.weights.length from by rw [show (0+s.weights.length)=s.weights.length from by simp])]; exact (u33 (YR (plays*s.s.price) ([worth]) s.weights h2)))),hc1,hc2,(Qq h3),(rp cI 1 0 1 h3),hc3,(Qq h3),(rp cI 1 0 1 h3),(u34 (tsum_ok ((Qj (plays*s.s.price) ([worth]) s.weights).2.1) h4)),q20_4,hc4,(u13 (Yq )),trivial⟩ (AvLe.of_eq (by rw [h]; try rfl))
         · have h:=h.2 (ne_of_beq_false hc4)
           exact p8_3_4 s plan draws v2 plays i worth g2 e hE ⟨rfl,hc0,q2_1,rfl,rfl,rfl,h1,(by exact Yp cI (fun _=>rfl) s.weights),(by exact QW cI (fun _=>rfl) s.weights),(by exact Ys cI (fun _=>rfl) s.weights),(Xo (fv':=.clos 33 [] []) (args':=[.int .i64 (plays*s.s.price),.rsl [.int .i64 worth] 0 1,.rsl (rowI s.weights) 0 (0+s.weights.length)]) (o1:=[]) (o2:=[0=0]) (by kernel_rfl) trivial (by kernel_rfl) ⟨rfl,trivial⟩ (by rw [(show AV.rsl (rowI s.weights) 0 (0+s.weights.length)=AV.rsl (rowI s.weights) 0 s.weights.length from by rw [show (0+s.weights.length)=s.weights.length from by simp])]; exact (u33 (YR (plays*s.s.price) ([worth]) s.weights h2)))),hc1,hc2,(Qq h3),(rp cI 1 0 1 h3),hc3,(Qq h3),(rp cI 1 0 1 h3),(u34 (tsum_ok ((Qj (plays*s.s.price) ([worth]) s.weights).2.1) h4)),q20_4,hc4,trivial⟩ (AvLe.of_eq (by rw [h]; try rfl))
       · have h:=h.2 (ne_of_beq_false hc3)
         exact p8_3_5 s plan draws v2 plays i worth g2 e hE ⟨rfl,hc0,q2_1,rfl,rfl,rfl,h1,(by exact Yp cI (fun _=>rfl) s.weights),(by exact QW cI (fun _=>rfl) s.weights),(by exact Ys cI (fun _=>rfl) s.weights),(Xo (fv':=.clos 33 [] []) (args':=[.int .i64 (plays*s.s.price),.rsl [.int .i64 worth] 0 1,.rsl (rowI s.weights) 0 (0+s.weights.length)]) (o1:=[]) (o2:=[0=0]) (by kernel_rfl) trivial (by kernel_rfl) ⟨rfl,trivial⟩ (by rw [(show AV.rsl (rowI s.weights) 0 (0+s.weights.length)=AV.rsl (rowI s.weights) 0 s.weights.length from by rw [show (0+s.weights.length)=s.weights.length from by simp])]; exact (u33 (YR (plays*s.s.price) ([worth]) s.weights h2)))),hc1,hc2,(Qq h3),(rp cI 1 0 1 h3),hc3,rfl,trivial⟩ (AvLe.of_eq (by rw [h]; try rfl))
     · have h:=h.2 (ne_of_beq_false hc2)
       exact p8_3_6 s plan draws v2 plays i worth g2 hE ⟨rfl,hc0,q2_1,rfl,rfl,rfl,h1,(by exact Yp cI (fun _=>rfl) s.weights),(by exact QW cI (fun _=>rfl) s.weights),(by exact Ys cI (fun _=>rfl) s.weights),(Xo (fv':=.clos 33 [] []) (args':=[.int .i64 (plays*s.s.price),.rsl [.int .i64 worth] 0 1,.rsl (rowI s.weights) 0 (0+s.weights.length)]) (o1:=[]) (o2:=[0=0]) (by kernel_rfl) trivial (by kernel_rfl) ⟨rfl,trivial⟩ (by rw [(show AV.rsl (rowI s.weights) 0 (0+s.weights.length)=AV.rsl (rowI s.weights) 0 s.weights.length from by rw [show (0+s.weights.length)=s.weights.length from by simp])]; exact (u33 (YR (plays*s.s.price) ([worth]) s.weights h2)))),hc1,hc2,rfl,rfl,trivial⟩ (AvLe.of_eq (by rw [h]; try rfl))
theorem law8_ok (s:Stn) (plan draws:List Int):Pure Try.prog 8 [.agg (cStn s),.rsl (rowI plan) 0 plan.length,.rsl (rowI draws) 0 draws.length] (.bool true):=Qs Try.func8 f8b fun E hE=>by
 refine f8W s plan draws (rv:=true) hE ⟨fun _=>rfl,fun a1=>⟨fun _=>rfl,fun a2=>⟨fun _=>rfl,fun a3=>⟨fun _=>rfl,fun a4=>⟨fun _=>rfl,fun a5=>⟨fun _=>rfl,fun a6=>?_⟩⟩⟩⟩⟩⟩
 have plays:(QD s.s s.stock).2=0→f8G1 E s plan draws (List.replicate s.stock.length (0:Int)) 0 draws 0:=by
  intro hl
  have hc:XS s.s=0:=by
   apply Classical.byContradiction
   intro hh
   rw [QD,if_neg hh] at hl; cases hl
  obtain ⟨hm,es⟩:=Vr (Xs hc)
  have hn:=(QH hm.st).1
  rw [es] at hn
  have hw:=worth_len hc
  have hls:QV (Qf s.s) s.stock=true∧QD s.s s.stock=(XP s.s s.stock s.s.stages.length,0)∧0≤XP s.s s.stock s.s.stages.length:=by
   rw [QD,if_pos hc] at hl
   rw [QD,if_pos hc]
   split at hl
   · rename_i hok
     refine ⟨hok,?_⟩
     rw [if_pos hok]
     unfold lastsR at hl ⊢
     split at hl
     · cases hl
     · rename_i hh
       rw [if_neg hh]
       exact ⟨rfl,by omega⟩
   · cases hl
  obtain ⟨hok,hlk,hl0⟩:=hls
  obtain ⟨sl,sb⟩:=qy hc hok
  have hpi:∀ (i:Nat) (x:Stg),s.s.stages[i]?=some x→x.kind=4→x.prize≥0→Int.toNat x.prize<s.stock.length:=fun i x hi h4 hp=>by
   have:=prize_in hc hi hp h4; omega
  obtain ⟨lo1,lo2⟩:=leastN_ok sb hpi s.s.stages.length (Nat.le_refl _)
  have hl1:(QD s.s s.stock).1=XP s.s s.stock s.s.stages.length:=by rw [hlk]
  generalize XP s.s s.stock s.s.stages.length=n at *
  have hmin:iMin ((QD s.s s.stock).1) 30≤n∧iMin ((QD s.s s.stock).1) 30≤30∧(iMin ((QD s.s s.stock).1) 30=n ∨ iMin ((QD s.s s.stock).1) 30=30):=by
   rw [hl1]; simp only [iMin]; split <;> omega
  have hstk:∀ (i:Nat),i<s.stock.length→∃ y,s.stock[i]?=some y∧y=s.stock.getD i 0∧0≤y:=fun i hi=>by
   have hg:s.stock[i]?=some s.stock[i]:=List.getElem?_eq_getElem hi
   exact ⟨_,hg,by simp [List.getD,hg],(sb _ (List.mem_of_getElem? hg)).1⟩
  have pr:=price_bd hc
  -- behind the plays
  have fin:∀ (plays:Int) (v:List Int) (worth:Int),v.length=s.stock.length→0≤plays→plays≤30→plays≤n→(∀ (j:Nat) (x:Int),v[j]?=some x→0≤x∧x≤plays∧(0<x→n≤s.stock.getD j 0))→0≤worth→worth≤300000→f8G3 E s plan draws v plays 0 worth:=by
   intro plays v worth hv p0 p30 pn hvi w0 w1
   have m1:0≤plays*s.s.price:=Int.mul_nonneg p0 pr.1
   have m2:plays*s.s.price≤300000:=by
    have q1:=Int.mul_le_mul_of_nonneg_left pr.2 p0
    omega
   have key:∀ (d k:Nat),k+d=v.length→f8G3 E s plan draws v plays k worth:=by
    intro d
    induction d with
    | zero =>
     intro k hk
     refine f8W3 s plan draws v plays k worth (rv:=true) hE ⟨fun h=>by omega,fun _=>⟨by omega,by omega,⟨by simp,by omega⟩,fun _=>rfl,fun hz=>?_⟩⟩
     obtain ⟨c1,c2,c3,c4,k1,k2⟩:=claimsK_zero hz
     have q1:(payI (plays*s.s.price) [worth]).1=[iMin worth (plays*s.s.price)]:=rfl
     have q2:(payI (plays*s.s.price) [worth]).2=plays*s.s.price - iMin worth (plays*s.s.price):=rfl
     have hmn:0≤iMin worth (plays*s.s.price)∧iMin worth (plays*s.s.price)≤plays*s.s.price:=by simp only [iMin]; split <;> omega
     rw [q1] at k1
     rw [q2] at k2
     have ok:SplitOk (plays*s.s.price - iMin worth (plays*s.s.price)) s.weights:=split_of (by omega) c2
     have P:=parts_of ok
     have bp:∀ x ∈ Xc (plays*s.s.price - iMin worth (plays*s.s.price)) s.weights,0≤x∧x≤2000000000000:=fun x hx=>by
      obtain ⟨i,hi⟩:=List.getElem?_of_mem hx
      have hi':=(List.getElem?_eq_some_iff.1 hi).1
      have hl:=P.len
      have hwi:s.weights[i]?=some s.weights[i]:=List.getElem?_eq_getElem (by omega)
      have h1:=Wu ok.pos ok.c0 (ok.w _ (List.mem_of_getElem? hwi)).1
      have h2:=Vq ⟨ok.c0,ok.c1⟩ (ok.w _ (List.mem_of_getElem? hwi))
      rcases P.low i _ _ hwi hi with h3 | h3 <;> omega
     have hlen:=P.len
     have hsum:=P.sum
     have hwl:=ok.len
     rw [k1,k2]
     refine ⟨fun _=>⟨_,rfl,fun _=>⟨⟨by omega,bp⟩,by omega,fun _=>rfl,fun h=>absurd (by omega) h⟩,fun h=>absurd rfl h⟩,fun h=>absurd rfl h⟩
    | succ d ih =>
     intro k hk
     have hg:v[k]?=some v[k]:=List.getElem?_eq_getElem (by omega)
     obtain ⟨y,y1,y2,y3⟩:=hstk k (by omega)
     have hx:=hvi k _ hg
     refine f8W3 s plan draws v plays k worth (rv:=true) hE ⟨fun _=>⟨_,hg,y,y1,fun h=>?_,fun _=>⟨by omega,ih (k+1) (by omega)⟩⟩,fun h=>by omega⟩
     by_cases h0:0<v[k]
     · have:=hx.2.2 h0; omega
     · omega
   exact key v.length 0 (by omega)
  have key:∀ (d i:Nat) (v:List Int) (worth:Int) (left:List Int),i+d=30→(i:Int)≤n→v.length=s.stock.length→(∀ (j:Nat) (x:Int),v[j]?=some x→0≤x∧x≤(i:Int)∧(0<x→n≤s.stock.getD j 0))→0≤worth→worth≤10000*(i:Int)→f8G1 E s plan draws v worth left i:=by
   intro d
   induction d with
   | zero =>
    intro i v worth left hd hin hv hvi w0 w1
    have e:iMin ((QD s.s s.stock).1) 30=(i:Int):=by omega
    refine f8W1 s plan draws v worth left i (rv:=true) hE ⟨fun h=>by omega,fun _=>?_⟩
    rw [e]
    exact fin i v worth hv (by omega) (by omega) hin hvi w0 (by omega)
   | succ d ih =>
    intro i v worth left hd hin hv hvi w0 w1
    refine f8W1 s plan draws v worth left i (rv:=true) hE ⟨fun hlt=>⟨by omega,⟨by omega,by omega⟩,fun _=>fin i v worth hv (by omega) (by omega) hin hvi w0 (by omega),fun hp=>?_⟩,fun hge=>?_⟩
    rotate_left
    · have e:iMin ((QD s.s s.stock).1) 30=(i:Int):=by omega
      rw [e]
      exact fin i v worth hv (by omega) (by omega) hin hvi w0 (by omega)
    have hpe:WE s.s plan=0:=by
     apply Classical.byContradiction
     intro hh
     rw [QY,if_neg hh] at hp; exact hh hp
    have hpl:=(planE_of hpe).2
    have hpk:QY s.s plan left=YK s.s plan s.s.stages.length 0 [] left:=by rw [QY,if_pos hpe]
    obtain ⟨j,x,hi,h4,hr,hpr⟩:=play_reach hc hpl s.s.stages.length 0 [] left (by omega) (by omega) (by omega) (reach0 hc) (by rw [← hpk]; exact hp)
    obtain ⟨r,r1,r2,r3⟩:=play_use hc hpl s.s.stages.length 0 [] left (by omega) (by omega) (by omega) (by rw [← hpk]; exact hp)
    have r4:=WC (s:=s.s) (plan:=plan) (n:=s.s.stages.length) (at_:=0) (v:=[]) (ds:=left)
    rw [← hpk] at hpr r1 r4
    rw [List.nil_append] at r1
    rw [r1,List.length_nil] at r4
    rw [hpr,r1]
    have hform:=(QH hm.st).2.2.2.2
    rw [es] at hform
    have hfo:=Yc hi (hform j (List.getElem?_eq_some_iff.1 hi).1)
    have hpb:-1≤x.prize∧x.prize≤(s.s.worth.length:Int) - 1:=by
     rcases hfo with ⟨-,-,q⟩ | ⟨q,-⟩
     · exact q
     · omega
    have hlo:x.prize≥0→n≤s.stock.getD (Int.toNat x.prize) 0:=fun hx=>(lo1 j x (List.getElem?_eq_some_iff.1 hi).1 hi hr h4 hx).2
    have inner:∀ (d k:Nat),k+d=r.length→f8G2 E s plan draws v (VC s.s (r.take k)) k worth left i r x.prize:=by
     intro d
     induction d with
     | zero =>
      intro k hk
      have e:r.take k=r:=List.take_of_length_le (by omega)
      rw [e]
      refine f8W2 s plan draws v _ k worth left i r x.prize (rv:=true) hE ⟨fun h=>by omega,fun _=>⟨fun h=>by omega,fun _=>⟨fun h=>by omega,fun _=>⟨fun h=>by omega,fun _=>⟨fun h=>by omega,fun _=>⟨by omega,fun hx=>?_,fun hx=>⟨by omega,?_⟩⟩⟩⟩⟩⟩⟩
      · have hsp:=hpi j x hi h4 hx
        have hg:v[Int.toNat x.prize]?=some v[Int.toNat x.prize]:=List.getElem?_eq_getElem (by omega)
        have hgw:s.s.worth[Int.toNat x.prize]?=some s.s.worth[Int.toNat x.prize]:=List.getElem?_eq_getElem (by omega)
        have hwb:=worth_bd hc (List.mem_of_getElem? hgw)
        have hvx:=hvi _ _ hg
        refine ⟨hx,_,hg,by omega,hx,_,hgw,by omega,by omega,ih (i+1) _ _ _ (by omega) (by omega) (by rw [List.length_set]; exact hv) (fun q y hq=>?_) (by omega) (by omega)⟩
        by_cases hqe:q=Int.toNat x.prize
        · subst hqe
          rw [List.getElem?_set_self (by omega)] at hq
          cases hq
          exact ⟨by omega,by omega,fun _=>hlo hx⟩
        · rw [List.getElem?_set_ne (fun h=>hqe h.symm)] at hq
          have:=hvi q y hq
          exact ⟨this.1,by omega,this.2.2⟩
      · exact ih (i+1) v worth _ (by omega) (by omega) hv (fun q y hq=>by have:=hvi q y hq; exact ⟨this.1,by omega,this.2.2⟩) w0 (by omega)
     | succ d ih2 =>
      intro k hk
      have hg:r[k]?=some r[k]:=List.getElem?_eq_getElem (by omega)
      have hb:=r2 _ (List.mem_of_getElem? hg)
      have hgs:s.s.stages[Int.toNat r[k]]?=some s.s.stages[Int.toNat r[k]]:=List.getElem?_eq_getElem (by omega)
      have hx:s.s.stages.getD (Int.toNat r[k]) ⟨0,0,[]⟩=s.s.stages[Int.toNat r[k]]:=by simp [List.getD,hgs]
      have hu:=usedN_take (s:=s.s) hg
      have hul:=usedN_le (s:=s.s) (l:=r.take k)
      rw [List.length_take] at hul
      rw [hx] at hu
      have nx:=ih2 (k+1) (by omega)
      rw [hu] at nx
      refine f8W2 s plan draws v _ k worth left i r x.prize (rv:=true) hE ⟨fun _=>⟨_,hg,fun h=>by omega,fun _=>⟨fun h=>by omega,fun _=>⟨hb.1,_,hgs,fun hk1=>⟨by omega,by omega,?_⟩,fun hk1=>⟨by omega,?_⟩⟩⟩⟩,fun h=>by omega⟩
      · rw [if_pos hk1] at nx; exact nx
      · rw [if_neg hk1] at nx; exact nx
    exact inner r.length 0 (by omega)
  exact key 30 0 _ 0 draws (by omega) (by omega) (by simp) (fun j x hx=>by
   rw [List.getElem?_replicate] at hx
   split at hx
   · cases hx; exact ⟨by omega,by omega,fun h=>by omega⟩
   · cases hx) (by omega) (by omega)
 have k0:∀ (d i:Nat),i+d=s.s.stages.length→f8G0 E s plan draws i:=by
  intro d
  induction d with
  | zero =>
   intro i hd
   exact f8W0 s plan draws i (rv:=true) hE ⟨fun h=>by omega,fun _=>⟨by omega,⟨⟨by omega,by omega⟩,by omega⟩,fun _=>rfl,fun hl=>⟨by omega,by omega,plays hl⟩⟩⟩
  | succ d ih =>
   intro i hd
   have hi:i<s.s.stages.length:=by omega
   exact f8W0 s plan draws i (rv:=true) hE ⟨fun _=>⟨_,List.getElem?_eq_getElem hi,fun _=>rfl,fun _=>⟨by omega,ih (i+1) (by omega)⟩⟩,fun h=>by omega⟩
 exact k0 s.s.stages.length 0 (by omega)
end Go.Proofs.Ytemklbioijmjiaa
namespace Go.Proofs.Ytemklbioijmjiaa
open Go Ax
open Go.Proofs
theorem tTrn (W:World):Dec Try.prog W 204 Trn cTrn (fun a=>True):=by
 refine Dec.map (Vc Try.underlying204 rfl (tot:=2) (by kernel_rfl) (Xa (n:=1) (tot:=2) (by kernel_rfl) rfl (VT Try.underlying3) (Xa (n:=1) (tot:=2) (by kernel_rfl) rfl (VT Try.underlying3) Vz (by decide)) (by decide))) (fun x=>(⟨x.1,x.2.1⟩:Trn)) ?_ ?_
 · exact fun _=>rfl
 · exact fun _ _=>trivial
theorem tTrns (W:World):Dec Try.prog W 66 (List Trn) (fun a=>[.rsl (Qn a) 0 a.length]) (fun a=>a.length≤9223372036854775807):=by
 refine Dec.map (qd Try.underlying66 (n:=2) (by kernel_rfl) (by decide) (fun _=>rfl) (fun _=>rfl) (tTrn W)) (fun x=>x) ?_ ?_
 · exact fun _=>rfl
 · exact fun _ h=>h.1
theorem tStg (W:World):Dec Try.prog W 68 Stg cStg (fun a=>True):=by
 refine Dec.map (Vc Try.underlying68 rfl (tot:=3) (by kernel_rfl) (Xa (n:=1) (tot:=3) (by kernel_rfl) rfl (VT Try.underlying3) (Xa (n:=1) (tot:=3) (by kernel_rfl) rfl (VT Try.underlying3) (Xa (n:=1) (tot:=3) (by kernel_rfl) rfl (tTrns W) Vz (by decide)) (by decide)) (by decide))) (fun x=>(⟨x.1,x.2.1,x.2.2.1⟩:Stg)) ?_ ?_
 · exact fun _=>rfl
 · exact fun _ _=>trivial
theorem tStgs (W:World):Dec Try.prog W 61 (List Stg) (fun a=>[.rsl (Qe a) 0 a.length]) (fun a=>a.length≤9223372036854775807):=by
 refine Dec.map (qd Try.underlying61 (n:=3) (by kernel_rfl) (by decide) (fun _=>rfl) (fun _=>rfl) (tStg W)) (fun x=>x) ?_ ?_
 · exact fun _=>rfl
 · exact fun _ h=>h.1
theorem tStl (W:World):Dec Try.prog W 63 Stl (fun a=>[.rsl (Qe a.stages) 0 a.stages.length,.rsl (rowI a.worth) 0 a.worth.length,.int .i64 a.price]) (fun a=>True):=by
 refine Dec.map (Vc Try.underlying63 rfl (tot:=3) (by kernel_rfl) (Xa (n:=1) (tot:=3) (by kernel_rfl) rfl (tStgs W) (Xa (n:=1) (tot:=3) (by kernel_rfl) rfl (tInts W) (Xa (n:=1) (tot:=3) (by kernel_rfl) rfl (VT Try.underlying3) Vz (by decide)) (by decide)) (by decide))) (fun x=>(⟨x.1,x.2.1,x.2.2.1⟩:Stl)) ?_ ?_
 · exact fun _=>rfl
 · exact fun _ _=>trivial
theorem tStn (W:World):Dec Try.prog W 118 Stn cStn (fun a=>True):=by
 refine Dec.map (Vc Try.underlying118 rfl (tot:=5) (by kernel_rfl) (Xa (n:=3) (tot:=5) (by kernel_rfl) rfl (tStl W) (Xa (n:=1) (tot:=5) (by kernel_rfl) rfl (tInts W) (Xa (n:=1) (tot:=5) (by kernel_rfl) rfl (tInts W) Vz (by decide)) (by decide)) (by decide))) (fun x=>(⟨x.1,x.2.1,x.2.2.1⟩:Stn)) ?_ ?_
 · exact fun _=>rfl
 · exact fun _ _=>trivial
end Go.Proofs.Ytemklbioijmjiaa