/- A part of the proof: several texts, one behind the other. -/
import Derived.Test.YtfgmlaeikcfpbaaLStallsDrawsD
set_option linter.unusedVariables false
set_option linter.unusedSimpArgs false
set_option maxRecDepth 100000
namespace Go.Proofs.Ytfgmlaeikcfpbaa
open Go Ax
open Go.Proofs
def Yl (s:Stl) (plan ds:List Int):Int:=if (stgA s (QQ s plan ds)).kind=4 then 0 else totI (stgA s (QQ s plan ds))
def LArg (s:Stl) (plan:List Int) (f:Nat) (ds:List Int) (part b:Int):Prop:=XX s plan s.stages.length 0 ds∧(0≤part∧part≤1000000000000)∧(-10000000≤b∧b≤(f:Int))
def LOk (s:Stl) (plan:List Int) (kd:Int) (f:Nat):Prop:=∀ (ds:List Int) (part b:Int),LArg s plan f ds part b →
 Lent Try.prog 52 [avStl s,.rsl (rowI plan) 0 plan.length,.rsl (rowI ds) 0 ds.length,.int .i64 part,.int .i64 kd,.ptr 0 0 0] [⟨true,0,1,true,[.int .i64 b],false⟩]
  (.tup [.int .i64 (LF s plan kd f ds part b).1,.bool true]) [⟨true,0,1,true,[.int .i64 (LF s plan kd f ds part b).2],false⟩]
def NArg (s:Stl) (plan:List Int) (kd part b:Int):Prop:=QK s plan=0∧(s.stages.length≤9223372036854775807∧s.worth.length≤9223372036854775807)∧(0≤part∧part≤1000000000000)∧(-10000000≤b∧b≤2000)
theorem WL {s:Stl} {plan:List Int}:∀ {n:Nat} {a:Int} {ds:List Int},XX s plan n a ds→ds.length≤n
 | 0,a,ds,h=>h.elim
 | n+1,a,ds,h=>by
  unfold XX at h
  split at h
  · subst h; simp
  · split at h
    · cases ds with
      | nil=>simp
      | cons d ds=>have:=WL h.2; simp; omega
    · have:=WL h; omega
theorem dok_of {s:Stl} {plan:List Int} (h:QK s plan=0):DOk s plan:=⟨(WF h).1,(WF h).2⟩
theorem planE_dok {s:Stl} {plan:List Int} (h:DOk s plan):QK s plan=0:=by rw [QK,if_pos h.hc,if_pos h.hp]
theorem sum_take {l:List Trn} {k:Nat} {t:Trn} (h:l[k]?=some t):((l.take (k+1)).map (·.w)).sum=((l.take k).map (·.w)).sum+t.w:=by
 rw [List.take_add_one,h]; simp
theorem lent_le {f:FuncId} {args args':List AV} {bs bs2:List Blk} {res:AV} (h:Lent Try.prog f args' bs res bs2) (hl:LeD args args'):Lent Try.prog f args bs res bs2:=fun Z w C cargs hm hv =>
 h Z w C cargs hm ⟨by rw [hl.length]; exact hv.1,fun i c v h1 h2=>by
  obtain ⟨x,q1,q2⟩:=hl.get h1
  have:=hv.2 i x v q1 h2
  rcases q2 with rfl | ⟨rfl,rfl⟩
  · exact this
  · cases this; exact .rsl0⟩
theorem f103b:Try.f103.body=some (Qe Try.prog 103):=by kernel_rfl
theorem u103 {a c k:List AV} {r:AV} (h:Pure Try.prog 103 (a++c++k) r):Qg Try.prog (.clos 103 a k) c r:=Ql Try.func103 (by kernel_rfl) f103b h
def qy (P:Program):List Item:=kAt 400 [.code (Qe P 103)] [.stop]
def f103S0 (s:Stl) (plan:(List Int)) (ds:(List Int)) (d:Int) (at_:Int) (used:Nat):St:=⟨([J,.rsl (rowI plan) 0 plan.length,.rsl (rowI ds) 0 ds.length,.int .i64 d,.ptr 0 0 0,J,J,J,J,.int .i64 at_,.int .i64 (used:Int)]++Js 76),[⟨true,0,1,true,[.rsl (Qd s.stages) 0 s.stages.length,.rsl (rowI s.worth) 0 s.worth.length,.int .i64 s.price],false⟩]⟩
def f103G0 (E:Env) (s:Stl) (plan:(List Int)) (ds:(List Int)) (d:Int) (at_:Int) (used:Nat):Prop:=G Try.prog E (qy Try.prog) (f103S0 s plan ds d at_ used )
def yK (P:Program):List Item:=kAt 400 [.code (Qe P 103)] [.b true,.b true,.stop]
def f103S1 (s:Stl) (plan:(List Int)) (ds:(List Int)) (d:Int) (v1_0:Int) (v1_1:Int) (v1_2:(List Trn)) (total:Int) (k:Nat) (used:Nat):St:=⟨([J,.rsl (rowI plan) 0 plan.length,.rsl (rowI ds) 0 ds.length,.int .i64 d,.ptr 0 0 0]++jj 5 ([.int .i64 (used:Int),.ptr 1 0 0,J,.int .i64 total,.int .i64 (k:Int)]++Js 72)),[⟨true,0,1,true,[.rsl (Qd s.stages) 0 s.stages.length,.rsl (rowI s.worth) 0 s.worth.length,.int .i64 s.price],false⟩,⟨true,0,1,true,[.int .i64 v1_0,.int .i64 v1_1,.rsl (Qk v1_2) 0 v1_2.length],false⟩]⟩
def f103G1 (E:Env) (s:Stl) (plan:(List Int)) (ds:(List Int)) (d:Int) (v1_0:Int) (v1_1:Int) (v1_2:(List Trn)) (total:Int) (k:Nat) (used:Nat):Prop:=G Try.prog E (yK Try.prog) (f103S1 s plan ds d v1_0 v1_1 v1_2 total k used )
def f103K2 (P:Program):List Item:=kAt 400 [.code (Qe P 103)] [.b true,.b true,.b false,.b false,.stop]
def f103S2 (s:Stl) (plan:(List Int)) (ds:(List Int)) (d:Int) (rest:Int) (v1_0:Int) (v1_1:Int) (v1_2:(List Trn)) (turn:Nat) (used:Nat):St:=⟨([J,.rsl (rowI plan) 0 plan.length,.rsl (rowI ds) 0 ds.length,.int .i64 d,.ptr 0 0 0]++jj 5 ([.int .i64 (used:Int),.ptr 1 0 0,.int .i64 (turn:Int),J,J,.int .i64 rest]++Js 71)),[⟨true,0,1,true,[.rsl (Qd s.stages) 0 s.stages.length,.rsl (rowI s.worth) 0 s.worth.length,.int .i64 s.price],false⟩,⟨true,0,1,true,[.int .i64 v1_0,.int .i64 v1_1,.rsl (Qk v1_2) 0 v1_2.length],false⟩]⟩
def f103G2 (E:Env) (s:Stl) (plan:(List Int)) (ds:(List Int)) (d:Int) (rest:Int) (v1_0:Int) (v1_1:Int) (v1_2:(List Trn)) (turn:Nat) (used:Nat):Prop:=G Try.prog E (f103K2 Try.prog) (f103S2 s plan ds d rest v1_0 v1_1 v1_2 turn used )
abbrev yh (s:Stl):List AV:=[.rsl (Qd s.stages) 0 s.stages.length,.rsl (rowI s.worth) 0 s.worth.length,.int .i64 s.price]
abbrev z103_2 (se:Stg):List AV:=[.int .i64 se.kind,.int .i64 se.prize,.rsl (Qk se.turns) 0 se.turns.length]
abbrev z103_3 (plan:(List Int)) (ds:(List Int)) (d:Int):List AV:=[J,.rsl (rowI plan) 0 plan.length,.rsl (rowI ds) 0 ds.length,.int .i64 d,.ptr 0 0 0]
abbrev z103_4 (s:Stl) (v1_0:Int) (v1_1:Int) (v1_2:(List Trn)):List Blk:=[⟨true,0,1,true,(yh s),false⟩,⟨true,0,1,true,[.int .i64 v1_0,.int .i64 v1_1,.rsl (Qk v1_2) 0 v1_2.length],false⟩]
theorem p103_start_0 (s:Stl) (plan:(List Int)) (ds:(List Int)) (d:Int) {E:Env} {rv:AV} (hE:Qf Try.prog 103 rv E) (ho:AllP [])
 (hg:G Try.prog E (qy Try.prog) ⟨([J,.rsl (rowI plan) 0 plan.length,.rsl (rowI ds) 0 ds.length,.int .i64 d,.ptr 0 0 0,J,J,J,J,.int .i64 0,.int .i64 0]++Js 76),[⟨true,0,1,true,(yh s),false⟩]⟩):G Try.prog E [.code (Qe Try.prog 103)] ⟨[.agg (yh s),.rsl (rowI plan) 0 plan.length,.rsl (rowI ds) 0 ds.length,.int .i64 d]++unds (Try.f103.ntmps - 4),[]⟩ :=
 Qh (n:=400) (ds:=[]) (cs:=[]) (live:=[1,2,3,4,9,10]) (m:=1) (evs:=[.stop]) (obs:=_) hE.2.1 (hE.nogh _) Qi (by kernel_rfl) ho hg
theorem f103W (s:Stl) (plan:(List Int)) (ds:(List Int)) (d:Int) {E:Env} {rv:Bool} (hE:Qf Try.prog 103 (.bool rv) E)
 (h:f103G0 E s plan ds d 0 0):G Try.prog E [.code (Qe Try.prog 103)] ⟨[.agg [.rsl (Qd s.stages) 0 s.stages.length,.rsl (rowI s.worth) 0 s.worth.length,.int .i64 s.price],.rsl (rowI plan) 0 plan.length,.rsl (rowI ds) 0 ds.length,.int .i64 d]++unds (Try.f103.ntmps - 4),[]⟩:=by
 exact p103_start_0 s plan ds d hE trivial h
theorem p103_0_0 (s:Stl) (plan:(List Int)) (ds:(List Int)) (d:Int) (at_:Int) (used:Nat) (se:Stg) (e:Int) {E:Env} {rv:AV} (hE:Qf Try.prog 103 rv E) (ho:AllP [0≤at_∧at_<(s.stages.length:Int),((Qd s.stages).drop ((0+(Int.toNat at_)*3)+0)).take 1=[.int .i64 se.kind],(se.kind != 4)=true,0≤at_∧at_<(s.stages.length:Int),((Qd s.stages).drop (0+(Int.toNat at_)*3)).take 3=(z103_2 se),3≤3,0≤at_∧at_<(plan.length:Int),((rowI plan).drop (0+(Int.toNat at_)*1)).take 1=[.int .i64 e],(se.kind == 1)=true])
 (hg:G Try.prog E (yK Try.prog) ⟨((z103_3 plan ds d)++jj 5 ([.int .i64 (used:Int),.ptr 1 0 0,J,.int .i64 0,.int .i64 0]++Js 72)),[⟨true,0,1,true,(yh s),false⟩,⟨true,0,1,true,(z103_2 se),false⟩]⟩):G Try.prog E (qy Try.prog) (f103S0 s plan ds d at_ used ) :=
 Qh (n:=400) (ds:=[]) (cs:=[]) (live:=[1,2,3,4,10,11,13,14]) (m:=2) (evs:=[.auto,.ld (.int .i64 se.kind),.b true,.auto,.ld (.agg (z103_2 se)),.ld (.int .i64 e),.b true,.stop]) (obs:=_) hE.2.1 (hE.nogh _) Qi (by kernel_rfl) ho hg
theorem p103_0_1 (s:Stl) (plan:(List Int)) (ds:(List Int)) (d:Int) (at_:Int) (used:Nat) (se:Stg) (e:Int) (te:Trn) {E:Env} {rv:AV} (hE:Qf Try.prog 103 rv E) (ho:AllP [0≤at_∧at_<(s.stages.length:Int),((Qd s.stages).drop ((0+(Int.toNat at_)*3)+0)).take 1=[.int .i64 se.kind],(se.kind != 4)=true,0≤at_∧at_<(s.stages.length:Int),((Qd s.stages).drop (0+(Int.toNat at_)*3)).take 3=(z103_2 se),3≤3,0≤at_∧at_<(plan.length:Int),((rowI plan).drop (0+(Int.toNat at_)*1)).take 1=[.int .i64 e],(se.kind == 1)=false,0≤e∧e<(se.turns.length:Int),((Qk se.turns).drop ((0+(Int.toNat e)*2)+1)).take 1=[.int .i64 te.to]])
 (hg:G Try.prog E (qy Try.prog) ⟨([J,.rsl (rowI plan) 0 plan.length,.rsl (rowI ds) 0 ds.length,.int .i64 d,.ptr 0 0 0,J,J,J,J,.int .i64 te.to,.int .i64 (used:Int)]++Js 76),[⟨true,0,1,true,(yh s),false⟩]⟩):G Try.prog E (qy Try.prog) (f103S0 s plan ds d at_ used ) :=
 Qh (n:=400) (ds:=[]) (cs:=[]) (live:=[1,2,3,4,9,10]) (m:=1) (evs:=[.auto,.ld (.int .i64 se.kind),.b true,.auto,.ld (.agg (z103_2 se)),.ld (.int .i64 e),.b false,.auto,.ld (.int .i64 te.to),.stop]) (obs:=_) hE.2.1 (hE.nogh _) Qi (by kernel_rfl) ho hg
theorem p103_0_2 (s:Stl) (plan:(List Int)) (ds:(List Int)) (d:Int) (at_:Int) (used:Nat) (se:Stg) {E:Env} {res:AV} (hE:Qf Try.prog 103 res E) (ho:AllP [0≤at_∧at_<(s.stages.length:Int),((Qd s.stages).drop ((0+(Int.toNat at_)*3)+0)).take 1=[.int .i64 se.kind],(se.kind != 4)=false])
 (hr:AvLe (.bool false) res):G Try.prog E (qy Try.prog) (f103S0 s plan ds d at_ used ) :=
 Qc (n:=400) (evs:=[.auto,.ld (.int .i64 se.kind),.b false]) (obs:=_) hE Try.func103 Qi (by kernel_rfl) ho hr
theorem f103W0 (s:Stl) (plan:(List Int)) (ds:(List Int)) (d:Int) (at_:Int) (used:Nat) {E:Env} {rv:Bool} (hE:Qf Try.prog 103 (.bool rv) E)
 (h:(0≤at_∧(∃ se:Stg,s.stages[Int.toNat at_]?=some se∧((¬ (se.kind=4)→(0≤at_∧(∃ e:Int,plan[Int.toNat at_]?=some e∧((se.kind=1→f103G1 E s plan ds d se.kind se.prize se.turns 0 0 used)∧(¬ (se.kind=1)→(0≤e∧(∃ te:Trn,se.turns[Int.toNat e]?=some te∧f103G0 E s plan ds d te.to used)))))))∧(se.kind=4→rv=false))))):f103G0 E s plan ds d at_ used:=by
 obtain ⟨h2,h⟩:=h
 obtain ⟨se,h1,h⟩:=h
 rcases bft (se.kind != 4) with hc0 | hc0
 · have h:=h.1 (bneT hc0)
   obtain ⟨h4,h⟩:=h
   obtain ⟨e,h3,h⟩:=h
   rcases bft (se.kind == 1) with hc1 | hc1
   · have h:=h.1 (eq_of_beq hc1)
     exact p103_0_0 s plan ds d at_ used se e hE ⟨(Qj h2 h1),(rp cStg 3 0 1 h1),hc0,(Qj h2 h1),(rp cStg 3 0 3 h1),(by decide),(Qj h4 h3),(rp cI 1 0 1 h3),hc1,trivial⟩ h
   · have h:=h.2 (ne_of_beq_false hc1)
     obtain ⟨h6,h⟩:=h
     obtain ⟨te,h5,h⟩:=h
     exact p103_0_1 s plan ds d at_ used se e te hE ⟨(Qj h2 h1),(rp cStg 3 0 1 h1),hc0,(Qj h2 h1),(rp cStg 3 0 3 h1),(by decide),(Qj h4 h3),(rp cI 1 0 1 h3),hc1,(Qj h6 h5),(rp cTrn 2 1 1 h5),trivial⟩ h
 · have h:=h.2 (bneF hc0)
   exact p103_0_2 s plan ds d at_ used se hE ⟨(Qj h2 h1),(rp cStg 3 0 1 h1),hc0,trivial⟩ (AvLe.of_eq (by rw [h]; try rfl))
theorem p103_1_0 (s:Stl) (plan:(List Int)) (ds:(List Int)) (d:Int) (v1_0:Int) (v1_1:Int) (v1_2:(List Trn)) (total:Int) (k:Nat) (used:Nat) (te:Trn) {E:Env} {rv:AV} (hE:Qf Try.prog 103 rv E) (ho:AllP [(decide ((k:Int)<(v1_2.length:Int)))=true,0≤(k:Int)∧(k:Int)<(v1_2.length:Int),((Qk v1_2).drop ((0+(Int.toNat (k:Int))*2)+0)).take 1=[.int .i64 te.w],InR .i64 (total+te.w),InR .i64 ((k:Int)+1)])
 (hg:G Try.prog E (yK Try.prog) ⟨((z103_3 plan ds d)++jj 5 ([.int .i64 (used:Int),.ptr 1 0 0,J,.int .i64 (total+te.w),.int .i64 ((k:Int)+1)]++Js 72)),(z103_4 s v1_0 v1_1 v1_2)⟩):G Try.prog E (yK Try.prog) (f103S1 s plan ds d v1_0 v1_1 v1_2 total k used ) :=
 Qh (n:=400) (ds:=[]) (cs:=[]) (live:=[1,2,3,4,10,11,13,14]) (m:=2) (evs:=[.b true,.auto,.ld (.int .i64 te.w),.stop]) (obs:=_) hE.2.1 (hE.nogh _) Qi (by kernel_rfl) ho hg
theorem p103_1_1 (s:Stl) (plan:(List Int)) (ds:(List Int)) (d:Int) (v1_0:Int) (v1_1:Int) (v1_2:(List Trn)) (total:Int) (k:Nat) (used:Nat) {E:Env} {res:AV} (hE:Qf Try.prog 103 res E) (ho:AllP [(decide ((k:Int)<(v1_2.length:Int)))=false,((used:Int) == (ds.length:Int))=true])
 (hr:AvLe (.bool (decide (d<total))) res):G Try.prog E (yK Try.prog) (f103S1 s plan ds d v1_0 v1_1 v1_2 total k used ) :=
 Qc (n:=400) (evs:=[.b false,.b true]) (obs:=_) hE Try.func103 Qi (by kernel_rfl) ho hr
theorem p103_1_2 (s:Stl) (plan:(List Int)) (ds:(List Int)) (d:Int) (v1_0:Int) (v1_1:Int) (v1_2:(List Trn)) (total:Int) (k:Nat) (used:Nat) (e:Int) {E:Env} {rv:AV} (hE:Qf Try.prog 103 rv E) (ho:AllP [(decide ((k:Int)<(v1_2.length:Int)))=false,((used:Int) == (ds.length:Int))=false,0≤(used:Int)∧(used:Int)<(ds.length:Int),((rowI ds).drop (0+(Int.toNat (used:Int))*1)).take 1=[.int .i64 e]])
 (hg:G Try.prog E (f103K2 Try.prog) ⟨((z103_3 plan ds d)++jj 5 ([.int .i64 (used:Int),.ptr 1 0 0,.int .i64 0,J,J,.int .i64 e]++Js 71)),(z103_4 s v1_0 v1_1 v1_2)⟩):G Try.prog E (yK Try.prog) (f103S1 s plan ds d v1_0 v1_1 v1_2 total k used ) :=
 Qh (n:=400) (ds:=[]) (cs:=[]) (live:=[1,2,3,4,10,11,12,15]) (m:=2) (evs:=[.b false,.b false,.ld (.int .i64 e),.stop]) (obs:=_) hE.2.1 (hE.nogh _) Qi (by kernel_rfl) ho hg
theorem f103W1 (s:Stl) (plan:(List Int)) (ds:(List Int)) (d:Int) (v1_0:Int) (v1_1:Int) (v1_2:(List Trn)) (total:Int) (k:Nat) (used:Nat) {E:Env} {rv:Bool} (hE:Qf Try.prog 103 (.bool rv) E)
 (h:(((k:Int)<(v1_2.length:Int)→(∃ te:Trn,v1_2[k]?=some te∧((I6 (total+te.w))∧((I6 ((k:Int)+1))∧f103G1 E s plan ds d v1_0 v1_1 v1_2 (total+te.w) (k+1) used))))∧(¬ ((k:Int)<(v1_2.length:Int))→(((used:Int)=(ds.length:Int)→rv=(decide (d<total)))∧(¬ ((used:Int)=(ds.length:Int))→(∃ e:Int,ds[used]?=some e∧f103G2 E s plan ds d e v1_0 v1_1 v1_2 0 used)))))):f103G1 E s plan ds d v1_0 v1_1 v1_2 total k used:=by
 rcases bft (decide ((k:Int)<(v1_2.length:Int))) with hc0 | hc0
 · have h:=h.1 (odt hc0)
   obtain ⟨te,h1,h⟩:=h
   obtain ⟨q4_1,h⟩:=h
   obtain ⟨q5_1,h⟩:=h
   exact p103_1_0 s plan ds d v1_0 v1_1 v1_2 total k used te hE ⟨hc0,(Qn h1),(rp cTrn 2 0 1 h1),q4_1,q5_1,trivial⟩ h
 · have h:=h.2 (odf hc0)
   rcases bft ((used:Int) == (ds.length:Int)) with hc1 | hc1
   · have h:=h.1 (eq_of_beq hc1)
     exact p103_1_1 s plan ds d v1_0 v1_1 v1_2 total k used hE ⟨hc0,hc1,trivial⟩ (AvLe.of_eq (by rw [h]; try rfl))
   · have h:=h.2 (ne_of_beq_false hc1)
     obtain ⟨e,h1,h⟩:=h
     exact p103_1_2 s plan ds d v1_0 v1_1 v1_2 total k used e hE ⟨hc0,hc1,(Qn h1),(rp cI 1 0 1 h1),trivial⟩ h
theorem p103_2_0 (s:Stl) (plan:(List Int)) (ds:(List Int)) (d:Int) (rest:Int) (v1_0:Int) (v1_1:Int) (v1_2:(List Trn)) (turn:Nat) (used:Nat) (te:Trn) {E:Env} {rv:AV} (hE:Qf Try.prog 103 rv E) (ho:AllP [0≤(turn:Int)∧(turn:Int)<(v1_2.length:Int),((Qk v1_2).drop ((0+(Int.toNat (turn:Int))*2)+0)).take 1=[.int .i64 te.w],(decide (rest≥te.w))=true,0≤(turn:Int)∧(turn:Int)<(v1_2.length:Int),((Qk v1_2).drop ((0+(Int.toNat (turn:Int))*2)+0)).take 1=[.int .i64 te.w],InR .i64 (rest - te.w),InR .i64 ((turn:Int)+1)])
 (hg:G Try.prog E (f103K2 Try.prog) ⟨((z103_3 plan ds d)++jj 5 ([.int .i64 (used:Int),.ptr 1 0 0,.int .i64 ((turn:Int)+1),J,J,.int .i64 (rest - te.w)]++Js 71)),(z103_4 s v1_0 v1_1 v1_2)⟩):G Try.prog E (f103K2 Try.prog) (f103S2 s plan ds d rest v1_0 v1_1 v1_2 turn used ) :=
 Qh (n:=400) (ds:=[]) (cs:=[]) (live:=[1,2,3,4,10,11,12,15]) (m:=2) (evs:=[.auto,.ld (.int .i64 te.w),.b true,.auto,.ld (.int .i64 te.w),.stop]) (obs:=_) hE.2.1 (hE.nogh _) Qi (by kernel_rfl) ho hg
theorem p103_2_1 (s:Stl) (plan:(List Int)) (ds:(List Int)) (d:Int) (rest:Int) (v1_0:Int) (v1_1:Int) (v1_2:(List Trn)) (turn:Nat) (used:Nat) (te:Trn) {E:Env} {rv:AV} (hE:Qf Try.prog 103 rv E) (ho:AllP [0≤(turn:Int)∧(turn:Int)<(v1_2.length:Int),((Qk v1_2).drop ((0+(Int.toNat (turn:Int))*2)+0)).take 1=[.int .i64 te.w],(decide (rest≥te.w))=false,InR .i64 ((used:Int)+1),0≤(turn:Int)∧(turn:Int)<(v1_2.length:Int),((Qk v1_2).drop ((0+(Int.toNat (turn:Int))*2)+1)).take 1=[.int .i64 te.to]])
 (hg:G Try.prog E (qy Try.prog) ⟨([J,.rsl (rowI plan) 0 plan.length,.rsl (rowI ds) 0 ds.length,.int .i64 d,.ptr 0 0 0,J,J,J,J,.int .i64 te.to,.int .i64 ((used:Int)+1)]++Js 76),[⟨true,0,1,true,(yh s),false⟩]⟩):G Try.prog E (f103K2 Try.prog) (f103S2 s plan ds d rest v1_0 v1_1 v1_2 turn used ) :=
 Qh (n:=400) (ds:=[]) (cs:=[]) (live:=[1,2,3,4,9,10]) (m:=1) (evs:=[.auto,.ld (.int .i64 te.w),.b false,.auto,.ld (.int .i64 te.to),.stop]) (obs:=_) hE.2.1 (hE.nogh _) Qi (by kernel_rfl) ho hg
theorem f103W2 (s:Stl) (plan:(List Int)) (ds:(List Int)) (d:Int) (rest:Int) (v1_0:Int) (v1_1:Int) (v1_2:(List Trn)) (turn:Nat) (used:Nat) {E:Env} {rv:Bool} (hE:Qf Try.prog 103 (.bool rv) E)
 (h:(∃ te:Trn,v1_2[turn]?=some te∧((rest≥te.w→((I6 (rest - te.w))∧((I6 ((turn:Int)+1))∧f103G2 E s plan ds d (rest - te.w) v1_0 v1_1 v1_2 (turn+1) used)))∧(¬ (rest≥te.w)→((I6 ((used:Int)+1))∧f103G0 E s plan ds d te.to (used+1)))))):f103G2 E s plan ds d rest v1_0 v1_1 v1_2 turn used:=by
 obtain ⟨te,h1,h⟩:=h
 rcases bft (decide (rest≥te.w)) with hc0 | hc0
 · have h:=h.1 (odt hc0)
   obtain ⟨q6_1,h⟩:=h
   obtain ⟨q7_1,h⟩:=h
   exact p103_2_0 s plan ds d rest v1_0 v1_1 v1_2 turn used te hE ⟨(Qn h1),(rp cTrn 2 0 1 h1),hc0,(Qn h1),(rp cTrn 2 0 1 h1),q6_1,q7_1,trivial⟩ h
 · have h:=h.2 (odf hc0)
   obtain ⟨q4_1,h⟩:=h
   exact p103_2_1 s plan ds d rest v1_0 v1_1 v1_2 turn used te hE ⟨(Qn h1),(rp cTrn 2 0 1 h1),hc0,q4_1,(Qn h1),(rp cTrn 2 1 1 h1),trivial⟩ h
theorem able_ok (s:Stl) (plan ds:List Int) (d:Int) (h:(DOk s plan∧XX s plan s.stages.length 0 ds)∧0≤d):Pure Try.prog 103 [avStl s,.rsl (rowI plan) 0 plan.length,.rsl (rowI ds) 0 ds.length,.int .i64 d] (.bool (decide (d<Yl s plan ds))):=Qq Try.func103 f103b fun E hE=>by
 obtain ⟨⟨hd,hg⟩,h0⟩:=h
 have hlen:=hd.len
 have gl:=WL hg
 have key:∀ (n:Nat) (a:Int) (used:Nat),0≤a→a<(s.stages.length:Int)→used≤ds.length→XX s plan n a (ds.drop used)→QQ s plan ds=QI s plan n a (ds.drop used)→f103G0 E s plan ds d a used:=by
  intro n
  induction n with
  | zero=>intro a used a0 a1 hu hg he; exact hg.elim
  | succ n ih =>
   intro a used a0 a1 hu hg he
   have hi:=Vp a0 a1
   unfold XX at hg
   unfold QI at he
   obtain ⟨e,hpe,he0,he1⟩:=(YP hd.hp).2 _ _ hi
   refine f103W0 s plan ds d a used (rv:=decide (d<Yl s plan ds)) hE ⟨a0,_,hi,fun k4=>⟨a0,e,hpe,fun k1=>?_,fun k1=>?_⟩,fun k4=>?_⟩
   · rw [if_neg k4,if_pos k1] at hg he
     have htt:=YI hi (hd.forms _ (by omega))
     have htb:=htt.2 k1
     have htl:=htt.1.1
     have tot:∀ (m k:Nat) (total:Int),k+m=(stgA s a).turns.length→total=(((stgA s a).turns.take k).map (·.w)).sum→f103G1 E s plan ds d (stgA s a).kind (stgA s a).prize (stgA s a).turns total k used:=by
      intro m
      induction m with
      | zero =>
       intro k total hk ht
       rw [List.take_of_length_le (by omega)] at ht
       have ht:total=totI (stgA s a):=ht
       refine f103W1 s plan ds d _ _ _ total k used (rv:=decide (d<Yl s plan ds)) hE ⟨fun h=>by omega,fun _=>⟨fun hu'=>?_,fun hu'=>?_⟩⟩
       · rw [List.drop_eq_nil_of_le (by omega)] at he
         rw [Yl,he,if_neg k4,ht]
       · have hx:ds[used]?=some (ds[used]'(by omega)):=List.getElem?_eq_getElem (by omega)
         rw [List.drop_eq_getElem_cons (by omega)] at hg he
         generalize ds[used]'(by omega)=x at hx hg he
         simp only at hg he
         have hnd:=hd.nD a0 a1 hg.1.1 hg.1.2
         refine ⟨x,hx,?_⟩
         have loop:∀ (m k:Nat) (left:Int),k+m=(stgA s a).turns.length→0≤left→left≤1000→left<(((stgA s a).turns.drop k).map (·.w)).sum→Vj ((stgA s a).turns.drop k) left=Vj (stgA s a).turns x→f103G2 E s plan ds d left (stgA s a).kind (stgA s a).prize (stgA s a).turns k used:=by
          intro m
          induction m with
          | zero =>
           intro k left hk hl0 hlb hl1 hdr
           rw [List.drop_eq_nil_of_le (by omega)] at hl1; simp at hl1; omega
          | succ m ih2 =>
           intro k left hk hl0 hlb hl1 hdr
           have hkk:(stgA s a).turns[k]?=some ((stgA s a).turns[k]'(by omega)):=List.getElem?_eq_getElem (by omega)
           rw [List.drop_eq_getElem_cons (by omega)] at hl1 hdr
           simp only [List.map_cons,List.sum_cons,Vj] at hl1 hdr
           generalize (stgA s a).turns[k]'(by omega)=te at hkk hl1 hdr
           have hw:=htt.1.2 te (List.mem_of_getElem? hkk)
           refine f103W2 s plan ds d left _ _ _ k used (rv:=decide (d<Yl s plan ds)) hE ⟨te,hkk,fun hge=>⟨by omega,by omega,?_⟩,fun hlt=>⟨by omega,?_⟩⟩
           · rw [if_pos hge] at hdr
             exact ih2 (k+1) (left - te.w) (by omega) (by omega) (by omega) (by omega) hdr
           · rw [if_neg hlt] at hdr
             have en:nxtD s a x=te.to:=by rw [nxtD,← hdr]
             rw [en] at hg he hnd
             exact ih te.to (used+1) (by omega) (by omega) (by omega) hg.2 he
         exact loop (stgA s a).turns.length 0 x (by omega) hg.1.1 (by omega) (by rw [List.drop_zero]; exact hg.1.2) (by rw [List.drop_zero])
      | succ m ihm =>
       intro k total hk ht
       have hkk:(stgA s a).turns[k]?=some ((stgA s a).turns[k]'(by omega)):=List.getElem?_eq_getElem (by omega)
       generalize (stgA s a).turns[k]'(by omega)=te at hkk
       have hw:=htt.1.2 te (List.mem_of_getElem? hkk)
       have hb:=WX (l:=(stgA s a).turns.take k) (B:=1000000) fun t ht=>htt.1.2 t (List.mem_of_mem_take ht)
       have hl:(((stgA s a).turns.take k).length:Int)≤1000:=by rw [List.length_take]; omega
       have nx:=ihm (k+1) (total+te.w) (by omega) (by rw [sum_take hkk,ht])
       have htb1:0≤total∧total≤1000000000:=by rw [ht]; omega
       exact f103W1 s plan ds d _ _ _ total k used (rv:=decide (d<Yl s plan ds)) hE ⟨fun _=>⟨te,hkk,by omega,by omega,nx⟩,fun h=>by omega⟩
     exact tot _ 0 0 (Nat.zero_add _) (by simp)
   · rw [if_neg k4,if_neg k1] at hg he
     obtain ⟨t,ht,e2,t1,t2⟩:=hd.nP a0 a1 k4 k1
     have hpi:Qx plan a=e:=by simp [Qx,List.getD,hpe]
     rw [hpi] at ht
     rw [e2] at hg he
     exact ⟨he0,t,ht,ih t.to used (by omega) t2 hu hg he⟩
   · rw [if_pos k4] at he
     rw [Yl,he,if_pos k4]
     simp; omega
 exact f103W s plan ds d (rv:=decide (d<Yl s plan ds)) hE (key s.stages.length 0 0 (by omega) (by omega) (by omega) (by rw [List.drop_zero]; exact hg) (by rw [List.drop_zero]; rfl))
theorem f52b:Try.f52.body=some (Qe Try.prog 52):=by kernel_rfl
def f52K0 (P:Program):List Item:=kAt 400 [.code (Qe P 52)] [.b false,.b false,.stop]
def f52S0 (s:Stl) (plan:(List Int)) (ds:(List Int)) (part:Int) (kd:Int) (b:Int) (f:Nat) (many:Nat) (draw:Nat):St:=⟨([J,.rsl (rowI plan) 0 plan.length,.rsl (rowI ds) 0 ds.length,.int .i64 part,.int .i64 kd,.ptr 0 0 0,.ptr 1 0 0]++jj 10 ([.int .i64 0,.int .i64 (many:Int),.int .i64 (draw:Int)]++Js 74)),[⟨true,0,1,true,[.int .i64 (b - 1)],false⟩,⟨true,0,1,true,[.rsl (Qd s.stages) 0 s.stages.length,.rsl (rowI s.worth) 0 s.worth.length,.int .i64 s.price],false⟩]⟩
def f52G0 (E:Env) (s:Stl) (plan:(List Int)) (ds:(List Int)) (part:Int) (kd:Int) (b:Int) (f:Nat) (many:Nat) (draw:Nat):Prop:=G Try.prog E (f52K0 Try.prog) (f52S0 s plan ds part kd b f many draw )
def f52K1 (P:Program):List Item:=kAt 400 [.code (Qe P 52)] [.b false,.b false,.b true,.b false,.stop]
def f52S1 (s:Stl) (plan:(List Int)) (ds:(List Int)) (part:Int) (kd:Int) (b:Int) (f:Nat) (many:Nat) (sum:Int) (draw:Nat) (v0_0:Int):St:=⟨([J,.rsl (rowI plan) 0 plan.length,.rsl (rowI ds) 0 ds.length,.int .i64 part,.int .i64 kd,.ptr 0 0 0,.ptr 1 0 0]++jj 10 ([.int .i64 sum,.int .i64 (many:Int),J,.int .i64 (draw:Int)]++Js 73)),[⟨true,0,1,true,[.int .i64 v0_0],false⟩,⟨true,0,1,true,[.rsl (Qd s.stages) 0 s.stages.length,.rsl (rowI s.worth) 0 s.worth.length,.int .i64 s.price],false⟩]⟩
def f52G1 (E:Env) (s:Stl) (plan:(List Int)) (ds:(List Int)) (part:Int) (kd:Int) (b:Int) (f:Nat) (many:Nat) (sum:Int) (draw:Nat) (v0_0:Int):Prop:=G Try.prog E (f52K1 Try.prog) (f52S1 s plan ds part kd b f many sum draw v0_0 )
abbrev z52_1 (s:Stl):List AV:=[.rsl (Qd s.stages) 0 s.stages.length,.rsl (rowI s.worth) 0 s.worth.length,.int .i64 s.price]
abbrev qL (s:Stl) (plan:(List Int)) (ds:(List Int)):AV:=.tup [.rsl (rowI ((QZ s plan ds).1)) 0 (((QZ s plan ds).1).length),.int .i64 ((QZ s plan ds).2.1),.int .i64 ((QZ s plan ds).2.2)]
abbrev z52_3 (s:Stl) (plan:(List Int)) (ds:(List Int)) (part:Int) (kd:Int):List AV:=[.agg (z52_1 s),.rsl (rowI plan) 0 plan.length,.rsl (rowI ds) 0 ds.length,.int .i64 part,.int .i64 kd,.ptr 0 0 0]
abbrev z52_4 (b:Int):List Blk:=[⟨true,0,1,true,[.int .i64 (b - 1)],false⟩]
abbrev z52_5 (s:Stl) (plan:(List Int)) (ds:(List Int)):List AV:=[.agg (z52_1 s),.rsl (rowI plan) 0 plan.length,.rsl (rowI ds) 0 ds.length]
abbrev z52_6 (b:Int) (s:Stl):List Blk:=[⟨true,0,1,true,[.int .i64 (b - 1)],false⟩,⟨true,0,1,true,(z52_1 s),false⟩]
abbrev z52_7 (plan:(List Int)) (ds:(List Int)) (part:Int) (kd:Int):List AV:=[J,.rsl (rowI plan) 0 plan.length,.rsl (rowI ds) 0 ds.length,.int .i64 part,.int .i64 kd,.ptr 0 0 0,.ptr 1 0 0]
theorem p52_start_0 (s:Stl) (plan:(List Int)) (ds:(List Int)) (part:Int) (kd:Int) (b:Int) (f:Nat) {E:Env} {res:AV} {bs2:List Blk} (hE:LentE Try.prog 52 [.sl 0 0 0 0 1] res bs2 E) (ho:AllP [InR .i64 (b - 1),1≤1,(decide ((b - 1)<0))=true])
 (hr:(.tup [.int .i64 0,.bool true])=res) (hb:(z52_4 b)=bs2):G Try.prog E [.code (Qe Try.prog 52)] ⟨(z52_3 s plan ds part kd)++unds (Try.f52.ntmps - 6),[⟨true,0,1,true,[.int .i64 b],false⟩]⟩ :=
 Xz (n:=400) (live:=[12,13]) (m:=1) (evs:=[.b true]) (obs:=_) hE (hE.nogh (by kernel_rfl)) Try.func52 Qi (by kernel_rfl) ho hr hb
theorem p52_start_1 (s:Stl) (plan:(List Int)) (ds:(List Int)) (part:Int) (kd:Int) (b:Int) (f:Nat) {E:Env} {res:AV} {bs2:List Blk} (hE:LentE Try.prog 52 [.sl 0 0 0 0 1] res bs2 E) (ho:AllP [InR .i64 (b - 1),1≤1,(decide ((b - 1)<0))=false,Qg Try.prog (.clos 45 [] []) (z52_5 s plan ds) (qL s plan ds),((QZ s plan ds).2.2 == 0)=true,(((((QZ s plan ds).1).length:Nat):Int) == 0)=true,true=true])
 (hr:(.tup [.int .i64 0,.bool false])=res) (hb:(z52_4 b)=bs2):G Try.prog E [.code (Qe Try.prog 52)] ⟨(z52_3 s plan ds part kd)++unds (Try.f52.ntmps - 6),[⟨true,0,1,true,[.int .i64 b],false⟩]⟩ :=
 Xz (n:=400) (live:=[12,13]) (m:=1) (evs:=[.b false,.v (qL s plan ds),.b true,.b true,.b true]) (obs:=_) hE (hE.nogh (by kernel_rfl)) Try.func52 Qi (by kernel_rfl) ho hr hb
theorem p52_start_2 (s:Stl) (plan:(List Int)) (ds:(List Int)) (part:Int) (kd:Int) (b:Int) (f:Nat) (e:Int) {E:Env} {res:AV} {bs2:List Blk} (hE:LentE Try.prog 52 [.sl 0 0 0 0 1] res bs2 E) (ho:AllP [InR .i64 (b - 1),1≤1,(decide ((b - 1)<0))=false,Qg Try.prog (.clos 45 [] []) (z52_5 s plan ds) (qL s plan ds),((QZ s plan ds).2.2 == 0)=true,(((((QZ s plan ds).1).length:Nat):Int) == 0)=false,(0:Int)≤0∧(0:Int)<((((QZ s plan ds).1).length:Nat):Int),((rowI ((QZ s plan ds).1)).drop (0+0*1)).take 1=[.int .i64 e],(e != 0)=true])
 (hr:(.tup [.int .i64 0,.bool false])=res) (hb:(z52_4 b)=bs2):G Try.prog E [.code (Qe Try.prog 52)] ⟨(z52_3 s plan ds part kd)++unds (Try.f52.ntmps - 6),[⟨true,0,1,true,[.int .i64 b],false⟩]⟩ :=
 Xz (n:=400) (live:=[12,13]) (m:=1) (evs:=[.b false,.v (qL s plan ds),.b true,.b false,.ld (.int .i64 e),.b true]) (obs:=_) hE (hE.nogh (by kernel_rfl)) Try.func52 Qi (by kernel_rfl) ho hr hb
theorem p52_start_3 (s:Stl) (plan:(List Int)) (ds:(List Int)) (part:Int) (kd:Int) (b:Int) (f:Nat) (e:Int) {E:Env} {res:AV} {bs2:List Blk} (hE:LentE Try.prog 52 [.sl 0 0 0 0 1] res bs2 E) (ho:AllP [InR .i64 (b - 1),1≤1,(decide ((b - 1)<0))=false,Qg Try.prog (.clos 45 [] []) (z52_5 s plan ds) (qL s plan ds),((QZ s plan ds).2.2 == 0)=true,(((((QZ s plan ds).1).length:Nat):Int) == 0)=false,(0:Int)≤0∧(0:Int)<((((QZ s plan ds).1).length:Nat):Int),((rowI ((QZ s plan ds).1)).drop (0+0*1)).take 1=[.int .i64 e],(e != 0)=false,((QZ s plan ds).2.1 == kd)=true])
 (hr:(.tup [.int .i64 part,.bool true])=res) (hb:(z52_4 b)=bs2):G Try.prog E [.code (Qe Try.prog 52)] ⟨(z52_3 s plan ds part kd)++unds (Try.f52.ntmps - 6),[⟨true,0,1,true,[.int .i64 b],false⟩]⟩ :=
 Xz (n:=400) (live:=[12,13]) (m:=1) (evs:=[.b false,.v (qL s plan ds),.b true,.b false,.ld (.int .i64 e),.b false,.b true]) (obs:=_) hE (hE.nogh (by kernel_rfl)) Try.func52 Qi (by kernel_rfl) ho hr hb
theorem p52_start_4 (s:Stl) (plan:(List Int)) (ds:(List Int)) (part:Int) (kd:Int) (b:Int) (f:Nat) (e:Int) {E:Env} {res:AV} {bs2:List Blk} (hE:LentE Try.prog 52 [.sl 0 0 0 0 1] res bs2 E) (ho:AllP [InR .i64 (b - 1),1≤1,(decide ((b - 1)<0))=false,Qg Try.prog (.clos 45 [] []) (z52_5 s plan ds) (qL s plan ds),((QZ s plan ds).2.2 == 0)=true,(((((QZ s plan ds).1).length:Nat):Int) == 0)=false,(0:Int)≤0∧(0:Int)<((((QZ s plan ds).1).length:Nat):Int),((rowI ((QZ s plan ds).1)).drop (0+0*1)).take 1=[.int .i64 e],(e != 0)=false,((QZ s plan ds).2.1 == kd)=false])
 (hr:(.tup [.int .i64 0,.bool true])=res) (hb:(z52_4 b)=bs2):G Try.prog E [.code (Qe Try.prog 52)] ⟨(z52_3 s plan ds part kd)++unds (Try.f52.ntmps - 6),[⟨true,0,1,true,[.int .i64 b],false⟩]⟩ :=
 Xz (n:=400) (live:=[12,13]) (m:=1) (evs:=[.b false,.v (qL s plan ds),.b true,.b false,.ld (.int .i64 e),.b false,.b false]) (obs:=_) hE (hE.nogh (by kernel_rfl)) Try.func52 Qi (by kernel_rfl) ho hr hb
theorem p52_start_5 (s:Stl) (plan:(List Int)) (ds:(List Int)) (part:Int) (kd:Int) (b:Int) (f:Nat) {E:Env} {rv:AV} {bs2:List Blk} (hE:LentE Try.prog 52 [.sl 0 0 0 0 1] rv bs2 E) (ho:AllP [InR .i64 (b - 1),1≤1,(decide ((b - 1)<0))=false,Qg Try.prog (.clos 45 [] []) (z52_5 s plan ds) (qL s plan ds),((QZ s plan ds).2.2 == 0)=false])
 (hg:G Try.prog E (f52K0 Try.prog) ⟨((z52_7 plan ds part kd)++jj 10 ([.int .i64 0,.int .i64 0,.int .i64 0]++Js 74)),(z52_6 b s)⟩):G Try.prog E [.code (Qe Try.prog 52)] ⟨(z52_3 s plan ds part kd)++unds (Try.f52.ntmps - 6),[⟨true,0,1,true,[.int .i64 b],false⟩]⟩ :=
 Qh (n:=400) (ds:=[]) (cs:=[]) (live:=[1,2,3,4,5,6,17,18,19]) (m:=2) (evs:=[.b false,.v (qL s plan ds),.b false,.stop]) (obs:=_) hE.kind (hE.nogh (by kernel_rfl)) Qi (by kernel_rfl) ho hg
theorem f52W (s:Stl) (plan:(List Int)) (ds:(List Int)) (part:Int) (kd:Int) (b:Int) (f:Nat) {E:Env} {rv:(Int × Bool)} {b2:Int} (hE:LentE Try.prog 52 [.sl 0 0 0 0 1] (.tup [.int .i64 rv.1,.bool rv.2]) [⟨true,0,1,true,[.int .i64 b2],false⟩] E)
 (h:((I6 (b - 1))∧(((b - 1)<0→rv=(0,true)∧b2=(b - 1))∧(¬ ((b - 1)<0)→((s.stages.length≤9223372036854775807∧s.worth.length≤9223372036854775807)∧(((QZ s plan ds).2.2=0→((((((QZ s plan ds).1).length:Nat):Int)=0→rv=(0,false)∧b2=(b - 1))∧(¬ (((((QZ s plan ds).1).length:Nat):Int)=0)→(∃ e:Int,((QZ s plan ds).1)[0]?=some e∧((¬ (e=0)→rv=(0,false)∧b2=(b - 1))∧(e=0→(((QZ s plan ds).2.1=kd→rv=(part,true)∧b2=(b - 1))∧(¬ ((QZ s plan ds).2.1=kd)→rv=(0,true)∧b2=(b - 1)))))))))∧(¬ ((QZ s plan ds).2.2=0)→f52G0 E s plan ds part kd b f 0 0))))))):G Try.prog E [.code (Qe Try.prog 52)] ⟨[.agg [.rsl (Qd s.stages) 0 s.stages.length,.rsl (rowI s.worth) 0 s.worth.length,.int .i64 s.price],.rsl (rowI plan) 0 plan.length,.rsl (rowI ds) 0 ds.length,.int .i64 part,.int .i64 kd,.ptr 0 0 0]++unds (Try.f52.ntmps - 6),[⟨true,0,1,true,[.int .i64 b],false⟩]⟩:=by
 obtain ⟨q0_0,h⟩:=h
 rcases bft (decide ((b - 1)<0)) with hc0 | hc0
 · have h:=h.1 (odt hc0)
   obtain ⟨qe0,qe1⟩:=h
   exact p52_start_0 s plan ds part kd b f hE ⟨q0_0,(by decide),hc0,trivial⟩ (by rw [qe0]; try rfl) (by rw [qe1]; all_goals (first | rfl | (simp only [List.length_set]; done) | (simp only [List.length_set]; rfl)))
 · have h:=h.2 (odf hc0)
   obtain ⟨h1,h⟩:=h
   rcases bft ((QZ s plan ds).2.2 == 0) with hc1 | hc1
   · have h:=h.1 (eq_of_beq hc1)
     rcases bft (((((QZ s plan ds).1).length:Nat):Int) == 0) with hc2 | hc2
     · have h:=h.1 (eq_of_beq hc2)
       obtain ⟨qe0,qe1⟩:=h
       exact p52_start_1 s plan ds part kd b f hE ⟨q0_0,(by decide),hc0,(u45 (qc s plan ds h1)),hc1,hc2,rfl,trivial⟩ (by rw [qe0]; try rfl) (by rw [qe1]; all_goals (first | rfl | (simp only [List.length_set]; done) | (simp only [List.length_set]; rfl)))
     · have h:=h.2 (ne_of_beq_false hc2)
       obtain ⟨e,h2,h⟩:=h
       rcases bft (e != 0) with hc3 | hc3
       · have h:=h.1 (bneT hc3)
         obtain ⟨qe0,qe1⟩:=h
         exact p52_start_2 s plan ds part kd b f e hE ⟨q0_0,(by decide),hc0,(u45 (qc s plan ds h1)),hc1,hc2,(Qn h2),(rp cI 1 0 1 h2),hc3,trivial⟩ (by rw [qe0]; try rfl) (by rw [qe1]; all_goals (first | rfl | (simp only [List.length_set]; done) | (simp only [List.length_set]; rfl)))
       · have h:=h.2 (bneF hc3)
         rcases bft ((QZ s plan ds).2.1 == kd) with hc4 | hc4
         · have h:=h.1 (eq_of_beq hc4)
           obtain ⟨qe0,qe1⟩:=h
           exact p52_start_3 s plan ds part kd b f e hE ⟨q0_0,(by decide),hc0,(u45 (qc s plan ds h1)),hc1,hc2,(Qn h2),(rp cI 1 0 1 h2),hc3,hc4,trivial⟩ (by rw [qe0]; try rfl) (by rw [qe1]; all_goals (first | rfl | (simp only [List.length_set]; done) | (simp only [List.length_set]; rfl)))
         · have h:=h.2 (ne_of_beq_false hc4)
           obtain ⟨qe0,qe1⟩:=h
           exact p52_start_4 s plan ds part kd b f e hE ⟨q0_0,(by decide),hc0,(u45 (qc s plan ds h1)),hc1,hc2,(Qn h2),(rp cI 1 0 1 h2),hc3,hc4,trivial⟩ (by rw [qe0]; try rfl) (by rw [qe1]; all_goals (first | rfl | (simp only [List.length_set]; done) | (simp only [List.length_set]; rfl)))
   · have h:=h.2 (ne_of_beq_false hc1)
     exact p52_start_5 s plan ds part kd b f hE ⟨q0_0,(by decide),hc0,(u45 (qc s plan ds h1)),hc1,trivial⟩ h
theorem p52_0_0 (s:Stl) (plan:(List Int)) (ds:(List Int)) (part:Int) (kd:Int) (b:Int) (f:Nat) (many:Nat) (draw:Nat) {E:Env} {res:AV} {bs2:List Blk} (hE:LentE Try.prog 52 [.sl 0 0 0 0 1] res bs2 E) (ho:AllP [Qg Try.prog (.clos 103 [] []) [.agg (z52_1 s),.rsl (rowI plan) 0 plan.length,.rsl (rowI ds) 0 ds.length,.int .i64 (draw:Int)] (.bool (decide ((draw:Int)<Yl s plan ds))),(!(decide ((draw:Int)<Yl s plan ds)))=true,((many:Int) == 0)=true])
 (hr:(.tup [.int .i64 0,.bool false])=res) (hb:(z52_4 b)=bs2):G Try.prog E (f52K0 Try.prog) (f52S0 s plan ds part kd b f many draw ) :=
 Xz (n:=400) (live:=[12,13]) (m:=1) (evs:=[.v (.bool (decide ((draw:Int)<Yl s plan ds))),.b true,.b true]) (obs:=_) hE (hE.nogh (by kernel_rfl)) Try.func52 Qi (by kernel_rfl) ho hr hb
theorem p52_0_1 (s:Stl) (plan:(List Int)) (ds:(List Int)) (part:Int) (kd:Int) (b:Int) (f:Nat) (many:Nat) (draw:Nat) {E:Env} {rv:AV} {bs2:List Blk} (hE:LentE Try.prog 52 [.sl 0 0 0 0 1] rv bs2 E) (ho:AllP [Qg Try.prog (.clos 103 [] []) [.agg (z52_1 s),.rsl (rowI plan) 0 plan.length,.rsl (rowI ds) 0 ds.length,.int .i64 (draw:Int)] (.bool (decide ((draw:Int)<Yl s plan ds))),(!(decide ((draw:Int)<Yl s plan ds)))=true,((many:Int) == 0)=false])
 (hg:G Try.prog E (f52K1 Try.prog) ⟨((z52_7 plan ds part kd)++jj 10 ([.int .i64 0,.int .i64 (many:Int),J,.int .i64 0]++Js 73)),(z52_6 b s)⟩):G Try.prog E (f52K0 Try.prog) (f52S0 s plan ds part kd b f many draw ) :=
 Qh (n:=400) (ds:=[]) (cs:=[]) (live:=[1,2,3,4,5,6,17,18,20]) (m:=2) (evs:=[.v (.bool (decide ((draw:Int)<Yl s plan ds))),.b true,.b false,.stop]) (obs:=_) hE.kind (hE.nogh (by kernel_rfl)) Qi (by kernel_rfl) ho hg
theorem p52_0_2 (s:Stl) (plan:(List Int)) (ds:(List Int)) (part:Int) (kd:Int) (b:Int) (f:Nat) (many:Nat) (draw:Nat) {E:Env} {rv:AV} {bs2:List Blk} (hE:LentE Try.prog 52 [.sl 0 0 0 0 1] rv bs2 E) (ho:AllP [Qg Try.prog (.clos 103 [] []) [.agg (z52_1 s),.rsl (rowI plan) 0 plan.length,.rsl (rowI ds) 0 ds.length,.int .i64 (draw:Int)] (.bool (decide ((draw:Int)<Yl s plan ds))),(!(decide ((draw:Int)<Yl s plan ds)))=false,InR .i64 ((many:Int)+1),InR .i64 ((draw:Int)+1)])
 (hg:G Try.prog E (f52K0 Try.prog) ⟨((z52_7 plan ds part kd)++jj 10 ([.int .i64 0,.int .i64 ((many:Int)+1),.int .i64 ((draw:Int)+1)]++Js 74)),(z52_6 b s)⟩):G Try.prog E (f52K0 Try.prog) (f52S0 s plan ds part kd b f many draw ) :=
 Qh (n:=400) (ds:=[]) (cs:=[]) (live:=[1,2,3,4,5,6,17,18,19]) (m:=2) (evs:=[.v (.bool (decide ((draw:Int)<Yl s plan ds))),.b false,.stop]) (obs:=_) hE.kind (hE.nogh (by kernel_rfl)) Qi (by kernel_rfl) ho hg
theorem f52W0 (s:Stl) (plan:(List Int)) (ds:(List Int)) (part:Int) (kd:Int) (b:Int) (f:Nat) (many:Nat) (draw:Nat) {E:Env} {rv:(Int × Bool)} {b2:Int} (hE:LentE Try.prog 52 [.sl 0 0 0 0 1] (.tup [.int .i64 rv.1,.bool rv.2]) [⟨true,0,1,true,[.int .i64 b2],false⟩] E)
 (h:(((DOk s plan∧XX s plan s.stages.length 0 ds)∧0≤(draw:Int))∧((¬ ((draw:Int)<Yl s plan ds)→(((many:Int)=0→rv=(0,false)∧b2=(b - 1))∧(¬ ((many:Int)=0)→f52G1 E s plan ds part kd b f many 0 0 (b - 1))))∧((draw:Int)<Yl s plan ds→((I6 ((many:Int)+1))∧((I6 ((draw:Int)+1))∧f52G0 E s plan ds part kd b f (many+1) (draw+1))))))):f52G0 E s plan ds part kd b f many draw:=by
 obtain ⟨h1,h⟩:=h
 rcases bft (!(decide ((draw:Int)<Yl s plan ds))) with hc0 | hc0
 · have h:=h.1 (odf (bnT hc0))
   rcases bft ((many:Int) == 0) with hc1 | hc1
   · have h:=h.1 (eq_of_beq hc1)
     obtain ⟨qe0,qe1⟩:=h
     exact p52_0_0 s plan ds part kd b f many draw hE ⟨(u103 (able_ok s plan ds (draw:Int) h1)),hc0,hc1,trivial⟩ (by rw [qe0]; try rfl) (by rw [qe1]; all_goals (first | rfl | (simp only [List.length_set]; done) | (simp only [List.length_set]; rfl)))
   · have h:=h.2 (ne_of_beq_false hc1)
     exact p52_0_1 s plan ds part kd b f many draw hE ⟨(u103 (able_ok s plan ds (draw:Int) h1)),hc0,hc1,trivial⟩ h
 · have h:=h.2 (odt (bnF hc0))
   obtain ⟨q2_1,h⟩:=h
   obtain ⟨q3_1,h⟩:=h
   exact p52_0_2 s plan ds part kd b f many draw hE ⟨(u103 (able_ok s plan ds (draw:Int) h1)),hc0,q2_1,q3_1,trivial⟩ h
theorem p52_1_0 (s:Stl) (plan:(List Int)) (ds:(List Int)) (part:Int) (kd:Int) (b:Int) (f:Nat) (many:Nat) (sum:Int) (draw:Nat) (v0_0:Int) {E:Env} {rv:AV} {bs2:List Blk} (hE:LentE Try.prog 52 [.sl 0 0 0 0 1] rv bs2 E) (ho:AllP [(decide ((draw:Int)<(many:Int)))=true,ds.length≤2147483648,((rowI ds).drop 0).take (ds.length*1)=(rowI ds),(rowI ds).length=(ds.length*1),noRefs (rowI ds)=true,1=1,0=0,(0+(ds.length*1))=(rowI ds).length,(ds.length+1)≤2147483648,0=0,InR .i64 (Int.tdiv part (many:Int)),(many:Int) ≠ 0,PureU Try.prog (.clos 52 [] []) [.agg [.rsl (Qd s.stages) 0 s.stages.length,.rsl (rowI s.worth) 0 s.worth.length,.int .i64 s.price],.rsl (rowI plan) 0 plan.length,.rsl ((rowI ds)++[.int .i64 (draw:Int)]) 0 (ds.length+1),.int .i64 (Int.tdiv part (many:Int)),.int .i64 kd,.ptr 0 0 0] 0 ⟨true,0,1,true,[.int .i64 v0_0],false⟩ ⟨true,0,1,true,[.int .i64 ((LF s plan kd f (ds++[(draw:Int)]) (Int.tdiv part (many:Int)) v0_0).2)],false⟩ (.tup [.int .i64 ((LF s plan kd f (ds++[(draw:Int)]) (Int.tdiv part (many:Int)) v0_0).1),.bool true]),false=false,InR .i64 (sum+(LF s plan kd f (ds++[(draw:Int)]) (Int.tdiv part (many:Int)) v0_0).1),InR .i64 ((draw:Int)+1)])
 (hg:G Try.prog E (f52K1 Try.prog) ⟨([J,.rsl (rowI plan) 0 plan.length,.rsl (rowI ds) 0 ds.length,.int .i64 part,.int .i64 kd,.ptr 0 0 0,.ptr 1 0 0]++jj 10 ([.int .i64 (sum+(LF s plan kd f (ds++[(draw:Int)]) (Int.tdiv part (many:Int)) v0_0).1),.int .i64 (many:Int),J,.int .i64 ((draw:Int)+1)]++Js 73)),[⟨true,0,1,true,[.int .i64 ((LF s plan kd f (ds++[(draw:Int)]) (Int.tdiv part (many:Int)) v0_0).2)],false⟩,⟨true,0,1,true,[.rsl (Qd s.stages) 0 s.stages.length,.rsl (rowI s.worth) 0 s.worth.length,.int .i64 s.price],false⟩]⟩):G Try.prog E (f52K1 Try.prog) (f52S1 s plan ds part kd b f many sum draw v0_0 ) :=
 Qh (n:=400) (ds:=[]) (cs:=[]) (live:=[1,2,3,4,5,6,17,18,20]) (m:=2) (evs:=[.b true,.cs (rowI ds),.fz,.lent [0] (.tup [.int .i64 ((LF s plan kd f (ds++[(draw:Int)]) (Int.tdiv part (many:Int)) v0_0).1),.bool true]) [⟨true,0,1,true,[.int .i64 ((LF s plan kd f (ds++[(draw:Int)]) (Int.tdiv part (many:Int)) v0_0).2)],false⟩],.b false,.stop]) (obs:=_) hE.kind (hE.nogh (by kernel_rfl)) Qi (by kernel_rfl) ho hg
theorem p52_1_1 (s:Stl) (plan:(List Int)) (ds:(List Int)) (part:Int) (kd:Int) (b:Int) (f:Nat) (many:Nat) (sum:Int) (draw:Nat) (v0_0:Int) {E:Env} {res:AV} {bs2:List Blk} (hE:LentE Try.prog 52 [.sl 0 0 0 0 1] res bs2 E) (ho:AllP [(decide ((draw:Int)<(many:Int)))=false])
 (hr:(.tup [.int .i64 sum,.bool true])=res) (hb:[⟨true,0,1,true,[.int .i64 v0_0],false⟩]=bs2):G Try.prog E (f52K1 Try.prog) (f52S1 s plan ds part kd b f many sum draw v0_0 ) :=
 Xz (n:=400) (live:=[12,13]) (m:=1) (evs:=[.b false]) (obs:=_) hE (hE.nogh (by kernel_rfl)) Try.func52 Qi (by kernel_rfl) ho hr hb
theorem f52W1 (s:Stl) (plan:(List Int)) (ds:(List Int)) (part:Int) (kd:Int) (b:Int) (f:Nat) (many:Nat) (sum:Int) (draw:Nat) (v0_0:Int) {E:Env} {rv:(Int × Bool)} {b2:Int} (hE:LentE Try.prog 52 [.sl 0 0 0 0 1] (.tup [.int .i64 rv.1,.bool rv.2]) [⟨true,0,1,true,[.int .i64 b2],false⟩] E)
 (h:(((draw:Int)<(many:Int)→(ds.length≤2147483648∧((ds.length+1)≤2147483648∧((I6 (Int.tdiv part (many:Int)))∧((many:Int) ≠ 0∧((LOk s plan kd f∧LArg s plan f (ds++[(draw:Int)]) (Int.tdiv part (many:Int)) v0_0)∧((I6 (sum+(LF s plan kd f (ds++[(draw:Int)]) (Int.tdiv part (many:Int)) v0_0).1))∧((I6 ((draw:Int)+1))∧f52G1 E s plan ds part kd b f many (sum+(LF s plan kd f (ds++[(draw:Int)]) (Int.tdiv part (many:Int)) v0_0).1) (draw+1) ((LF s plan kd f (ds++[(draw:Int)]) (Int.tdiv part (many:Int)) v0_0).2)))))))))∧(¬ ((draw:Int)<(many:Int))→rv=(sum,true)∧b2=v0_0))):f52G1 E s plan ds part kd b f many sum draw v0_0:=by
 rcases bft (decide ((draw:Int)<(many:Int))) with hc0 | hc0
 · have h:=h.1 (odt hc0)
   obtain ⟨h1,h⟩:=h
   obtain ⟨h2,h⟩:=h
   obtain ⟨q10_1,h⟩:=h
   obtain ⟨q11_1,h⟩:=h
   obtain ⟨h3,h⟩:=h
   obtain ⟨q14_1,h⟩:=h
   obtain ⟨q15_1,h⟩:=h
   exact p52_1_0 s plan ds part kd b f many sum draw v0_0 hE ⟨hc0,h1,(by exact row_all cI (fun _=>rfl) ds),(by exact XL cI (fun _=>rfl) ds),(by exact row_nr cI (fun _=>rfl) ds),rfl,rfl,(by have hx:=XL cI (s:=1) (fun _=>rfl) ds; simp only [rowI] at hx ⊢; rw [hx]; simp),h2,rfl,q10_1,q11_1,(Yc (by rw [(show AV.rsl ((rowI ds)++[.int .i64 (draw:Int)]) 0 (ds.length+1)=AV.rsl (rowI (ds++[(draw:Int)])) 0 (ds++[(draw:Int)]).length from by rw [(show rowI ds++[.int .i64 (draw:Int)]=rowI (ds++[(draw:Int)]) from (YO cI ds [(draw:Int)]).symm)]; rw [show (ds.length+1)=(ds++[(draw:Int)]).length from by simp])]; exact (YW Try.func52 (by kernel_rfl) f52b (h3.1 _ _ _ h3.2))) rfl rfl rfl rfl rfl rfl),rfl,q14_1,q15_1,trivial⟩ h
 · have h:=h.2 (odf hc0)
   obtain ⟨qe0,qe1⟩:=h
   exact p52_1_1 s plan ds part kd b f many sum draw v0_0 hE ⟨hc0,trivial⟩ (by rw [qe0]; try rfl) (by rw [qe1]; all_goals (first | rfl | (simp only [List.length_set]; done) | (simp only [List.length_set]; rfl)))
theorem lists_ok {s:Stl} {plan:List Int} {kd:Int} (hd:DOk s plan) (hl:s.stages.length≤9223372036854775807∧s.worth.length≤9223372036854775807):∀ f:Nat,f≤2000→LOk s plan kd f:=by
 intro f
 induction f with
 | zero =>
  intro _ ds part b ⟨hg,hp,hb⟩
  refine lent_of _ Try.func52 f52b rfl rfl fun E hE=>?_
  exact f52W s plan ds part kd b 0 (rv:=((LF s plan kd 0 ds part b).1,true)) (b2:=(LF s plan kd 0 ds part b).2) hE ⟨by omega,fun h1=>⟨rfl,rfl⟩,fun h1=>by omega⟩
 | succ f ih =>
 intro hf ds part b ⟨hg,hp,hb⟩
 have ih:=ih (by omega)
 refine lent_of _ Try.func52 f52b rfl rfl fun E hE=>?_
 have hlen:=hd.len
 have gl:=WL hg
 obtain ⟨⟨w0,w1⟩,wk⟩:=WC hd (by omega) (by omega) hg
 rw [show QI s plan s.stages.length 0 ds=QQ s plan ds from rfl] at w0 w1 wk
 obtain ⟨p4,p1⟩:=qd hd (n:=s.stages.length) (a:=0) (v:=[]) (ds:=ds) (by omega) (by omega) hg
 rw [show QI s plan s.stages.length 0 ds=QQ s plan ds from rfl] at p4 p1
 have hpk:QZ s plan ds=Ys s plan s.stages.length 0 [] ds:=by rw [QZ,if_pos (planE_dok hd)]
 rw [← hpk] at p4 p1
 have eLF:LF s plan kd (f+1) ds part b=if b - 1<0 then (0,b - 1) else
  if (stgA s (QQ s plan ds)).kind=4 then (if (stgA s (QQ s plan ds)).prize=kd then part else 0,b - 1)
  else LS (LF s plan kd f) ds (Int.tdiv part (totI (stgA s (QQ s plan ds)))) (b - 1) (Int.toNat (totI (stgA s (QQ s plan ds)))):=rfl
 by_cases k4:(stgA s (QQ s plan ds)).kind=4
 · obtain ⟨e2,r,e1⟩:=p4 k4
   have e1:(QZ s plan ds).1=0 :: r:=by rw [e1]; rfl
   refine f52W s plan ds part kd b f (rv:=((LF s plan kd (f+1) ds part b).1,true)) (b2:=(LF s plan kd (f+1) ds part b).2) hE ⟨by omega,fun h1=>by rw [eLF,if_pos h1]; exact ⟨rfl,rfl⟩,fun h1=>⟨hl,fun _=>⟨fun hc=>by rw [e1] at hc; simp only [List.length_cons] at hc; omega,fun _=>⟨0,by rw [e1]; rfl,fun hc=>absurd rfl hc,fun _=>⟨fun hc=>?_,fun hc=>?_⟩⟩⟩,fun hc=>absurd (by rw [e2]) hc⟩⟩
   · rw [e2] at hc
     rw [eLF,if_neg h1,if_pos k4,if_pos hc]; exact ⟨rfl,rfl⟩
   · rw [e2] at hc
     rw [eLF,if_neg h1,if_pos k4,if_neg hc]; exact ⟨rfl,rfl⟩
 · have ep:=p1 k4
   have k1:=wk.resolve_left k4
   have ht:=hd.tot w0 w1 k1
   refine f52W s plan ds part kd b f (rv:=((LF s plan kd (f+1) ds part b).1,true)) (b2:=(LF s plan kd (f+1) ds part b).2) hE ⟨by omega,fun h1=>by rw [eLF,if_pos h1]; exact ⟨rfl,rfl⟩,fun h1=>⟨hl,fun hc=>by rw [ep] at hc; simp at hc,fun _=>?_⟩⟩
   rw [if_neg h1,if_neg k4] at eLF
   have hlack:Yl s plan ds=totI (stgA s (QQ s plan ds)):=by rw [Yl,if_neg k4]
   obtain ⟨T,hT⟩:∃ T:Nat,totI (stgA s (QQ s plan ds))=(T:Int):=⟨Int.toNat (totI (stgA s (QQ s plan ds))),by omega⟩
   have hsnoc:=fun (k:Nat) (hk:(k:Int)<totI (stgA s (QQ s plan ds)))=>(YU hd (n:=s.stages.length) (m:=s.stages.length) (a:=0) (ds:=ds) (d:=(k:Int)) (by omega) (by omega) (by omega) hg k1 (by omega) hk (by
    have:=hd.nD w0 w1 (show (0:Int)≤(k:Int) by omega) hk
    show (s.stages.length:Int)≤nxtD s (QQ s plan ds) _+_; omega)).1
   rw [hT] at hlack ht eLF hsnoc
   rw [Int.toNat_natCast] at eLF
   have hq0:0≤Int.tdiv part (T:Int):=Int.tdiv_nonneg hp.1 (by omega)
   have hq1:Int.tdiv part (T:Int)≤part:=by rw [Int.tdiv_eq_ediv_of_nonneg hp.1]; exact Int.ediv_le_self _ hp.1
   have bd:=LS_bd hq0 (L:=LF s plan kd f) (ds:=ds) (b:=b - 1) (fun ds' b'=>LF_bd f ds' _ b' hq0)
   have lo:=LS_lo (L:=LF s plan kd f) (ds:=ds) (q:=Int.tdiv part (T:Int)) (b:=b - 1) (c:=801*(f:Int)) (by omega) (by omega) (fun ds' b'=>LF_lo hd.tot8 f ds' _ b')
   have draws:∀ (m k:Nat),k+m=T→f52G1 E s plan ds part kd b f T (LS (LF s plan kd f) ds (Int.tdiv part (T:Int)) (b - 1) k).1 k (LS (LF s plan kd f) ds (Int.tdiv part (T:Int)) (b - 1) k).2:=by
    intro m
    induction m with
    | zero =>
     intro k hk
     have:k=T:=by omega
     subst this
     exact f52W1 s plan ds part kd b f k _ k _ (rv:=((LF s plan kd (f+1) ds part b).1,true)) (b2:=(LF s plan kd (f+1) ds part b).2) hE ⟨fun h=>by omega,fun _=>by rw [eLF]; exact ⟨rfl,rfl⟩⟩
    | succ m ihm =>
     intro k hk
     have b1:=bd (k+1)
     have b0:=bd k
     have l0:=lo k
     have mu:((k+1:Nat):Int)*Int.tdiv part (T:Int)≤800*Int.tdiv part (T:Int):=Int.mul_le_mul_of_nonneg_right (by omega) hq0
     have nx:=ihm (k+1) (by omega)
     have s1:(-9223372036854775808≤(LS (LF s plan kd f) ds (Int.tdiv part (T:Int)) (b - 1) (k+1)).1∧(LS (LF s plan kd f) ds (Int.tdiv part (T:Int)) (b - 1) (k+1)).1≤9223372036854775807):=by omega
     have a1:LArg s plan f (ds++[(k:Int)]) (Int.tdiv part (T:Int)) (LS (LF s plan kd f) ds (Int.tdiv part (T:Int)) (b - 1) k).2:=⟨hsnoc k (by omega),⟨hq0,by omega⟩,by omega⟩
     exact f52W1 s plan ds part kd b f T _ k _ (rv:=((LF s plan kd (f+1) ds part b).1,true)) (b2:=(LF s plan kd (f+1) ds part b).2) hE ⟨fun _=>⟨by omega,by omega,by omega,by omega,⟨ih,a1⟩,s1,by omega,nx⟩,fun h=>by omega⟩
   have count:∀ (m k:Nat),k+m=T→f52G0 E s plan ds part kd b f k k:=by
    intro m
    induction m with
    | zero =>
     intro k hk
     have:k=T:=by omega
     subst this
     exact f52W0 s plan ds part kd b f k k (rv:=((LF s plan kd (f+1) ds part b).1,true)) (b2:=(LF s plan kd (f+1) ds part b).2) hE ⟨⟨⟨hd,hg⟩,by omega⟩,fun _=>⟨fun h=>by omega,fun _=>draws k 0 (by omega)⟩,fun h=>by omega⟩
    | succ m ihm =>
     intro k hk
     exact f52W0 s plan ds part kd b f k k (rv:=((LF s plan kd (f+1) ds part b).1,true)) (b2:=(LF s plan kd (f+1) ds part b).2) hE ⟨⟨⟨hd,hg⟩,by omega⟩,fun h=>by omega,fun _=>⟨by omega,by omega,ihm (k+1) (by omega)⟩⟩
   exact count T 0 (by omega)
theorem qp (s:Stl) (plan:List Int) (kd part b:Int) (h:NArg s plan kd part b):Lent Try.prog 52 [avStl s,.rsl (rowI plan) 0 plan.length,.nilSl,.int .i64 part,.int .i64 kd,.ptr 0 0 0] [⟨true,0,1,true,[.int .i64 b],false⟩]
 (.tup [.int .i64 (LF s plan kd 2000 [] part b).1,.bool true]) [⟨true,0,1,true,[.int .i64 (LF s plan kd 2000 [] part b).2],false⟩]:=by
 obtain ⟨he,hl,hp,hb⟩:=h
 have hd:=dok_of he
 have hg:XX s plan s.stages.length 0 []:=WK hd (by omega) (by have:=hd.len; omega) (by omega)
 exact lent_le (lists_ok (kd:=kd) hd hl 2000 (by omega) [] part b ⟨hg,hp,by omega⟩) ⟨.inl rfl,.inl rfl,.inr ⟨rfl,rfl⟩,.inl rfl,.inl rfl,.inl rfl,trivial⟩
theorem f13b:Try.f13.body=some (Qe Try.prog 13):=by kernel_rfl
abbrev VH (s:Stl):List AV:=[.rsl (Qd s.stages) 0 s.stages.length,.rsl (rowI s.worth) 0 s.worth.length,.int .i64 s.price]
abbrev qQ (s:Stl):AV:=.tup [.rsl (rowI ((QO (QL s)).1)) 0 (((QO (QL s)).1).length),.bool ((QO (QL s)).2)]
abbrev qP (s:Stl) (plan:(List Int)):AV:=.tup [.rsl (YJ ((Qp s plan).1)) 0 (((Qp s plan).1).length),.int .i64 ((Qp s plan).2)]
abbrev VG (s:Stl) (plan:(List Int)):List AV:=[.agg (VH s),.rsl (rowI plan) 0 plan.length]
abbrev z13_5 (s:Stl) (plan:(List Int)) (k:Int):List AV:=[.agg (VH s),.rsl (rowI plan) 0 plan.length,.int .i64 k]
abbrev z13_6 (s:Stl) (plan:(List Int)) (k:Int) (e:Int):AV:=.tup [.int .i64 ((LF s plan k 2000 [] e 2000).1),.bool true]
theorem p13_start_0 (s:Stl) (plan:(List Int)) (k:Int) {E:Env} {res:AV} (hE:Qf Try.prog 13 res E) (ho:AllP [Qg Try.prog (.clos 30 [] []) (VG s plan) (.int .i64 (QK s plan)),((QK s plan) != 0)=true,true=true,true=true,Qg Try.prog (.clos 20 [] []) [] (.bool true)])
 (hr:AvLe (.bool true) res):G Try.prog E [.code (Qe Try.prog 13)] ⟨(z13_5 s plan k)++unds (Try.f13.ntmps - 3),[]⟩ :=
 Qc (n:=400) (evs:=[.v (.int .i64 (QK s plan)),.b true,.b true,.b true,.v (.bool true)]) (obs:=_) hE Try.func13 Qi (by kernel_rfl) ho hr
theorem p13_start_1 (s:Stl) (plan:(List Int)) (k:Int) {E:Env} {res:AV} (hE:Qf Try.prog 13 res E) (ho:AllP [Qg Try.prog (.clos 30 [] []) (VG s plan) (.int .i64 (QK s plan)),((QK s plan) != 0)=false,(decide (k<0))=true,true=true,Qg Try.prog (.clos 20 [] []) [] (.bool true)])
 (hr:AvLe (.bool true) res):G Try.prog E [.code (Qe Try.prog 13)] ⟨(z13_5 s plan k)++unds (Try.f13.ntmps - 3),[]⟩ :=
 Qc (n:=400) (evs:=[.v (.int .i64 (QK s plan)),.b false,.b true,.b true,.v (.bool true)]) (obs:=_) hE Try.func13 Qi (by kernel_rfl) ho hr
theorem p13_start_2 (s:Stl) (plan:(List Int)) (k:Int) {E:Env} {res:AV} (hE:Qf Try.prog 13 res E) (ho:AllP [Qg Try.prog (.clos 30 [] []) (VG s plan) (.int .i64 (QK s plan)),((QK s plan) != 0)=false,(decide (k<0))=false,(decide (k≥(s.worth.length:Int)))=true,Qg Try.prog (.clos 20 [] []) [] (.bool true)])
 (hr:AvLe (.bool true) res):G Try.prog E [.code (Qe Try.prog 13)] ⟨(z13_5 s plan k)++unds (Try.f13.ntmps - 3),[]⟩ :=
 Qc (n:=400) (evs:=[.v (.int .i64 (QK s plan)),.b false,.b false,.b true,.v (.bool true)]) (obs:=_) hE Try.func13 Qi (by kernel_rfl) ho hr
theorem p13_start_3 (s:Stl) (plan:(List Int)) (k:Int) {E:Env} {res:AV} (hE:Qf Try.prog 13 res E) (ho:AllP [Qg Try.prog (.clos 30 [] []) (VG s plan) (.int .i64 (QK s plan)),((QK s plan) != 0)=false,(decide (k<0))=false,(decide (k≥(s.worth.length:Int)))=false,Qg Try.prog (.clos 40 [] []) (VG s plan) (qP s plan),Qg Try.prog (.clos 51 [] []) [.agg (VH s)] (qQ s),((Qp s plan).2 != 0)=true,true=true,true=true])
 (hr:AvLe (.bool false) res):G Try.prog E [.code (Qe Try.prog 13)] ⟨(z13_5 s plan k)++unds (Try.f13.ntmps - 3),[]⟩ :=
 Qc (n:=400) (evs:=[.v (.int .i64 (QK s plan)),.b false,.b false,.b false,.v (qP s plan),.v (qQ s),.b true,.b true,.b true]) (obs:=_) hE Try.func13 Qi (by kernel_rfl) ho hr
theorem p13_start_4 (s:Stl) (plan:(List Int)) (k:Int) {E:Env} {res:AV} (hE:Qf Try.prog 13 res E) (ho:AllP [Qg Try.prog (.clos 30 [] []) (VG s plan) (.int .i64 (QK s plan)),((QK s plan) != 0)=false,(decide (k<0))=false,(decide (k≥(s.worth.length:Int)))=false,Qg Try.prog (.clos 40 [] []) (VG s plan) (qP s plan),Qg Try.prog (.clos 51 [] []) [.agg (VH s)] (qQ s),((Qp s plan).2 != 0)=false,(((((Qp s plan).1).length:Nat):Int) != (s.worth.length:Int))=true,true=true])
 (hr:AvLe (.bool false) res):G Try.prog E [.code (Qe Try.prog 13)] ⟨(z13_5 s plan k)++unds (Try.f13.ntmps - 3),[]⟩ :=
 Qc (n:=400) (evs:=[.v (.int .i64 (QK s plan)),.b false,.b false,.b false,.v (qP s plan),.v (qQ s),.b false,.b true,.b true]) (obs:=_) hE Try.func13 Qi (by kernel_rfl) ho hr
theorem p13_start_5 (s:Stl) (plan:(List Int)) (k:Int) (fe:Fr) (e:Int) {E:Env} {res:AV} (hE:Qf Try.prog 13 res E) (ho:AllP [Qg Try.prog (.clos 30 [] []) (VG s plan) (.int .i64 (QK s plan)),((QK s plan) != 0)=false,(decide (k<0))=false,(decide (k≥(s.worth.length:Int)))=false,Qg Try.prog (.clos 40 [] []) (VG s plan) (qP s plan),Qg Try.prog (.clos 51 [] []) [.agg (VH s)] (qQ s),((Qp s plan).2 != 0)=false,(((((Qp s plan).1).length:Nat):Int) != (s.worth.length:Int))=false,0≤k∧k<((((Qp s plan).1).length:Nat):Int),((YJ ((Qp s plan).1)).drop (0+(Int.toNat k)*2)).take 2=[.int .i64 fe.num,.int .i64 fe.den],Qg Try.prog (.clos 32 [] []) [.agg (VH s),.agg [.int .i64 fe.num,.int .i64 fe.den]] (.bool true),false=false,1≤1,(0:Int)≤0∧(0:Int)<((((QO (QL s)).1).length:Nat):Int),((rowI ((QO (QL s)).1)).drop (0+0*1)).take 1=[.int .i64 e],PureU Try.prog (.clos 52 [] []) [.agg (VH s),.rsl (rowI plan) 0 plan.length,.nilSl,.int .i64 e,.int .i64 k,.ptr 1 0 0] 1 ⟨true,0,1,true,[.int .i64 2000],false⟩ ⟨true,0,1,true,[.int .i64 ((LF s plan k 2000 [] e 2000).2)],false⟩ (z13_6 s plan k e),(decide ((LF s plan k 2000 [] e 2000).2<0))=true,Qg Try.prog (.clos 20 [] []) [] (.bool true)])
 (hr:AvLe (.bool true) res):G Try.prog E [.code (Qe Try.prog 13)] ⟨(z13_5 s plan k)++unds (Try.f13.ntmps - 3),[]⟩ :=
 Qc (n:=400) (evs:=[.v (.int .i64 (QK s plan)),.b false,.b false,.b false,.v (qP s plan),.v (qQ s),.b false,.b false,.auto,.ld (.agg [.int .i64 fe.num,.int .i64 fe.den]),.v (.bool true),.b false,.auto,.ld (.int .i64 e),.lent [1] (z13_6 s plan k e) [⟨true,0,1,true,[.int .i64 ((LF s plan k 2000 [] e 2000).2)],false⟩],.b true,.v (.bool true)]) (obs:=_) hE Try.func13 Qi (by kernel_rfl) ho hr
theorem p13_start_6 (s:Stl) (plan:(List Int)) (k:Int) (fe:Fr) (e:Int) (fe1:Fr) (e1:Int) {E:Env} {res:AV} (hE:Qf Try.prog 13 res E) (ho:AllP [Qg Try.prog (.clos 30 [] []) (VG s plan) (.int .i64 (QK s plan)),((QK s plan) != 0)=false,(decide (k<0))=false,(decide (k≥(s.worth.length:Int)))=false,Qg Try.prog (.clos 40 [] []) (VG s plan) (qP s plan),Qg Try.prog (.clos 51 [] []) [.agg (VH s)] (qQ s),((Qp s plan).2 != 0)=false,(((((Qp s plan).1).length:Nat):Int) != (s.worth.length:Int))=false,0≤k∧k<((((Qp s plan).1).length:Nat):Int),((YJ ((Qp s plan).1)).drop (0+(Int.toNat k)*2)).take 2=[.int .i64 fe.num,.int .i64 fe.den],Qg Try.prog (.clos 32 [] []) [.agg (VH s),.agg [.int .i64 fe.num,.int .i64 fe.den]] (.bool true),false=false,1≤1,(0:Int)≤0∧(0:Int)<((((QO (QL s)).1).length:Nat):Int),((rowI ((QO (QL s)).1)).drop (0+0*1)).take 1=[.int .i64 e],PureU Try.prog (.clos 52 [] []) [.agg (VH s),.rsl (rowI plan) 0 plan.length,.nilSl,.int .i64 e,.int .i64 k,.ptr 1 0 0] 1 ⟨true,0,1,true,[.int .i64 2000],false⟩ ⟨true,0,1,true,[.int .i64 ((LF s plan k 2000 [] e 2000).2)],false⟩ (z13_6 s plan k e),(decide ((LF s plan k 2000 [] e 2000).2<0))=false,true=true,0≤k∧k<((((Qp s plan).1).length:Nat):Int),(0:Int)≤0∧(0:Int)<((2:Nat):Int),((YJ ((Qp s plan).1)).drop ((0+(Int.toNat k)*2)+0)).take 1=[.int .i64 fe1.num],(0:Int)≤0∧(0:Int)<((((QO (QL s)).1).length:Nat):Int),((rowI ((QO (QL s)).1)).drop (0+0*1)).take 1=[.int .i64 e1],0≤k∧k<((((Qp s plan).1).length:Nat):Int),(0:Int)≤1∧(1:Int)<((2:Nat):Int),((YJ ((Qp s plan).1)).drop ((0+(Int.toNat k)*2)+1)).take 1=[.int .i64 fe1.den],InR .i64 (Int.tdiv e1 fe1.den),fe1.den ≠ 0,InR .i64 (fe1.num*(Int.tdiv e1 fe1.den)),((LF s plan k 2000 [] e 2000).1 == (fe1.num*(Int.tdiv e1 fe1.den)))=true,Qg Try.prog (.clos 20 [] []) [] (.bool true)])
 (hr:AvLe (.bool true) res):G Try.prog E [.code (Qe Try.prog 13)] ⟨(z13_5 s plan k)++unds (Try.f13.ntmps - 3),[]⟩ :=
 Qc (n:=400) (evs:=[.v (.int .i64 (QK s plan)),.b false,.b false,.b false,.v (qP s plan),.v (qQ s),.b false,.b false,.auto,.ld (.agg [.int .i64 fe.num,.int .i64 fe.den]),.v (.bool true),.b false,.auto,.ld (.int .i64 e),.lent [1] (z13_6 s plan k e) [⟨true,0,1,true,[.int .i64 ((LF s plan k 2000 [] e 2000).2)],false⟩],.b false,.b true,.ld (.int .i64 fe1.num),.ld (.int .i64 e1),.ld (.int .i64 fe1.den),.b true,.v (.bool true)]) (obs:=_) hE Try.func13 Qi (by kernel_rfl) ho hr
theorem p13_start_7 (s:Stl) (plan:(List Int)) (k:Int) (fe:Fr) (e:Int) (fe1:Fr) (e1:Int) {E:Env} {res:AV} (hE:Qf Try.prog 13 res E) (ho:AllP [Qg Try.prog (.clos 30 [] []) (VG s plan) (.int .i64 (QK s plan)),((QK s plan) != 0)=false,(decide (k<0))=false,(decide (k≥(s.worth.length:Int)))=false,Qg Try.prog (.clos 40 [] []) (VG s plan) (qP s plan),Qg Try.prog (.clos 51 [] []) [.agg (VH s)] (qQ s),((Qp s plan).2 != 0)=false,(((((Qp s plan).1).length:Nat):Int) != (s.worth.length:Int))=false,0≤k∧k<((((Qp s plan).1).length:Nat):Int),((YJ ((Qp s plan).1)).drop (0+(Int.toNat k)*2)).take 2=[.int .i64 fe.num,.int .i64 fe.den],Qg Try.prog (.clos 32 [] []) [.agg (VH s),.agg [.int .i64 fe.num,.int .i64 fe.den]] (.bool true),false=false,1≤1,(0:Int)≤0∧(0:Int)<((((QO (QL s)).1).length:Nat):Int),((rowI ((QO (QL s)).1)).drop (0+0*1)).take 1=[.int .i64 e],PureU Try.prog (.clos 52 [] []) [.agg (VH s),.rsl (rowI plan) 0 plan.length,.nilSl,.int .i64 e,.int .i64 k,.ptr 1 0 0] 1 ⟨true,0,1,true,[.int .i64 2000],false⟩ ⟨true,0,1,true,[.int .i64 ((LF s plan k 2000 [] e 2000).2)],false⟩ (z13_6 s plan k e),(decide ((LF s plan k 2000 [] e 2000).2<0))=false,true=true,0≤k∧k<((((Qp s plan).1).length:Nat):Int),(0:Int)≤0∧(0:Int)<((2:Nat):Int),((YJ ((Qp s plan).1)).drop ((0+(Int.toNat k)*2)+0)).take 1=[.int .i64 fe1.num],(0:Int)≤0∧(0:Int)<((((QO (QL s)).1).length:Nat):Int),((rowI ((QO (QL s)).1)).drop (0+0*1)).take 1=[.int .i64 e1],0≤k∧k<((((Qp s plan).1).length:Nat):Int),(0:Int)≤1∧(1:Int)<((2:Nat):Int),((YJ ((Qp s plan).1)).drop ((0+(Int.toNat k)*2)+1)).take 1=[.int .i64 fe1.den],InR .i64 (Int.tdiv e1 fe1.den),fe1.den ≠ 0,InR .i64 (fe1.num*(Int.tdiv e1 fe1.den)),((LF s plan k 2000 [] e 2000).1 == (fe1.num*(Int.tdiv e1 fe1.den)))=false])
 (hr:AvLe (.bool false) res):G Try.prog E [.code (Qe Try.prog 13)] ⟨(z13_5 s plan k)++unds (Try.f13.ntmps - 3),[]⟩ :=
 Qc (n:=400) (evs:=[.v (.int .i64 (QK s plan)),.b false,.b false,.b false,.v (qP s plan),.v (qQ s),.b false,.b false,.auto,.ld (.agg [.int .i64 fe.num,.int .i64 fe.den]),.v (.bool true),.b false,.auto,.ld (.int .i64 e),.lent [1] (z13_6 s plan k e) [⟨true,0,1,true,[.int .i64 ((LF s plan k 2000 [] e 2000).2)],false⟩],.b false,.b true,.ld (.int .i64 fe1.num),.ld (.int .i64 e1),.ld (.int .i64 fe1.den),.b false]) (obs:=_) hE Try.func13 Qi (by kernel_rfl) ho hr
theorem f13W (s:Stl) (plan:(List Int)) (k:Int) {E:Env} {rv:Bool} (hE:Qf Try.prog 13 (.bool rv) E)
 (h:(((s.stages.length≤9223372036854775807∧s.worth.length≤9223372036854775807)∧plan.length≤9223372036854775807)∧((¬ ((QK s plan)=0)→rv=true)∧((QK s plan)=0→((k<0→rv=true)∧(¬ (k<0)→((k≥(s.worth.length:Int)→rv=true)∧(¬ (k≥(s.worth.length:Int))→((s.stages.length≤9223372036854775807∧s.worth.length≤9223372036854775807)∧((s.stages.length≤1000000∧∀ i,i<s.stages.length→QP s i=true)∧((¬ ((Qp s plan).2=0)→rv=false)∧((Qp s plan).2=0→((¬ (((((Qp s plan).1).length:Nat):Int)=(s.worth.length:Int))→rv=false)∧(((((Qp s plan).1).length:Nat):Int)=(s.worth.length:Int)→(0≤k∧(∃ fe:Fr,((Qp s plan).1)[Int.toNat k]?=some fe∧((Qy s=0∧FrOk s fe)∧(∃ e:Int,((QO (QL s)).1)[0]?=some e∧((NArg s plan k e 2000)∧(((LF s plan k 2000 [] e 2000).2<0→rv=true)∧(¬ ((LF s plan k 2000 [] e 2000).2<0)→(0≤k∧(∃ fe1:Fr,((Qp s plan).1)[Int.toNat k]?=some fe1∧(∃ e1:Int,((QO (QL s)).1)[0]?=some e1∧((I6 (Int.tdiv e1 fe1.den))∧(fe1.den ≠ 0∧((I6 (fe1.num*(Int.tdiv e1 fe1.den)))∧(((LF s plan k 2000 [] e 2000).1=(fe1.num*(Int.tdiv e1 fe1.den))→rv=true)∧(¬ ((LF s plan k 2000 [] e 2000).1=(fe1.num*(Int.tdiv e1 fe1.den)))→rv=false))))))))))))))))))))))))))))):G Try.prog E [.code (Qe Try.prog 13)] ⟨[.agg [.rsl (Qd s.stages) 0 s.stages.length,.rsl (rowI s.worth) 0 s.worth.length,.int .i64 s.price],.rsl (rowI plan) 0 plan.length,.int .i64 k]++unds (Try.f13.ntmps - 3),[]⟩:=by
 obtain ⟨h1,h⟩:=h
 rcases bft ((QK s plan) != 0) with hc0 | hc0
 · have h:=h.1 (bneT hc0)
   exact p13_start_0 s plan k hE ⟨(u30 (Yo s plan h1)),hc0,rfl,rfl,(u20 Vm),trivial⟩ (AvLe.of_eq (by rw [h]; try rfl))
 · have h:=h.2 (bneF hc0)
   rcases bft (decide (k<0)) with hc1 | hc1
   · have h:=h.1 (odt hc1)
     exact p13_start_1 s plan k hE ⟨(u30 (Yo s plan h1)),hc0,hc1,rfl,(u20 Vm),trivial⟩ (AvLe.of_eq (by rw [h]; try rfl))
   · have h:=h.2 (odf hc1)
     rcases bft (decide (k≥(s.worth.length:Int))) with hc2 | hc2
     · have h:=h.1 (odt hc2)
       exact p13_start_2 s plan k hE ⟨(u30 (Yo s plan h1)),hc0,hc1,hc2,(u20 Vm),trivial⟩ (AvLe.of_eq (by rw [h]; try rfl))
     · have h:=h.2 (odf hc2)
       obtain ⟨h2,h⟩:=h
       obtain ⟨h3,h⟩:=h
       rcases bft ((Qp s plan).2 != 0) with hc3 | hc3
       · have h:=h.1 (bneT hc3)
         exact p13_start_3 s plan k hE ⟨(u30 (Yo s plan h1)),hc0,hc1,hc2,(u40 (Yu s plan h2)),(u51 (Xa s h3)),hc3,rfl,rfl,trivial⟩ (AvLe.of_eq (by rw [h]; try rfl))
       · have h:=h.2 (bneF hc3)
         rcases bft (((((Qp s plan).1).length:Nat):Int) != (s.worth.length:Int)) with hc4 | hc4
         · have h:=h.1 (bneT hc4)
           exact p13_start_4 s plan k hE ⟨(u30 (Yo s plan h1)),hc0,hc1,hc2,(u40 (Yu s plan h2)),(u51 (Xa s h3)),hc3,hc4,rfl,trivial⟩ (AvLe.of_eq (by rw [h]; try rfl))
         · have h:=h.2 (bneF hc4)
           obtain ⟨h5,h⟩:=h
           obtain ⟨fe,h4,h⟩:=h
           obtain ⟨h6,h⟩:=h
           obtain ⟨e,h7,h⟩:=h
           obtain ⟨h8,h⟩:=h
           rcases bft (decide ((LF s plan k 2000 [] e 2000).2<0)) with hc5 | hc5
           · have h:=h.1 (odt hc5)
             exact p13_start_5 s plan k fe e hE ⟨(u30 (Yo s plan h1)),hc0,hc1,hc2,(u40 (Yu s plan h2)),(u51 (Xa s h3)),hc3,hc4,(Qj h5 h4),(rp cFr 2 0 2 h4),(u32 (VZ s fe h6)),rfl,(by decide),(Qn h7),(rp cI 1 0 1 h7),(Yc (YW Try.func52 (by kernel_rfl) f52b (qp s plan k e 2000 h8)) rfl rfl rfl rfl rfl rfl),hc5,(u20 Vm),trivial⟩ (AvLe.of_eq (by rw [h]; try rfl))
           · have h:=h.2 (odf hc5)
             obtain ⟨h10,h⟩:=h
             obtain ⟨fe1,h9,h⟩:=h
             obtain ⟨e1,h11,h⟩:=h
             obtain ⟨q30_6,h⟩:=h
             obtain ⟨q31_6,h⟩:=h
             obtain ⟨q32_6,h⟩:=h
             rcases bft ((LF s plan k 2000 [] e 2000).1 == (fe1.num*(Int.tdiv e1 fe1.den))) with hc6 | hc6
             · have h:=h.1 (eq_of_beq hc6)
               exact p13_start_6 s plan k fe e fe1 e1 hE ⟨(u30 (Yo s plan h1)),hc0,hc1,hc2,(u40 (Yu s plan h2)),(u51 (Xa s h3)),hc3,hc4,(Qj h5 h4),(rp cFr 2 0 2 h4),(u32 (VZ s fe h6)),rfl,(by decide),(Qn h7),(rp cI 1 0 1 h7),(Yc (YW Try.func52 (by kernel_rfl) f52b (qp s plan k e 2000 h8)) rfl rfl rfl rfl rfl rfl),hc5,rfl,(Qj h10 h9),(⟨by decide,by decide⟩),(rp cFr 2 0 1 h9),(Qn h11),(rp cI 1 0 1 h11),(Qj h10 h9),(⟨by decide,by decide⟩),(rp cFr 2 1 1 h9),q30_6,q31_6,q32_6,hc6,(u20 Vm),trivial⟩ (AvLe.of_eq (by rw [h]; try rfl))
             · have h:=h.2 (ne_of_beq_false hc6)
               exact p13_start_7 s plan k fe e fe1 e1 hE ⟨(u30 (Yo s plan h1)),hc0,hc1,hc2,(u40 (Yu s plan h2)),(u51 (Xa s h3)),hc3,hc4,(Qj h5 h4),(rp cFr 2 0 2 h4),(u32 (VZ s fe h6)),rfl,(by decide),(Qn h7),(rp cI 1 0 1 h7),(Yc (YW Try.func52 (by kernel_rfl) f52b (qp s plan k e 2000 h8)) rfl rfl rfl rfl rfl rfl),hc5,rfl,(Qj h10 h9),(⟨by decide,by decide⟩),(rp cFr 2 0 1 h9),(Qn h11),(rp cI 1 0 1 h11),(Qj h10 h9),(⟨by decide,by decide⟩),(rp cFr 2 1 1 h9),q30_6,q31_6,q32_6,hc6,trivial⟩ (AvLe.of_eq (by rw [h]; try rfl))
theorem law13_ok (s:Stl) (plan:List Int) (k:Int) (h:s.stages.length≤9223372036854775807∧s.worth.length≤9223372036854775807) (hp:plan.length≤9223372036854775807):Pure Try.prog 13 [avStl s,.rsl (rowI plan) 0 plan.length,.int .i64 k] (.bool true):=Qq Try.func13 f13b fun E hE=>by
 refine f13W s plan k (rv:=true) hE ⟨⟨h,hp⟩,fun _=>rfl,fun he=>⟨fun _=>rfl,fun k0=>⟨fun _=>rfl,fun k1=>?_⟩⟩⟩
 obtain ⟨hc,hpl⟩:=WF he
 obtain ⟨hm,es⟩:=Vb (Xj hc)
 have hd:=dok_of he
 have hlen0:=hd.len
 have hpl':Qw (Qb s).s plan=true:=by rw [es]; exact hpl
 have hk0:0≤k:=by omega
 have hk1:k<(s.worth.length:Int):=by omega
 have hat:=planned_at he hk0 hk1
 have hlen:(Qp s plan).1.length=s.worth.length:=by rw [Qp,if_pos he,planL_len]
 have hpe:(Qp s plan).2=0:=by rw [Qp,if_pos he]
 have fp:=first_fr hc (w:=Qu k) (ch:=fun i _=>Qx plan i) (WB hpl')
 have hme:=measR_of (Xj hc)
 obtain ⟨u,hu,hu1,hu2⟩:=meas0 hm
 have eu:Yh s=u:=Xv hu
 have hmu:(QO (QL s)).1[0]?=some u:=by rw [hme]; exact hu
 have fv:=fp.2
 rw [FrV,eu] at fv
 have fb:=fp.1.bd
 rw [FrV,eu] at fb
 have fpos:=fp.1.pos
 have em:Mea s 0=u:=Xv hu
 have hg:XX s plan s.stages.length 0 []:=WK hd (by omega) (by omega) (by omega)
 obtain ⟨v1,v2⟩:=WU hd hk0 (n:=s.stages.length) (a:=0) (P:=u) (by omega) (by omega) (by omega) (by rw [em]; exact Int.dvd_refl _)
 have div1:∀ d:Int,0<d→Int.tdiv u d≤u∧0≤Int.tdiv u d:=fun d hd'=>by
  rw [Int.tdiv_eq_ediv_of_nonneg (by omega)]; exact ⟨Int.ediv_le_self _ (by omega),Int.ediv_nonneg (by omega) (by omega)⟩
 have d1:=div1 _ fpos
 refine ⟨h,⟨by omega,hd.forms⟩,fun hx=>absurd hpe hx,fun _=>⟨fun hx=>absurd (by rw [hlen]) hx,fun _=>⟨hk0,_,hat,⟨hc,fp.1⟩,u,hmu,⟨he,h,by omega,by omega⟩,fun _=>rfl,fun hb=>⟨hk0,_,hat,u,hmu,by omega,by omega,by omega,fun _=>rfl,fun hx=>?_⟩⟩⟩⟩
 have hv:=LF_val hd hk0 2000 [] u 2000 hg v1 (by omega) (by omega) (by omega)
 refine absurd ?_ hx
 rw [hv,fv]
 have v2:Vof s plan k 0*(u / Mea s 0)=Vof s plan k (QQ s plan [])*(u / Mea s (QQ s plan [])):=v2
 rw [← v2,em,Int.ediv_self (by omega),Int.mul_one]
 rfl
end Go.Proofs.Ytfgmlaeikcfpbaa