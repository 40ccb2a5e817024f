/- A part of the proof: several texts, one behind the other. -/
import Derived.Test.YtemklbioijmjiaaLTopFuelE
set_option linter.unusedVariables false
set_option linter.unusedSimpArgs false
set_option maxRecDepth 100000
namespace Go.Proofs.Ytemklbioijmjiaa
open Go Ax
open Go.Proofs
theorem hdr1_ld:∀ {k i:Nat} {js:List (List Leg × Nat)} {e:List Leg × Nat},js[i]?=some e→((hdr1 k js).drop (0+(Int.toNat (i:Int))*1)).take 1=[.sl (k+i) e.2 0 e.1.length 2]
 | k,i,[],e,h=>by simp at h
 | k,0,x :: js,e,h=>by simp only [List.getElem?_cons_zero,Option.some.injEq] at h; subst h; rfl
 | k,i+1,x :: js,e,h=>by
  rw [List.getElem?_cons_succ] at h
  have ih:=hdr1_ld (k:=k+1) h
  rw [show k+1+i=k+(i+1) by omega] at ih
  rw [← ih,hdr1,Int.toNat_natCast,Int.toNat_natCast,show 0+(i+1)*1=(0+i*1)+1 by omega,List.drop_succ_cons]
theorem hdr1_set {l:List Leg}:∀ {k i:Nat} {js:List (List Leg × Nat)} {e:List Leg × Nat},js[i]?=some e→l.length=e.1.length→hdr1 k js=hdr1 k (js.set i (l,e.2))
 | k,i,[],e,h,_=>by simp at h
 | k,0,x :: js,e,h,hl=>by
  simp only [List.getElem?_cons_zero,Option.some.injEq] at h; subst h
  rw [List.set_cons_zero,hdr1,hdr1,hl]
 | k,i+1,x :: js,e,h,hl=>by
  rw [List.getElem?_cons_succ] at h
  rw [List.set_cons_succ,hdr1,hdr1,← hdr1_set h hl]
theorem legB_set {l:List Leg} {g:Nat}:∀ {i:Nat} {js:List (List Leg × Nat)},(legB js).set i ⟨true,g,2,true,Qn l,true⟩=legB (js.set i (l,g))
 | i,[]=>rfl
 | 0,x :: js=>rfl
 | i+1,x :: js=>by rw [legB,List.set_cons_succ,List.set_cons_succ,legB,legB_set]
def famO (js:List (List Leg × Nat)):List Prop:=js.map fun e=>e.2=e.2
theorem Qct:∀ {js:List (List Leg × Nat)},AllP (famO js)
 | []=>trivial
 | _ :: _=>⟨rfl,Qct⟩
theorem fleet_len {m:FMap} {l:List Lry} {to gap:Int} {js:List (List Leg × Nat)} {arr:List Int} (h:FleetOk m l to gap js arr):js.length≤8:=by
 have:=(qZ h.te).2.1
 rw [h.ljs]; exact this
theorem f45b:Try.f45.body=some (Qf Try.prog 45):=by kernel_rfl
def Va (P:Program):List Item:=toOp 4 (kReg 400 [.code (Qf P 45)] [] 1)
def qS (m:FMap) (l:(List Lry)) (to:Int) (gap:Int):St:=⟨([J,.rsl (Qo l) 0 l.length,J,.int .i64 gap]++jj 12 ([.agg [.rsl (rowB m.park) 0 m.park.length,.rsl (Qb m.roads) 0 m.roads.length],.rsl (Qo l) 0 l.length,.int .i64 to,.int .i64 gap]++Js 58)),[⟨false,1,1,true,[],false⟩]⟩
def f45G5020 (E:Env) (m:FMap) (l:(List Lry)) (to:Int) (gap:Int):Prop:=G Try.prog E (Va Try.prog) (qS m l to gap )
def f45G5020a (E:Env) (m:FMap) (l:(List Lry)) (to:Int) (gap:Int) (js:List (List Leg × Nat)) (arr:List Int) (g2 g3:Nat):Prop:=G Try.prog E (WU (Va Try.prog)) ⟨([J,.rsl (Qo l) 0 l.length,J,.int .i64 gap]++jj 12 ([.agg [.rsl (rowB m.park) 0 m.park.length,.rsl (Qb m.roads) 0 m.roads.length],.rsl (Qo l) 0 l.length,.int .i64 to,.int .i64 gap,.tup [.ptr 1 0 0,.int .i64 0]]++Js 57)),([⟨false,1,1,true,[],false⟩,⟨true,0,1,false,[.sl 2 g2 0 js.length 1,.sl 3 g3 0 arr.length 1],false⟩,⟨true,g2,1,false,(hdr1 4 js),true⟩,⟨true,g3,1,true,(rowI arr),true⟩]++legB js)⟩
def f45G5020b (E:Env) (m:FMap) (l:(List Lry)) (to:Int) (gap:Int) (e:Int):Prop:=G Try.prog E (WU (Va Try.prog)) ⟨([J,.rsl (Qo l) 0 l.length,J,.int .i64 gap]++jj 12 ([.agg [.rsl (rowB m.park) 0 m.park.length,.rsl (Qb m.roads) 0 m.roads.length],.rsl (Qo l) 0 l.length,.int .i64 to,.int .i64 gap,.tup [.nilPtr,.int .i64 e]]++Js 57)),[⟨false,1,1,true,[],false⟩]⟩
def f45K0 (P:Program):List Item:=kAt 400 (WU (Va P)) [.b false,.stop]
def f45S0 (m:FMap) (l:(List Lry)) (to:Int) (gap:Int) (ats:(List Int)) (na:Nat) (js:List (List Leg × Nat)) (arr:List Int) (i:Nat) (g2:Nat) (g3:Nat):St:=⟨(jj 10 ([.ptr 1 0 0]++jj 20 ([.rsl (rowI ats) 0 ats.length,.int .i64 (na:Int),.int .i64 (i:Int)]++Js 44))),([⟨false,1,1,true,[],false⟩,⟨true,0,1,false,[.sl 2 g2 0 js.length 1,.sl 3 g3 0 arr.length 1],false⟩,⟨true,g2,1,false,(hdr1 4 js),true⟩,⟨true,g3,1,true,(rowI arr),true⟩]++legB js)⟩
def f45G0 (E:Env) (m:FMap) (l:(List Lry)) (to:Int) (gap:Int) (ats:(List Int)) (na:Nat) (js:List (List Leg × Nat)) (arr:List Int) (i:Nat):Prop:=∀ g2 g3:Nat,G Try.prog E (f45K0 Try.prog) (f45S0 m l to gap ats na js arr i g2 g3)
def f45K1 (P:Program):List Item:=kAt 400 (WU (Va P)) [.b false,.b true,.stop]
def f45S1 (m:FMap) (l:(List Lry)) (to:Int) (gap:Int) (at_:Int) (ats:(List Int)) (na:Nat) (n:Nat) (js:List (List Leg × Nat)) (arr:List Int) (k:Nat) (q:Nat) (i:Nat) (g2:Nat) (g3:Nat):St:=⟨(jj 10 ([.ptr 1 0 0,J,.int .i64 (q:Int),.int .i64 at_]++jj 17 ([.rsl (rowI ats) 0 ats.length,.int .i64 (na:Int),.int .i64 (i:Int)]++jj 11 ([.int .i64 (n:Int),.int .i64 (k:Int)]++Js 31)))),([⟨false,1,1,true,[],false⟩,⟨true,0,1,false,[.sl 2 g2 0 js.length 1,.sl 3 g3 0 arr.length 1],false⟩,⟨true,g2,1,false,(hdr1 4 js),true⟩,⟨true,g3,1,true,(rowI arr),true⟩]++legB js)⟩
def f45G1 (E:Env) (m:FMap) (l:(List Lry)) (to:Int) (gap:Int) (at_:Int) (ats:(List Int)) (na:Nat) (n:Nat) (js:List (List Leg × Nat)) (arr:List Int) (k:Nat) (q:Nat) (i:Nat):Prop:=∀ g2 g3:Nat,G Try.prog E (f45K1 Try.prog) (f45S1 m l to gap at_ ats na n js arr k q i g2 g3)
theorem f45W (m:FMap) (l:(List Lry)) (to:Int) (gap:Int) {E:Env} {R:AV→Prop} (hE:PureRE Try.prog 45 R E)
 (h:f45G5020 E m l to gap ):G Try.prog E [.code (Qf Try.prog 45)] ⟨[.agg [.rsl (rowB m.park) 0 m.park.length,.rsl (Qb m.roads) 0 m.roads.length],.rsl (Qo l) 0 l.length,.int .i64 to,.int .i64 gap]++unds (Try.f45.ntmps - 4),[]⟩:=by
 exact sM [1,3,16,17,18,19] 1 [.vn .junk,.hold 6] [] hE.kind (hE.nogh _) trivial h
theorem p45_0_0e (m:FMap) (l:(List Lry)) (to:Int) (gap:Int) (ats:(List Int)) (na:Nat) (js:List (List Leg × Nat)) (arr:List Int) (i:Nat) (g2:Nat) (g3:Nat) (e:Int) (le:(List Leg × Nat)) (hJ:js.length≤8) (hj:js[i]?=some le):segC Try.prog [] [] [10,12,13,31,32,33,45,46] (4+1*js.length+0) 400 (f45K0 Try.prog) (f45S0 m l to gap ats na js arr i g2 g3) [.b true,.ld (.int .i64 e),.auto,.ld (.sl (4+i) le.2 0 le.1.length 2),.stop]=some (f45K1 Try.prog,⟨(jj 10 ([.ptr 1 0 0,J,.int .i64 (i:Int),.int .i64 e]++jj 17 ([.rsl (rowI ats) 0 ats.length,.int .i64 (na:Int),.int .i64 (i:Int)]++jj 11 ([.int .i64 (le.1.length:Int),.int .i64 0]++Js 31)))),([⟨false,1,1,true,[],false⟩,⟨true,0,1,false,[.sl 2 g2 0 js.length 1,.sl 3 g3 0 arr.length 1],false⟩,⟨true,g2,1,false,(hdr1 4 js),true⟩,⟨true,g3,1,true,(rowI arr),true⟩]++legB js)⟩,[(decide ((i:Int)<(na:Int)))=true,0≤(i:Int)∧(i:Int)<(ats.length:Int),((rowI ats).drop (0+(Int.toNat (i:Int))*1)).take 1=[.int .i64 e],0≤(i:Int)∧(i:Int)<(js.length:Int),g2=g2,g2=g2,((hdr1 4 js).drop (0+(Int.toNat (i:Int))*1)).take 1=[.sl (4+i) le.2 0 le.1.length 2],le.2=le.2]):=by
 rcases js with _ | ⟨a0,_ | ⟨a1,_ | ⟨a2,_ | ⟨a3,_ | ⟨a4,_ | ⟨a5,_ | ⟨a6,_ | ⟨a7,_ | ⟨a8,js⟩⟩⟩⟩⟩⟩⟩⟩⟩
 all_goals rcases i with _ | _ | _ | _ | _ | _ | _ | _ | i
 all_goals first | (exfalso; simp only [List.length_cons] at hJ; omega) | (exfalso; simp at hj; done) | (obtain rfl:=Option.some.inj hj; kernel_rfl)
theorem p45_0_1e (m:FMap) (l:(List Lry)) (to:Int) (gap:Int) (ats:(List Int)) (na:Nat) (js:List (List Leg × Nat)) (arr:List Int) (i:Nat) (g2:Nat) (g3:Nat) (hJ:js.length≤8):endA Try.prog Try.f45 400 (f45K0 Try.prog) (f45S0 m l to gap ats na js arr i g2 g3) [.b false]=some (.tup [.rsl ((Yz Qn) (js.map Prod.fst)) 0 ((js.map Prod.fst).length),.int .i64 0],([(decide ((i:Int)<(na:Int)))=false,g2=g2]++(famO js++[]))):=by
 rcases js with _ | ⟨a0,_ | ⟨a1,_ | ⟨a2,_ | ⟨a3,_ | ⟨a4,_ | ⟨a5,_ | ⟨a6,_ | ⟨a7,_ | ⟨a8,js⟩⟩⟩⟩⟩⟩⟩⟩⟩
 all_goals first | (exfalso; simp only [List.length_cons] at hJ; omega) | kernel_rfl
theorem f45W0 (m:FMap) (l:(List Lry)) (to:Int) (gap:Int) (ats:(List Int)) (na:Nat) (js:List (List Leg × Nat)) (arr:List Int) (i:Nat) {E:Env} {R:AV→Prop} (hE:PureRE Try.prog 45 R E)
 (h:(js.length≤8∧(((i:Int)<(na:Int)→(∃ e:Int,ats[i]?=some e∧(∃ le:(List Leg × Nat),js[i]?=some le∧f45G1 E m l to gap e ats na le.1.length js arr 0 i i)))∧(¬ ((i:Int)<(na:Int))→R (.tup [.rsl ((Yz Qn) (js.map Prod.fst)) 0 ((js.map Prod.fst).length),.int .i64 0]))))):f45G0 E m l to gap ats na js arr i:=by
 intro g2 g3
 obtain ⟨hJ,h⟩:=h
 rcases bft (decide ((i:Int)<(na:Int))) with hc0 | hc0
 · have h:=h.1 (odt hc0)
   obtain ⟨e,h1,h⟩:=h
   obtain ⟨le,h2,h⟩:=h
   exact QM hE.kind (hE.nogh _) mixed (p45_0_0e m l to gap ats na js arr i g2 g3 e le hJ h2) ⟨hc0,(Qm h1),(rp cI 1 0 1 h1),(Qm h2),rfl,rfl,(hdr1_ld h2),rfl,trivial⟩ (by exact h g2 g3)
 · have h:=h.2 (odf hc0)
   exact hE.as h fun E' hE'=>end_stepL hE' Try.func45 mixed (p45_0_1e m l to gap ats na js arr i g2 g3 hJ) (Qj.2 ⟨⟨hc0,rfl,trivial⟩,Qj.2 ⟨(Qct),trivial⟩⟩) (by exact AvLe.of_eq rfl)
theorem p45_1_0e (m:FMap) (l:(List Lry)) (to:Int) (gap:Int) (at_:Int) (ats:(List Int)) (na:Nat) (n:Nat) (js:List (List Leg × Nat)) (arr:List Int) (k:Nat) (q:Nat) (i:Nat) (g2:Nat) (g3:Nat) (le:(List Leg × Nat)) (le1:Leg) (e:Int) (hJ:js.length≤8) (hj:js[q]?=some le):segC Try.prog [] [] [10,12,13,31,32,33,45,46] (4+1*js.length+0) 400 (f45K1 Try.prog) (f45S1 m l to gap at_ ats na n js arr k q i g2 g3) [.b true,.auto,.ld (.sl (4+q) le.2 0 le.1.length 2),.ld (.int .i64 le1.dep),.auto,.ld (.int .i64 e),.stop]=some (f45K1 Try.prog,⟨(jj 10 ([.ptr 1 0 0,J,.int .i64 (q:Int),.int .i64 at_]++jj 17 ([.rsl (rowI ats) 0 ats.length,.int .i64 (na:Int),.int .i64 (i:Int)]++jj 11 ([.int .i64 (n:Int),.int .i64 ((k:Int)+1)]++Js 31)))),([⟨false,1,1,true,[],false⟩,⟨true,0,1,false,[.sl 2 g2 0 js.length 1,.sl 3 g3 0 arr.length 1],false⟩,⟨true,g2,1,false,(hdr1 4 js),true⟩,⟨true,g3,1,true,(rowI arr),true⟩]++(legB js).set q ⟨true,le.2,2,true,(Qv (Qn le.1) ((0+(Int.toNat (k:Int))*2)+1) [.int .i64 (le1.dep+(at_ - e))]),true⟩)⟩,[(decide ((k:Int)<(n:Int)))=true,0≤(q:Int)∧(q:Int)<(js.length:Int),g2=g2,g2=g2,((hdr1 4 js).drop (0+(Int.toNat (q:Int))*1)).take 1=[.sl (4+q) le.2 0 le.1.length 2],0≤(k:Int)∧(k:Int)<(le.1.length:Int),le.2=le.2,le.2=le.2,le.2=le.2,((Qn le.1).drop ((0+(Int.toNat (k:Int))*2)+1)).take 1=[.int .i64 le1.dep],0≤(q:Int)∧(q:Int)<(arr.length:Int),g3=g3,g3=g3,((rowI arr).drop (0+(Int.toNat (q:Int))*1)).take 1=[.int .i64 e],InR .i64 (at_ - e),InR .i64 (le1.dep+(at_ - e)),0≤(k:Int)∧(k:Int)<(le.1.length:Int),le.2=le.2,le.2=le.2,(((0+(Int.toNat (k:Int))*2)+1)+1)≤(Qn le.1).length,le.2=le.2,InR .i64 ((k:Int)+1)]):=by
 rcases js with _ | ⟨a0,_ | ⟨a1,_ | ⟨a2,_ | ⟨a3,_ | ⟨a4,_ | ⟨a5,_ | ⟨a6,_ | ⟨a7,_ | ⟨a8,js⟩⟩⟩⟩⟩⟩⟩⟩⟩
 all_goals rcases q with _ | _ | _ | _ | _ | _ | _ | _ | q
 all_goals first | (exfalso; simp only [List.length_cons] at hJ; omega) | (exfalso; simp at hj; done) | (obtain rfl:=Option.some.inj hj; kernel_rfl)
theorem p45_1_1e (m:FMap) (l:(List Lry)) (to:Int) (gap:Int) (at_:Int) (ats:(List Int)) (na:Nat) (n:Nat) (js:List (List Leg × Nat)) (arr:List Int) (k:Nat) (q:Nat) (i:Nat) (g2:Nat) (g3:Nat) (hJ:js.length≤8):segC Try.prog [] [] [10,31,32,33] (4+1*js.length+0) 400 (f45K1 Try.prog) (f45S1 m l to gap at_ ats na n js arr k q i g2 g3) [.b false,.stop]=some (f45K0 Try.prog,⟨(jj 10 ([.ptr 1 0 0]++jj 20 ([.rsl (rowI ats) 0 ats.length,.int .i64 (na:Int),.int .i64 ((i:Int)+1)]++Js 44))),([⟨false,1,1,true,[],false⟩,⟨true,0,1,false,[.sl 2 g2 0 js.length 1,.sl 3 g3 0 arr.length 1],false⟩,⟨true,g2,1,false,(hdr1 4 js),true⟩,⟨true,g3,1,true,(rowI arr),true⟩]++legB js)⟩,[(decide ((k:Int)<(n:Int)))=false,InR .i64 ((i:Int)+1)]):=by
 rcases js with _ | ⟨a0,_ | ⟨a1,_ | ⟨a2,_ | ⟨a3,_ | ⟨a4,_ | ⟨a5,_ | ⟨a6,_ | ⟨a7,_ | ⟨a8,js⟩⟩⟩⟩⟩⟩⟩⟩⟩
 all_goals first | (exfalso; simp only [List.length_cons] at hJ; omega) | kernel_rfl
theorem f45W1 (m:FMap) (l:(List Lry)) (to:Int) (gap:Int) (at_:Int) (ats:(List Int)) (na:Nat) (n:Nat) (js:List (List Leg × Nat)) (arr:List Int) (k:Nat) (q:Nat) (i:Nat) {E:Env} {R:AV→Prop} (hE:PureRE Try.prog 45 R E)
 (h:(js.length≤8∧(((k:Int)<(n:Int)→(∃ le:(List Leg × Nat),js[q]?=some le∧(∃ le1:Leg,le.1[k]?=some le1∧(∃ e:Int,arr[q]?=some e∧((I6 (at_ - e))∧((I6 (le1.dep+(at_ - e)))∧((I6 ((k:Int)+1))∧f45G1 E m l to gap at_ ats na n (js.set q ((le.1.set k (⟨le1.road,(le1.dep+(at_ - e))⟩:Leg)),le.2)) arr (k+1) q i)))))))∧(¬ ((k:Int)<(n:Int))→((I6 ((i:Int)+1))∧f45G0 E m l to gap ats na js arr (i+1)))))):f45G1 E m l to gap at_ ats na n js arr k q i:=by
 intro g2 g3
 obtain ⟨hJ,h⟩:=h
 rcases bft (decide ((k:Int)<(n:Int))) with hc0 | hc0
 · have h:=h.1 (odt hc0)
   obtain ⟨le,h1,h⟩:=h
   obtain ⟨le1,h2,h⟩:=h
   obtain ⟨e,h3,h⟩:=h
   obtain ⟨q18_1,h⟩:=h
   obtain ⟨q19_1,h⟩:=h
   obtain ⟨q25_1,h⟩:=h
   refine QM hE.kind (hE.nogh _) mixed (p45_1_0e m l to gap at_ ats na n js arr k q i g2 g3 le le1 e hJ h1) ⟨hc0,(Qm h1),rfl,rfl,(hdr1_ld h1),(Qm h2),rfl,rfl,rfl,(rp cLeg 2 1 1 h2),(Qm h3),rfl,rfl,(rp cI 1 0 1 h3),q18_1,q19_1,(Qm h2),rfl,rfl,(rf cLeg 2 1 1 h2),rfl,q25_1,trivial⟩ ?_
   have h:=(h g2 g3)
   simp only [f45S1,List.length_set] at h
   rw [(show Qv (Qn le.1) ((0+(Int.toNat (k:Int))*2)+1) [.int .i64 (le1.dep+(at_ - e))]=Qn (le.1.set k (⟨le1.road,(le1.dep+(at_ - e))⟩:Leg)) from QH cLeg (s:=2) (k:=1) (fun _=>rfl) h2 rfl (by first | decide | simp))]; rw [(show (legB js).set q ⟨true,le.2,2,true,(Qn (le.1.set k (⟨le1.road,(le1.dep+(at_ - e))⟩:Leg))),true⟩=legB (js.set q ((le.1.set k (⟨le1.road,(le1.dep+(at_ - e))⟩:Leg)),le.2)) from legB_set)]; rw [(show hdr1 4 js=hdr1 4 (js.set q ((le.1.set k (⟨le1.road,(le1.dep+(at_ - e))⟩:Leg)),le.2)) from hdr1_set h1 (by simp))]
   exact h
 · have h:=h.2 (odf hc0)
   obtain ⟨q2_1,h⟩:=h
   exact QM hE.kind (hE.nogh _) mixed (p45_1_1e m l to gap at_ ats na n js arr k q i g2 g3 hJ) ⟨hc0,q2_1,trivial⟩ (by exact h g2 g3)
theorem p45_5020a_0e (m:FMap) (l:(List Lry)) (to:Int) (gap:Int) (js:List (List Leg × Nat)) (arr:List Int) (g2 g3:Nat) (hJ:js.length≤8):segC Try.prog [] [] [10,31,32,33] (4+1*js.length+0) 400 (WU (Va Try.prog)) ⟨([J,.rsl (Qo l) 0 l.length,J,.int .i64 gap]++jj 12 ([.agg [.rsl (rowB m.park) 0 m.park.length,.rsl (Qb m.roads) 0 m.roads.length],.rsl (Qo l) 0 l.length,.int .i64 to,.int .i64 gap,.tup [.ptr 1 0 0,.int .i64 0]]++Js 57)),([⟨false,1,1,true,[],false⟩,⟨true,0,1,false,[.sl 2 g2 0 js.length 1,.sl 3 g3 0 arr.length 1],false⟩,⟨true,g2,1,false,(hdr1 4 js),true⟩,⟨true,g3,1,true,(rowI arr),true⟩]++legB js)⟩ [.b false,.v (.rsl (rowI (Qy l.length)) 0 ((Qy l.length).length)),.vn (.rsl (rowI (arrN arr gap (Qy l.length))) 0 ((arrN arr gap (Qy l.length)).length)),.stop]=some (f45K0 Try.prog,⟨(jj 10 ([.ptr 1 0 0]++jj 20 ([.rsl (rowI (arrN arr gap (Qy l.length))) 0 ((arrN arr gap (Qy l.length)).length),.int .i64 (((arrN arr gap (Qy l.length)).length:Nat):Int),.int .i64 0]++Js 44))),([⟨false,1,1,true,[],false⟩,⟨true,0,1,false,[.sl 2 g2 0 js.length 1,.sl 3 g3 0 arr.length 1],false⟩,⟨true,g2,1,false,(hdr1 4 js),true⟩,⟨true,g3,1,true,(rowI arr),true⟩]++legB js)⟩,([false=false,Qc Try.prog (.clos 109 [] []) [.int .i64 (l.length:Int)] (.rsl (rowI (Qy l.length)) 0 ((Qy l.length).length)),PureN Try.prog (.clos 108 [] []) [.rptr [.rsl ((Yz Qn) (js.map Prod.fst)) 0 ((js.map Prod.fst).length),.rsl (rowI arr) 0 arr.length] 0,.rsl (rowI (Qy l.length)) 0 ((Qy l.length).length),.int .i64 gap] (.rsl (rowI (arrN arr gap (Qy l.length))) 0 ((arrN arr gap (Qy l.length)).length)),g2=g2]++(famO js++[g3=g3]))):=by
 rcases js with _ | ⟨a0,_ | ⟨a1,_ | ⟨a2,_ | ⟨a3,_ | ⟨a4,_ | ⟨a5,_ | ⟨a6,_ | ⟨a7,_ | ⟨a8,js⟩⟩⟩⟩⟩⟩⟩⟩⟩
 all_goals first | (exfalso; simp only [List.length_cons] at hJ; omega) | kernel_rfl
theorem f45W5020a (m:FMap) (l:(List Lry)) (to:Int) (gap:Int) (js:List (List Leg × Nat)) (arr:List Int) (g2 g3:Nat) {E:Env} {R:AV→Prop} (hE:PureRE Try.prog 45 R E)
 (h:(js.length≤8∧((l.length≤1000)∧((ArrIn arr (Qy l.length) gap)∧f45G0 E m l to gap (arrN arr gap (Qy l.length)) ((arrN arr gap (Qy l.length)).length) js arr 0)))):f45G5020a E m l to gap js arr g2 g3:=by
 obtain ⟨hJ,h⟩:=h
 obtain ⟨h1,h⟩:=h
 obtain ⟨h2,h⟩:=h
 exact QM hE.kind (hE.nogh _) mixed (p45_5020a_0e m l to gap js arr g2 g3 hJ) (Qj.2 ⟨⟨rfl,(u109 (given_ok l.length h1)),(pureNF_of Try.func108 (by kernel_rfl) f108b (arr_ok ⟨(js.map Prod.fst),arr⟩ (Qy l.length) gap h2)),rfl,trivial⟩,Qj.2 ⟨(Qct),⟨rfl,trivial⟩⟩⟩) (by exact h g2 g3)
theorem f45W5020b (m:FMap) (l:(List Lry)) (to:Int) (gap:Int) (e:Int) {E:Env} {R:AV→Prop} (hE:PureRE Try.prog 45 R E)
 (h:((¬ (e=0)→R (.tup [.nilSl,.int .i64 e]))∧(e=0→((l.length≤1000)∧False)))):f45G5020b E m l to gap e:=by
 rcases bft (e != 0) with hc0 | hc0
 · have h:=h.1 (bneT hc0)
   exact hE.as h fun E' hE'=>eL (.tup [.nilSl,.int .i64 e]) [.b true] [(e != 0)=true] hE' Try.func45 ⟨hc0,trivial⟩ (by exact AvLe.of_eq rfl)
 · have h:=h.2 (bneF hc0)
   obtain ⟨h1,h⟩:=h
   exact h.elim
theorem f45Q5020a (m:FMap) (l:(List Lry)) (to:Int) (gap:Int) (js:List (List Leg × Nat)) (arr:List Int) (g2 g3:Nat) (hJ:js.length≤8):(⟨putA (qS m l to gap ).tmps (some 20) (ren (outN (qS m l to gap ).blks.length []) (.tup [.ptr 0 0 0,.int .i64 0])),(qS m l to gap ).blks++(([⟨true,0,1,false,[.sl 1 g2 0 js.length 1,.sl 2 g3 0 arr.length 1],false⟩,⟨true,g2,1,false,(hdr1 3 js),true⟩,⟨true,g3,1,true,(rowI arr),true⟩]++legB js):List Blk).map (renB (outN (qS m l to gap ).blks.length []))⟩:St)=⟨([J,.rsl (Qo l) 0 l.length,J,.int .i64 gap]++jj 12 ([.agg [.rsl (rowB m.park) 0 m.park.length,.rsl (Qb m.roads) 0 m.roads.length],.rsl (Qo l) 0 l.length,.int .i64 to,.int .i64 gap,.tup [.ptr 1 0 0,.int .i64 0]]++Js 57)),([⟨false,1,1,true,[],false⟩,⟨true,0,1,false,[.sl 2 g2 0 js.length 1,.sl 3 g3 0 arr.length 1],false⟩,⟨true,g2,1,false,(hdr1 4 js),true⟩,⟨true,g3,1,true,(rowI arr),true⟩]++legB js)⟩:=by
 rcases js with _ | ⟨a0,_ | ⟨a1,_ | ⟨a2,_ | ⟨a3,_ | ⟨a4,_ | ⟨a5,_ | ⟨a6,_ | ⟨a7,_ | ⟨a8,js⟩⟩⟩⟩⟩⟩⟩⟩⟩
 all_goals first | (exfalso; simp only [List.length_cons] at hJ; omega) | kernel_rfl
theorem f45W5020 (m:FMap) (l:(List Lry)) (to:Int) (gap:Int) {E:Env} {R:AV→Prop} (hE:PureRE Try.prog 45 R E)
 (h:(MapSmall m∧l.length≤1000000)∧(∀ (js:List (List Leg × Nat)) (arr:List Int) (g2 g3:Nat),FleetOk m l to gap js arr→f45G5020a E m l to gap js arr g2 g3)∧(∀ (e:Int),e ≠ 0→f45G5020b E m l to gap e)):f45G5020 E m l to gap:=by
 refine callR_hd (K':=WU (Va Try.prog)) (d:=some 20) (f:=107) (avs:=[.agg [.rsl (rowB m.park) 0 m.park.length,.rsl (Qb m.roads) 0 m.roads.length],.rsl (Qo l) 0 l.length,.int .i64 to,.int .i64 gap]) (by kernel_rfl) Try.func107 (by kernel_rfl) f107b (fleet_ok m l to gap h.1) (fun res bs2 hR=>?_)
 rcases hR with ⟨js,arr,g2,g3,rfl,rfl,hR⟩ | ⟨e,hR,rfl,rfl⟩
 · exact (congrArg (G Try.prog E (WU (Va Try.prog))) (f45Q5020a m l to gap js arr g2 g3 (fleet_len hR))).mpr (h.2.1 js arr g2 g3 hR)
 · exact (congrArg (G Try.prog E (WU (Va Try.prog))) (by kernel_rfl)).mpr (h.2.2 e hR)
end Go.Proofs.Ytemklbioijmjiaa
namespace Go.Proofs.Ytemklbioijmjiaa
open Go Ax
open Go.Proofs
def shL (d:Int) (x:Leg):Leg:=⟨x.road,x.dep+d⟩
def shT (d:Int) (k:Nat) (l:List Leg):List Leg:=(l.take k).map (shL d)++l.drop k
theorem shT_zero {d:Int} {l:List Leg}:shT d 0 l=l:=rfl
theorem shT_all {d:Int} {k:Nat} {l:List Leg} (h:l.length≤k):shT d k l=l.map (shL d):=by
 rw [shT,List.take_of_length_le h,List.drop_eq_nil_of_le h,List.append_nil]
theorem shT_get {d:Int} {k:Nat} {l:List Leg} {x:Leg} (h:l[k]?=some x):(shT d k l)[k]?=some x:=by
 have hk:=(List.getElem?_eq_some_iff.1 h).1
 rw [shT,List.getElem?_append_right (by rw [List.length_map,List.length_take]; omega),List.length_map,List.length_take,List.getElem?_drop,show k+(k - min k l.length)=k by omega]; exact h
theorem shT_set {d:Int} {k:Nat} {l:List Leg} {x:Leg} (h:l[k]?=some x):(shT d k l).set k (shL d x)=shT d (k+1) l:=by
 obtain ⟨hk,hx⟩:=List.getElem?_eq_some_iff.1 h
 have h1:l.drop k=x :: l.drop (k+1):=by rw [List.drop_eq_getElem_cons hk,hx]
 have h2:l.take (k+1)=l.take k++[x]:=by rw [List.take_succ_eq_append_getElem hk,hx]
 have h3:((l.take k).map (shL d)).length=k:=by rw [List.length_map,List.length_take]; omega
 rw [shT,h1,List.set_append_right (h:=by omega),h3,Nat.sub_self,List.set_cons_zero,shT,h2,List.map_append,List.append_assoc]; rfl
theorem set_self {α:Type}:∀ {l:List α} {i:Nat} {e:α},l[i]?=some e→l.set i e=l
 | [],_,_,h=>by simp at h
 | x :: l,0,e,h=>by simp only [List.getElem?_cons_zero,Option.some.injEq] at h; subst h; rfl
 | x :: l,i+1,e,h=>by rw [List.getElem?_cons_succ] at h; rw [List.set_cons_succ,set_self h]
theorem Qbx {a:Atl} {d:Int}:∀ {l:List Leg} {t t':Int},chOk a t l→t'≤t+d→chOk a t' (l.map (shL d))
 | [],_,_,_,_=>trivial
 | x :: l,t,t',h,ht=>by
  obtain ⟨h1,h2,h3,h4⟩:=h
  refine ⟨h1,h2,?_,Qbx h4 ?_⟩
  · show t'≤x.dep+d; omega
  · show x.dep+d+XR a x≤x.dep+XR a x+d; omega
theorem QbC {a:Atl} {d:Int}:∀ {l:List Leg} {t t':Int},t'≤t+d→arrL a t' (l.map (shL d))≤arrL a t l+d
 | [],_,_,h=>h
 | x :: l,t,t',h=>QbC (l:=l) (by show x.dep+d+XR a x≤x.dep+XR a x+d; omega)
theorem QaR {a:Atl} {d:Int}:∀ {l:List Leg},sumL a (l.map (shL d))=sumL a l
 | []=>rfl
 | x :: l=>by rw [List.map_cons,sumL,sumL,QaR]; rfl
theorem Kq {a:Atl} (ha:AtlOk a):∀ {l:List Leg} {t:Int},chOk a t l→t≤arrL a t l∧∀ x ∈ l,t≤x.dep∧x.dep+XR a x≤arrL a t l
 | [],_,_=>⟨Int.le_refl _,fun x hx=>by cases hx⟩
 | y :: l,t,h=>by
  obtain ⟨h1,h2,h3,h4⟩:=h
  have hb:=VJ ha h1 h2
  obtain ⟨p,q⟩:=Kq ha h4
  refine ⟨by show t≤arrL a (y.dep+XR a y) l; omega,fun x hx=>?_⟩
  show t≤x.dep∧x.dep+XR a x≤arrL a (y.dep+XR a y) l
  rcases List.mem_cons.1 hx with rfl | hx
  · exact ⟨h3,p⟩
  · have:=q x hx; omega
theorem Qad {n:Nat}:Qy (n+1)=Qy n++[(n:Int)]:=by simp [Qy,List.range_succ]
theorem arrN_bd {arr:List Int} {gap B:Int} (h0:0≤B) (hg:0≤gap∧gap≤100) (hb:∀ t ∈ arr,t≤B):∀ (n:Nat),n≤arr.length→∀ (i:Nat) (t e:Int),(arrN arr gap (Qy n))[i]?=some t→arr[i]?=some e→e≤t∧t≤B+100*(i:Int)
 | 0,_,i,t,e,h,_=>by simp [Qy,arrN] at h
 | n+1,hn,i,t,e,h,he=>by
  have ih:=arrN_bd h0 hg hb n (by omega)
  have hl:(arrN arr gap (Qy n)).length=n:=by rw [QcF,Xt]
  rw [Qad,arrN_snoc,arrS] at h
  rcases Nat.lt_trichotomy i n with q | q | q
  · rw [List.getElem?_append_left (by omega)] at h
    exact ih i t e h he
  · subst q
    rw [List.getElem?_append_right (by omega),hl,Nat.sub_self,List.getElem?_cons_zero,Option.some.injEq] at h
    have hd:arr.getD (Int.toNat (i:Int)) 0=e:=by rw [Int.toNat_natCast,List.getD_eq_getElem?_getD,he]; rfl
    have hB:=hb e (List.mem_of_getElem? he)
    rw [hd] at h
    cases hi:(arrN arr gap (Qy i)).getLast? with
    | none=>rw [hi] at h; simp only at h; omega
    | some s =>
     rw [hi] at h
     simp only at h
     rw [List.getLast?_eq_getElem?,hl] at hi
     have hi1:i - 1<arr.length:=by omega
     have hipos:i ≠ 0:=fun e0=>by subst e0; simp [Qy,arrN] at hi
     obtain ⟨-,b2⟩:=ih (i - 1) s _ hi (List.getElem?_eq_getElem hi1)
     unfold iMax at h
     split at h <;> omega
  · rw [List.getElem?_eq_none (by rw [List.length_append,List.length_singleton]; omega)] at h; cases h
/-- What is known of the journeys. -/
structure JourOk (m:FMap) (x:Lry) (legs:List Leg):Prop where
 ch:chOk ⟨m,x⟩ x.ready legs
 sm:sumL ⟨m,x⟩ legs≤1000*(nP ⟨m,x⟩:Int)
 ar:arrL ⟨m,x⟩ x.ready legs≤200000000
 ln:(legs.length:Int)≤1000*(nP ⟨m,x⟩:Int)
def SchedR (m:FMap) (l:List Lry) (to:Int) (res:AV):Prop :=
 (∃ jl:List (List Leg),res=.tup [.rsl ((Yz Qn) jl) 0 jl.length,.int .i64 0]∧toE m to l=0∧jl.length=l.length∧∀ (i:Nat) (x:Lry) (legs:List Leg),l[i]?=some x→jl[i]?=some legs→JourOk m x legs) ∨ ∃ e:Int,e ≠ 0∧res=.tup [.nilSl,.int .i64 e]
section
variable {m:FMap} {l:List Lry} {to gap:Int} {E:Env} {js0:List (List Leg × Nat)} {arr:List Int}
theorem sched_in (hE:PureRE Try.prog 45 (SchedR m l to) E) {at_ e:Int} {ats:List Int} {na i g:Nat} {legs:List Leg} {js:List (List Leg × Nat)} (hJ:js.length≤8) (hi:js[i]?=some (legs,g)) (he:arr[i]?=some e) (hd0:0≤at_ - e) (hd1:at_ - e≤200000000) (hlg:legs.length≤7000000) (hdep:∀ x ∈ legs,0≤x.dep∧x.dep≤7000000)
 (hnext:f45G0 E m l to gap ats na (js.set i (legs.map (shL (at_ - e)),g)) arr (i+1)) :
 ∀ (d k:Nat),k+d=legs.length→f45G1 E m l to gap at_ ats na legs.length (js.set i (shT (at_ - e) k legs,g)) arr k i i:=by
 have hi8:i<js.length:=(List.getElem?_eq_some_iff.1 hi).1
 intro d
 induction d with
 | zero =>
  intro k hk
  refine f45W1 m l to gap at_ ats na legs.length _ arr k i i hE ⟨by rw [List.length_set]; exact hJ,fun q=>absurd q (by omega),fun _=>⟨by omega,?_⟩⟩
  rw [shT_all (by omega)]; exact hnext
 | succ d ih =>
  intro k hk
  have hx:legs[k]?=some legs[k]:=List.getElem?_eq_getElem (by omega)
  generalize legs[k]=x at hx
  obtain ⟨b0,b1⟩:=hdep x (List.mem_of_getElem? hx)
  refine f45W1 m l to gap at_ ats na legs.length _ arr k i i hE ⟨by rw [List.length_set]; exact hJ,fun _=>⟨(shT (at_ - e) k legs,g),by rw [List.getElem?_set_self hi8],x,shT_get hx,e,he,by omega,by omega,by omega,?_⟩,fun q=>absurd (by omega) q⟩
  have:=ih (k+1) (by omega)
  rw [List.set_set]
  show f45G1 E m l to gap at_ ats na legs.length (js.set i ((shT (at_ - e) k legs).set k (shL (at_ - e) x),g)) arr (k+1) i i
  rw [shT_set hx]; exact this
theorem sched_go (hE:PureRE Try.prog 45 (SchedR m l to) E) (hF:FleetOk m l to gap js0 arr) :
 ∀ (d i:Nat) (js:List (List Leg × Nat)),i+d=l.length→js.length=js0.length→(∀ (k:Nat) (x:Lry) (e:List Leg × Nat),k<i→l[k]?=some x→js[k]?=some e→JourOk m x e.1)→(∀ k,i≤k→js[k]?=js0[k]?)→f45G0 E m l to gap (arrN arr gap (Qy l.length)) (arrN arr gap (Qy l.length)).length js arr i:=by
 obtain ⟨hm,hl8,hlry,htw⟩:=qZ hF.te
 have hgp:=YK.1 hF.gp
 have hal:(arrN arr gap (Qy l.length)).length=l.length:=by rw [QcF,Xt]
 have hlj:=hF.ljs
 have hla:=hF.larr
 have lrd:∀ (k:Nat) (x:Lry) (e:List Leg × Nat),l[k]?=some x→js0[k]?=some e→arrL ⟨m,x⟩ x.ready e.1≤6100000:=fun k x e hx he=>by
  obtain ⟨⟨ok,-⟩,r0,r1⟩:=QbB hm (hlry x (List.mem_of_getElem? hx))
  have h1:=(hF.dr k x e hx he).1.ar
  have h2:=QaL ok
  have h3:arrL ⟨m,x⟩ x.ready e.1≤x.ready+1000*(nP ⟨m,x⟩:Int):=h1
  omega
 have harr:∀ t ∈ arr,t≤6100000:=fun t ht=>by
  obtain ⟨k,hk⟩:=List.mem_iff_getElem?.1 ht
  have hkl:=(List.getElem?_eq_some_iff.1 hk).1
  have hx:l[k]?=some l[k]:=List.getElem?_eq_getElem (by omega)
  have he:js0[k]?=some js0[k]:=List.getElem?_eq_getElem (by omega)
  have h1:=(hF.dr k _ _ hx he).2
  rw [hk] at h1
  have:=lrd k _ _ hx he
  have:=Option.some.inj h1
  omega
 intro d
 induction d with
 | zero =>
  intro i js hi hl hd hu
  refine f45W0 m l to gap _ _ js arr i hE ⟨by omega,fun q=>absurd q (by omega),fun _=>.inl ⟨js.map Prod.fst,rfl,hF.te,by rw [List.length_map]; omega,fun k x legs hx hg=>?_⟩⟩
  rw [List.getElem?_map,Option.map_eq_some_iff] at hg
  obtain ⟨e,he,rfl⟩:=hg
  exact hd k x e (by have:=(List.getElem?_eq_some_iff.1 hx).1; omega) hx he
 | succ d ih =>
  intro i js hi hl hd hu
  have hx:l[i]?=some l[i]:=List.getElem?_eq_getElem (by omega)
  generalize l[i]=x at hx
  have he0:js0[i]?=some js0[i]:=List.getElem?_eq_getElem (by omega)
  generalize js0[i]=e0 at he0
  obtain ⟨legs,g⟩:=e0
  have he:js[i]?=some (legs,g):=by rw [hu i (Nat.le_refl i)]; exact he0
  obtain ⟨⟨ok,-⟩,r0,r1⟩:=QbB hm (hlry x (List.mem_of_getElem? hx))
  obtain ⟨hD,hA⟩:=hF.dr i x _ hx he0
  have hbd:=lrd i x _ hx he0
  have hN:=QaL ok
  have hln:=hD.ln
  simp only at hA hbd hln
  have ht:(arrN arr gap (Qy l.length))[i]?=some ((arrN arr gap (Qy l.length))[i]'(by omega)):=List.getElem?_eq_getElem (by omega)
  generalize (arrN arr gap (Qy l.length))[i]'(by omega)=t at ht
  obtain ⟨t0,t1⟩:=arrN_bd (B:=6100000) (by omega) hgp harr l.length (by omega) i t _ ht hA
  obtain ⟨c1,c2⟩:=Kq ok hD.ch
  have hrd:x.ready≤arrL ⟨m,x⟩ x.ready legs:=c1
  refine f45W0 m l to gap _ _ js arr i hE ⟨by omega,fun _=>⟨t,ht,(legs,g),he,?_⟩,fun q=>absurd (by omega) q⟩
  have hj:=sched_in (gap:=gap) hE (at_:=t) (ats:=arrN arr gap (Qy l.length)) (na:=(arrN arr gap (Qy l.length)).length) (by omega) he hA (by omega) (by omega) (by omega) (fun y hy=>by
   obtain ⟨d0,d1⟩:=c2 y hy
   have d0':x.ready≤y.dep:=d0
   have d1':y.dep+XR ⟨m,x⟩ y≤arrL ⟨m,x⟩ x.ready legs:=d1
   obtain ⟨p0,p1,-⟩:=QcB ok hD.ch y hy
   have:=(VJ ok p0 p1).1
   omega) (ih (i+1) _ (by omega) (by rw [List.length_set]; exact hl) (fun k y e hk hy hek=>?_) (fun k hk=>?_)) legs.length 0 (by omega)
  · rw [shT_zero,set_self he] at hj; exact hj
  · rcases Nat.lt_or_ge k i with q | q
    · rw [List.getElem?_set_ne (by omega)] at hek
      exact hd k y e q hy hek
    · have:k=i:=by omega
      subst this
      rw [List.getElem?_set_self (by omega)] at hek
      simp only [Option.some.injEq] at hek; subst hek
      rw [hx] at hy; simp only [Option.some.injEq] at hy; subst hy
      have hs:=QbC (a:=⟨m,x⟩) (d:=t - arrL ⟨m,x⟩ x.ready legs) (l:=legs) (t:=x.ready) (t':=x.ready) (by omega)
      exact ⟨Qbx hD.ch (by show x.ready≤x.ready+_; omega),by rw [QaR]; exact hD.sm,(show arrL ⟨m,x⟩ x.ready (legs.map (shL (t - arrL ⟨m,x⟩ x.ready legs)))≤200000000 by omega),by rw [List.length_map]; exact hD.ln⟩
  · rw [List.getElem?_set_ne (by omega)]; exact hu k (by omega)
end
theorem sched_ok (m:FMap) (l:List Lry) (to gap:Int) (h:MapSmall m∧l.length≤1000):NewR Try.prog 45 [.agg [.rsl (rowB m.park) 0 m.park.length,.rsl (Qb m.roads) 0 m.roads.length],.rsl (Qo l) 0 l.length,.int .i64 to,.int .i64 gap] fun res bs2=>SchedR m l to res∧bs2=[] :=
 pureR_of Try.func45 f45b fun E hE=>f45W m l to gap hE (f45W5020 m l to gap hE ⟨⟨h.1,by omega⟩,fun js arr g2 g3 hF=>by
  have hgp:=YK.1 hF.gp
  have hlj:=hF.ljs
  have hla:=hF.larr
  obtain ⟨hm,hl8,hlry,htw⟩:=qZ hF.te
  refine f45W5020a m l to gap js arr g2 g3 hE ⟨fleet_len hF,h.2,⟨by rw [Xt]; exact h.2,fun x hx=>?_,fun t ht=>?_,hgp⟩,sched_go hE hF l.length 0 js (by omega) rfl (fun k x e hk=>by omega) (fun k _=>rfl)⟩
  · obtain ⟨i,hi,rfl⟩:=List.mem_map.1 hx
    rw [List.mem_range] at hi
    omega
  · obtain ⟨k,hk⟩:=List.mem_iff_getElem?.1 ht
    have hkl:=(List.getElem?_eq_some_iff.1 hk).1
    have hx:l[k]?=some l[k]:=List.getElem?_eq_getElem (by omega)
    have he:js[k]?=some js[k]:=List.getElem?_eq_getElem (by omega)
    obtain ⟨hD,h1⟩:=hF.dr k _ _ hx he
    rw [hk] at h1
    have h2:=Option.some.inj h1
    obtain ⟨⟨ok,-⟩,r0,r1⟩:=QbB hm (hlry _ (List.mem_of_getElem? hx))
    have h3:=QaL ok
    have h4:arrL ⟨m,l[k]⟩ l[k].ready js[k].1≤l[k].ready+1000*(nP ⟨m,l[k]⟩:Int):=hD.ar
    have h5:l[k].ready≤arrL ⟨m,l[k]⟩ l[k].ready js[k].1:=(Kq ok hD.ch).1
    omega,fun e he=>f45W5020b m l to gap e hE ⟨fun _=>.inr ⟨e,he,rfl⟩,fun q=>absurd q he⟩⟩)
end Go.Proofs.Ytemklbioijmjiaa
namespace Go.Proofs.Ytemklbioijmjiaa
open Go Ax
open Go.Proofs
def We (b:List Int):Bool:=decide (Xj b=0)
theorem settleK_err {b:List Int} (h:¬ Xj b=0):(Qh b).2=Xj b:=by rw [Qh,if_neg h]
theorem sumI_take {l:List Int} {i:Nat} {e:Int} (h:l[i]?=some e):sumI (l.take (i+1))=sumI (l.take i)+e:=by
 unfold sumI
 rw [List.take_add_one,h,List.sum_append]; simp
theorem f34b:Try.f34.body=some (Qf Try.prog 34):=by kernel_rfl
theorem u34 {a c k:List AV} {r:AV} (h:Pure Try.prog 34 (a++c++k) r):Qc Try.prog (.clos 34 a k) c r:=Qk Try.func34 (by kernel_rfl) f34b h
def f34K0 (P:Program):List Item:=kAt 400 [.code (Qf P 34)] [.stop]
def f34S0 (l:(List Int)) (n:Int) (i:Nat):St:=⟨([.rsl (rowI l) 0 l.length,J,J,.int .i64 n,.int .i64 (i:Int)]++Js 13),[]⟩
def f34G0 (E:Env) (l:(List Int)) (n:Int) (i:Nat):Prop:=G Try.prog E (f34K0 Try.prog) (f34S0 l n i )
theorem f34W (l:(List Int)) {E:Env} {rv:Int} (hE:Qr Try.prog 34 (.int .i64 rv) E)
 (h:f34G0 E l 0 0):G Try.prog E [.code (Qf Try.prog 34)] ⟨[.rsl (rowI l) 0 l.length]++unds (Try.f34.ntmps - 1),[]⟩:=by
 exact sQ [0,3,4] 0 [.stop] [] hE trivial h
theorem f34W0 (l:(List Int)) (n:Int) (i:Nat) {E:Env} {rv:Int} (hE:Qr Try.prog 34 (.int .i64 rv) E)
 (h:(((i:Int)<(l.length:Int)→(∃ e:Int,l[i]?=some e∧((I6 (n+e))∧((I6 ((i:Int)+1))∧f34G0 E l (n+e) (i+1)))))∧(¬ ((i:Int)<(l.length:Int))→rv=n))):f34G0 E l n i:=by
 rcases bft (decide ((i:Int)<(l.length:Int))) with hc0 | hc0
 · have h:=h.1 (odt hc0)
   obtain ⟨e,h1,h⟩:=h
   obtain ⟨q4_1,h⟩:=h
   obtain ⟨q5_1,h⟩:=h
   exact sQ [0,3,4] 0 [.b true,.ld (.int .i64 e),.stop] [(decide ((i:Int)<(l.length:Int)))=true,0≤(i:Int)∧(i:Int)<(l.length:Int),((rowI l).drop (0+(Int.toNat (i:Int))*1)).take 1=[.int .i64 e],InR .i64 (n+e),InR .i64 ((i:Int)+1)] hE ⟨hc0,(Qm h1),(rp cI 1 0 1 h1),q4_1,q5_1,trivial⟩ h
 · have h:=h.2 (odf hc0)
   exact eL (.int .i64 n) [.b false] [(decide ((i:Int)<(l.length:Int)))=false] hE Try.func34 ⟨hc0,trivial⟩ (by exact AvLe.of_eq (by rw [h]; try rfl))
theorem topSum_ok (l:List Int) (h:SumOk l):Pure Try.prog 34 [.rsl (rowI l) 0 l.length] (.int .i64 (sumI l)):=Qt Try.func34 f34b fun E hE=>by
 obtain ⟨h1,h2⟩:=h
 have key:∀ (d i:Nat),i+d=l.length→f34G0 E l (sumI (l.take i)) i:=by
  intro d
  induction d with
  | zero =>
   intro i hd
   rw [List.take_of_length_le (by omega)]
   exact f34W0 l _ i (rv:=sumI l) hE ⟨fun h=>by omega,fun _=>rfl⟩
  | succ d ih =>
   intro i hd
   have hi:l[i]?=some l[i]:=List.getElem?_eq_getElem (by omega)
   have hs:=sumI_take hi
   have b:=h2 (i+1) (by omega)
   refine f34W0 l _ i (rv:=sumI l) hE ⟨fun _=>⟨_,hi,by rw [← hs]; exact b,by omega,?_⟩,fun h=>by omega⟩
   rw [← hs]; exact ih (i+1) (by omega)
 exact f34W l (rv:=sumI l) hE (key l.length 0 (by omega))
theorem f105b:Try.f105.body=some (Qf Try.prog 105):=by kernel_rfl
theorem u105 {a c k:List AV} {r:AV} (h:Pure Try.prog 105 (a++c++k) r):Qc Try.prog (.clos 105 a k) c r:=Qk Try.func105 (by kernel_rfl) f105b h
def f105K0 (P:Program):List Item:=kAt 400 [.code (Qf P 105)] [.stop]
def f105S0 (l:(List Int)) (i:Nat):St:=⟨([.rsl (rowI l) 0 l.length,J,J,.int .i64 (i:Int)]++Js 11),[]⟩
def f105G0 (E:Env) (l:(List Int)) (i:Nat):Prop:=G Try.prog E (f105K0 Try.prog) (f105S0 l i )
theorem f105W (l:(List Int)) {E:Env} {rv:Bool} (hE:Qr Try.prog 105 (.bool rv) E)
 (h:f105G0 E l 0):G Try.prog E [.code (Qf Try.prog 105)] ⟨[.rsl (rowI l) 0 l.length]++unds (Try.f105.ntmps - 1),[]⟩:=by
 exact sQ [0,3] 0 [.stop] [] hE trivial h
theorem f105W0 (l:(List Int)) (i:Nat) {E:Env} {rv:Bool} (hE:Qr Try.prog 105 (.bool rv) E)
 (h:(((i:Int)<(l.length:Int)→(∃ e:Int,l[i]?=some e∧((¬ (e=0)→rv=false)∧(e=0→((I6 ((i:Int)+1))∧f105G0 E l (i+1))))))∧(¬ ((i:Int)<(l.length:Int))→rv=true))):f105G0 E l i:=by
 rcases bft (decide ((i:Int)<(l.length:Int))) with hc0 | hc0
 · have h:=h.1 (odt hc0)
   obtain ⟨e,h1,h⟩:=h
   rcases bft (e != 0) with hc1 | hc1
   · have h:=h.1 (bneT hc1)
     exact eL (.bool false) [.b true,.ld (.int .i64 e),.b true] [(decide ((i:Int)<(l.length:Int)))=true,0≤(i:Int)∧(i:Int)<(l.length:Int),((rowI l).drop (0+(Int.toNat (i:Int))*1)).take 1=[.int .i64 e],(e != 0)=true] hE Try.func105 ⟨hc0,(Qm h1),(rp cI 1 0 1 h1),hc1,trivial⟩ (by exact AvLe.of_eq (by rw [h]; try rfl))
   · have h:=h.2 (bneF hc1)
     obtain ⟨q5_2,h⟩:=h
     exact sQ [0,3] 0 [.b true,.ld (.int .i64 e),.b false,.stop] [(decide ((i:Int)<(l.length:Int)))=true,0≤(i:Int)∧(i:Int)<(l.length:Int),((rowI l).drop (0+(Int.toNat (i:Int))*1)).take 1=[.int .i64 e],(e != 0)=false,InR .i64 ((i:Int)+1)] hE ⟨hc0,(Qm h1),(rp cI 1 0 1 h1),hc1,q5_2,trivial⟩ h
 · have h:=h.2 (odf hc0)
   exact eL (.bool true) [.b false] [(decide ((i:Int)<(l.length:Int)))=false] hE Try.func105 ⟨hc0,trivial⟩ (by exact AvLe.of_eq (by rw [h]; try rfl))
theorem QbH (l:List Int) (h:l.length≤9223372036854775807):Pure Try.prog 105 [.rsl (rowI l) 0 l.length] (.bool (l.all fun e=>decide (e=0))):=Qt Try.func105 f105b fun E hE=>by
 have key:∀ (d i:Nat),i+d=l.length→(l.all fun e=>decide (e=0))=((l.drop i).all fun e=>decide (e=0))→f105G0 E l i:=by
  intro d
  induction d with
  | zero =>
   intro i hd hall
   rw [List.drop_eq_nil_of_le (by omega)] at hall
   exact f105W0 l i (rv:=l.all fun e=>decide (e=0)) hE ⟨fun h=>by omega,fun _=>hall⟩
  | succ d ih =>
   intro i hd hall
   have hi:l[i]?=some l[i]:=List.getElem?_eq_getElem (by omega)
   rw [List.drop_eq_getElem_cons (by omega),List.all_cons] at hall
   refine f105W0 l i (rv:=l.all fun e=>decide (e=0)) hE ⟨fun _=>⟨_,hi,fun h0=>by rw [hall,decide_eq_false h0]; rfl,fun h0=>⟨by omega,ih (i+1) (by omega) ?_⟩⟩,fun h=>by omega⟩
   rw [hall,decide_eq_true h0]; rfl
 exact f105W l (rv:=l.all fun e=>decide (e=0)) hE (key l.length 0 (by omega) rfl)
theorem f43b:Try.f43.body=some (Qf Try.prog 43):=by kernel_rfl
theorem u43 {a c k:List AV} {r:AV} (h:Pure Try.prog 43 (a++c++k) r):Qc Try.prog (.clos 43 a k) c r:=Qk Try.func43 (by kernel_rfl) f43b h
def f43K0 (P:Program):List Item:=kAt 400 [.code (Qf P 43)] [.b false,.stop]
def f43S0 (b:(List Int)) (open_:Nat) (i:Nat):St:=⟨([.rsl (rowI b) 0 b.length,J,J,J,J,.int .i64 ((fewK b).1),J,.rsl (rowI ((payK b ((Qh b).1)).1)) 0 (((payK b ((Qh b).1)).1).length),.int .i64 ((payK b ((Qh b).1)).2),.int .i64 (open_:Int),.int .i64 (i:Int)]++Js 75),[⟨false,2,1,true,[],false⟩,⟨false,2,1,true,[],false⟩,⟨false,2,1,true,[],false⟩,⟨false,2,3,true,[],false⟩]⟩
def f43G0 (E:Env) (b:(List Int)) (open_:Nat) (i:Nat):Prop:=G Try.prog E (f43K0 Try.prog) (f43S0 b open_ i )
theorem f43W (b:(List Int)) {E:Env} {rv:Bool} (hE:Qr Try.prog 43 (.bool rv) E)
 (h:((0+b.length)≤2147483648∧((b.length≤9223372036854775807)∧((0+b.length)≤2147483648∧((b.length≤9223372036854775807)∧((¬ ((Qh b).2=0)→rv=false)∧((Qh b).2=0→((¬ ((fewK b).2=0)→rv=false)∧((fewK b).2=0→((¬ (((((Qh b).1).length:Nat):Int)=(fewK b).1)→rv=false)∧(((((Qh b).1).length:Nat):Int)=(fewK b).1→((0+b.length)≤2147483648∧((0+((Qh b).1).length)≤2147483648∧((b.length≤9223372036854775807)∧f43G0 E b 0 0)))))))))))))):G Try.prog E [.code (Qf Try.prog 43)] ⟨[.rsl (rowI b) 0 b.length]++unds (Try.f43.ntmps - 1),[]⟩:=by
 obtain ⟨h1,h⟩:=h
 obtain ⟨h2,h⟩:=h
 obtain ⟨h3,h⟩:=h
 obtain ⟨h4,h⟩:=h
 rcases bft ((Qh b).2 != 0) with hc0 | hc0
 · have h:=h.1 (bneT hc0)
   exact eL (.bool false) [.fz,.cs (rowI b),.v (.tup [.rsl (Qu ((Qh b).1)) 0 (((Qh b).1).length),.int .i64 ((Qh b).2)]),.fz,.cs (rowI b),.v (.tup [.int .i64 ((fewK b).1),.int .i64 ((fewK b).2)]),.b true,.b true,.b true] [1=1,0=0,0=0,(0+b.length)≤2147483648,((rowI b).drop 0).take (b.length*1)=(rowI b),(rowI b).length=(b.length*1),noRefs (rowI b)=true,Qc Try.prog (.clos 102 [] []) [.rsl (rowI b) 0 (0+b.length)] (.tup [.rsl (Qu ((Qh b).1)) 0 (((Qh b).1).length),.int .i64 ((Qh b).2)]),1=1,0=0,0=0,(0+b.length)≤2147483648,((rowI b).drop 0).take (b.length*1)=(rowI b),(rowI b).length=(b.length*1),noRefs (rowI b)=true,Qc Try.prog (.clos 103 [] []) [.rsl (rowI b) 0 (0+b.length)] (.tup [.int .i64 ((fewK b).1),.int .i64 ((fewK b).2)]),((Qh b).2 != 0)=true,true=true,true=true] hE Try.func43 ⟨rfl,rfl,rfl,h1,(by exact XX cI (fun _=>rfl) b),(by exact QG cI (fun _=>rfl) b),(by exact Yo cI (fun _=>rfl) b),(by rw [(show AV.rsl (rowI b) 0 (0+b.length)=AV.rsl (rowI b) 0 b.length from by rw [show (0+b.length)=b.length from by simp])]; exact (u102 (WA b h2))),rfl,rfl,rfl,h3,(by exact XX cI (fun _=>rfl) b),(by exact QG cI (fun _=>rfl) b),(by exact Yo cI (fun _=>rfl) b),(by rw [(show AV.rsl (rowI b) 0 (0+b.length)=AV.rsl (rowI b) 0 b.length from by rw [show (0+b.length)=b.length from by simp])]; exact (u103 (qX b h4))),hc0,rfl,rfl,trivial⟩ (by exact AvLe.of_eq (by rw [h]; try rfl))
 · have h:=h.2 (bneF hc0)
   rcases bft ((fewK b).2 != 0) with hc1 | hc1
   · have h:=h.1 (bneT hc1)
     exact eL (.bool false) [.fz,.cs (rowI b),.v (.tup [.rsl (Qu ((Qh b).1)) 0 (((Qh b).1).length),.int .i64 ((Qh b).2)]),.fz,.cs (rowI b),.v (.tup [.int .i64 ((fewK b).1),.int .i64 ((fewK b).2)]),.b false,.b true,.b true] [1=1,0=0,0=0,(0+b.length)≤2147483648,((rowI b).drop 0).take (b.length*1)=(rowI b),(rowI b).length=(b.length*1),noRefs (rowI b)=true,Qc Try.prog (.clos 102 [] []) [.rsl (rowI b) 0 (0+b.length)] (.tup [.rsl (Qu ((Qh b).1)) 0 (((Qh b).1).length),.int .i64 ((Qh b).2)]),1=1,0=0,0=0,(0+b.length)≤2147483648,((rowI b).drop 0).take (b.length*1)=(rowI b),(rowI b).length=(b.length*1),noRefs (rowI b)=true,Qc Try.prog (.clos 103 [] []) [.rsl (rowI b) 0 (0+b.length)] (.tup [.int .i64 ((fewK b).1),.int .i64 ((fewK b).2)]),((Qh b).2 != 0)=false,((fewK b).2 != 0)=true,true=true] hE Try.func43 ⟨rfl,rfl,rfl,h1,(by exact XX cI (fun _=>rfl) b),(by exact QG cI (fun _=>rfl) b),(by exact Yo cI (fun _=>rfl) b),(by rw [(show AV.rsl (rowI b) 0 (0+b.length)=AV.rsl (rowI b) 0 b.length from by rw [show (0+b.length)=b.length from by simp])]; exact (u102 (WA b h2))),rfl,rfl,rfl,h3,(by exact XX cI (fun _=>rfl) b),(by exact QG cI (fun _=>rfl) b),(by exact Yo cI (fun _=>rfl) b),(by rw [(show AV.rsl (rowI b) 0 (0+b.length)=AV.rsl (rowI b) 0 b.length from by rw [show (0+b.length)=b.length from by simp])]; exact (u103 (qX b h4))),hc0,hc1,rfl,trivial⟩ (by exact AvLe.of_eq (by rw [h]; try rfl))
   · have h:=h.2 (bneF hc1)
     rcases bft (((((Qh b).1).length:Nat):Int) != (fewK b).1) with hc2 | hc2
     · have h:=h.1 (bneT hc2)
       exact eL (.bool false) [.fz,.cs (rowI b),.v (.tup [.rsl (Qu ((Qh b).1)) 0 (((Qh b).1).length),.int .i64 ((Qh b).2)]),.fz,.cs (rowI b),.v (.tup [.int .i64 ((fewK b).1),.int .i64 ((fewK b).2)]),.b false,.b false,.b true] [1=1,0=0,0=0,(0+b.length)≤2147483648,((rowI b).drop 0).take (b.length*1)=(rowI b),(rowI b).length=(b.length*1),noRefs (rowI b)=true,Qc Try.prog (.clos 102 [] []) [.rsl (rowI b) 0 (0+b.length)] (.tup [.rsl (Qu ((Qh b).1)) 0 (((Qh b).1).length),.int .i64 ((Qh b).2)]),1=1,0=0,0=0,(0+b.length)≤2147483648,((rowI b).drop 0).take (b.length*1)=(rowI b),(rowI b).length=(b.length*1),noRefs (rowI b)=true,Qc Try.prog (.clos 103 [] []) [.rsl (rowI b) 0 (0+b.length)] (.tup [.int .i64 ((fewK b).1),.int .i64 ((fewK b).2)]),((Qh b).2 != 0)=false,((fewK b).2 != 0)=false,(((((Qh b).1).length:Nat):Int) != (fewK b).1)=true] hE Try.func43 ⟨rfl,rfl,rfl,h1,(by exact XX cI (fun _=>rfl) b),(by exact QG cI (fun _=>rfl) b),(by exact Yo cI (fun _=>rfl) b),(by rw [(show AV.rsl (rowI b) 0 (0+b.length)=AV.rsl (rowI b) 0 b.length from by rw [show (0+b.length)=b.length from by simp])]; exact (u102 (WA b h2))),rfl,rfl,rfl,h3,(by exact XX cI (fun _=>rfl) b),(by exact QG cI (fun _=>rfl) b),(by exact Yo cI (fun _=>rfl) b),(by rw [(show AV.rsl (rowI b) 0 (0+b.length)=AV.rsl (rowI b) 0 b.length from by rw [show (0+b.length)=b.length from by simp])]; exact (u103 (qX b h4))),hc0,hc1,hc2,trivial⟩ (by exact AvLe.of_eq (by rw [h]; try rfl))
     · have h:=h.2 (bneF hc2)
       obtain ⟨h5,h⟩:=h
       obtain ⟨h6,h⟩:=h
       obtain ⟨h7,h⟩:=h
       exact sQ [0,5,7,8,9,10] 4 [.fz,.cs (rowI b),.v (.tup [.rsl (Qu ((Qh b).1)) 0 (((Qh b).1).length),.int .i64 ((Qh b).2)]),.fz,.cs (rowI b),.v (.tup [.int .i64 ((fewK b).1),.int .i64 ((fewK b).2)]),.b false,.b false,.b false,.fz,.cs (rowI b),.fz,.cs (Qu ((Qh b).1)),.v (.tup [.rsl (rowI ((payK b ((Qh b).1)).1)) 0 (((payK b ((Qh b).1)).1).length),.int .i64 ((payK b ((Qh b).1)).2)]),.stop] [1=1,0=0,0=0,(0+b.length)≤2147483648,((rowI b).drop 0).take (b.length*1)=(rowI b),(rowI b).length=(b.length*1),noRefs (rowI b)=true,Qc Try.prog (.clos 102 [] []) [.rsl (rowI b) 0 (0+b.length)] (.tup [.rsl (Qu ((Qh b).1)) 0 (((Qh b).1).length),.int .i64 ((Qh b).2)]),1=1,0=0,0=0,(0+b.length)≤2147483648,((rowI b).drop 0).take (b.length*1)=(rowI b),(rowI b).length=(b.length*1),noRefs (rowI b)=true,Qc Try.prog (.clos 103 [] []) [.rsl (rowI b) 0 (0+b.length)] (.tup [.int .i64 ((fewK b).1),.int .i64 ((fewK b).2)]),((Qh b).2 != 0)=false,((fewK b).2 != 0)=false,(((((Qh b).1).length:Nat):Int) != (fewK b).1)=false,1=1,0=0,0=0,(0+b.length)≤2147483648,((rowI b).drop 0).take (b.length*1)=(rowI b),(rowI b).length=(b.length*1),noRefs (rowI b)=true,1=1,0=0,0=0,(0+((Qh b).1).length)≤2147483648,((Qu ((Qh b).1)).drop 0).take (((Qh b).1).length*3)=(Qu ((Qh b).1)),(Qu ((Qh b).1)).length=(((Qh b).1).length*3),noRefs (Qu ((Qh b).1))=true,Qc Try.prog (.clos 104 [] []) [.rsl (rowI b) 0 (0+b.length),.rsl (Qu ((Qh b).1)) 0 (0+((Qh b).1).length)] (.tup [.rsl (rowI ((payK b ((Qh b).1)).1)) 0 (((payK b ((Qh b).1)).1).length),.int .i64 ((payK b ((Qh b).1)).2)])] hE ⟨rfl,rfl,rfl,h1,(by exact XX cI (fun _=>rfl) b),(by exact QG cI (fun _=>rfl) b),(by exact Yo cI (fun _=>rfl) b),(by rw [(show AV.rsl (rowI b) 0 (0+b.length)=AV.rsl (rowI b) 0 b.length from by rw [show (0+b.length)=b.length from by simp])]; exact (u102 (WA b h2))),rfl,rfl,rfl,h3,(by exact XX cI (fun _=>rfl) b),(by exact QG cI (fun _=>rfl) b),(by exact Yo cI (fun _=>rfl) b),(by rw [(show AV.rsl (rowI b) 0 (0+b.length)=AV.rsl (rowI b) 0 b.length from by rw [show (0+b.length)=b.length from by simp])]; exact (u103 (qX b h4))),hc0,hc1,hc2,rfl,rfl,rfl,h5,(by exact XX cI (fun _=>rfl) b),(by exact QG cI (fun _=>rfl) b),(by exact Yo cI (fun _=>rfl) b),rfl,rfl,rfl,h6,(by exact XX cPay (fun _=>rfl) ((Qh b).1)),(by exact QG cPay (fun _=>rfl) ((Qh b).1)),(by exact Yo cPay (fun _=>rfl) ((Qh b).1)),(by rw [(show AV.rsl (rowI b) 0 (0+b.length)=AV.rsl (rowI b) 0 b.length from by rw [show (0+b.length)=b.length from by simp])]; rw [(show AV.rsl (Qu ((Qh b).1)) 0 (0+((Qh b).1).length)=AV.rsl (Qu ((Qh b).1)) 0 ((Qh b).1).length from by rw [show (0+((Qh b).1).length)=((Qh b).1).length from by simp])]; exact (u104 (PayP_ok b ((Qh b).1) h7))),trivial⟩ h
theorem f43W0 (b:(List Int)) (open_:Nat) (i:Nat) {E:Env} {rv:Bool} (hE:Qr Try.prog 43 (.bool rv) E)
 (h:(((i:Int)<(b.length:Int)→(∃ e:Int,b[i]?=some e∧((¬ (e=0)→((I6 ((open_:Int)+1))∧((I6 ((i:Int)+1))∧f43G0 E b (open_+1) (i+1))))∧(e=0→((I6 ((i:Int)+1))∧f43G0 E b open_ (i+1))))))∧(¬ ((i:Int)<(b.length:Int))→(((payK b ((Qh b).1)).2=0→((((((payK b ((Qh b).1)).1).length:Nat):Int)=(b.length:Int)→((((payK b ((Qh b).1)).1).length≤9223372036854775807)∧(((((payK b ((Qh b).1)).1).all fun e=>decide (e=0))=true→((I6 ((open_:Int) - 1))∧(((fewK b).1≤(iMax 0 ((open_:Int) - 1))→((I6 (2*(fewK b).1))∧rv=(decide ((2*(fewK b).1)≥(open_:Int)))))∧(¬ ((fewK b).1≤(iMax 0 ((open_:Int) - 1)))→rv=false))))∧((((payK b ((Qh b).1)).1).all fun e=>decide (e=0))=false→rv=false))))∧(¬ (((((payK b ((Qh b).1)).1).length:Nat):Int)=(b.length:Int))→rv=false)))∧(¬ ((payK b ((Qh b).1)).2=0)→rv=false))))):f43G0 E b open_ i:=by
 rcases bft (decide ((i:Int)<(b.length:Int))) with hc0 | hc0
 · have h:=h.1 (odt hc0)
   obtain ⟨e,h1,h⟩:=h
   rcases bft (e != 0) with hc1 | hc1
   · have h:=h.1 (bneT hc1)
     obtain ⟨q5_2,h⟩:=h
     obtain ⟨q6_2,h⟩:=h
     exact sQ [0,5,7,8,9,10] 4 [.b true,.ld (.int .i64 e),.b true,.stop] [(decide ((i:Int)<(b.length:Int)))=true,0≤(i:Int)∧(i:Int)<(b.length:Int),((rowI b).drop (0+(Int.toNat (i:Int))*1)).take 1=[.int .i64 e],(e != 0)=true,InR .i64 ((open_:Int)+1),InR .i64 ((i:Int)+1)] hE ⟨hc0,(Qm h1),(rp cI 1 0 1 h1),hc1,q5_2,q6_2,trivial⟩ h
   · have h:=h.2 (bneF hc1)
     obtain ⟨q5_2,h⟩:=h
     exact sQ [0,5,7,8,9,10] 4 [.b true,.ld (.int .i64 e),.b false,.stop] [(decide ((i:Int)<(b.length:Int)))=true,0≤(i:Int)∧(i:Int)<(b.length:Int),((rowI b).drop (0+(Int.toNat (i:Int))*1)).take 1=[.int .i64 e],(e != 0)=false,InR .i64 ((i:Int)+1)] hE ⟨hc0,(Qm h1),(rp cI 1 0 1 h1),hc1,q5_2,trivial⟩ h
 · have h:=h.2 (odf hc0)
   rcases bft ((payK b ((Qh b).1)).2 == 0) with hc1 | hc1
   · have h:=h.1 (eq_of_beq hc1)
     rcases bft (((((payK b ((Qh b).1)).1).length:Nat):Int) == (b.length:Int)) with hc2 | hc2
     · have h:=h.1 (eq_of_beq hc2)
       obtain ⟨h1,h⟩:=h
       rcases bft (((payK b ((Qh b).1)).1).all fun e=>decide (e=0)) with hc3 | hc3
       · have h:=h.1 hc3
         obtain ⟨q5_4,h⟩:=h
         rcases bft (decide ((fewK b).1≤(iMax 0 ((open_:Int) - 1)))) with hc4 | hc4
         · have h:=h.1 (odt hc4)
           obtain ⟨q7_5,h⟩:=h
           exact eL (.bool (decide ((2*(fewK b).1)≥(open_:Int)))) [.b false,.b true,.b true,.v (.bool (((payK b ((Qh b).1)).1).all fun e=>decide (e=0))),.b true,.b true] [(decide ((i:Int)<(b.length:Int)))=false,((payK b ((Qh b).1)).2 == 0)=true,(((((payK b ((Qh b).1)).1).length:Nat):Int) == (b.length:Int))=true,Qc Try.prog (.clos 105 [] []) [.rsl (rowI ((payK b ((Qh b).1)).1)) 0 (((payK b ((Qh b).1)).1).length)] (.bool (((payK b ((Qh b).1)).1).all fun e=>decide (e=0))),(((payK b ((Qh b).1)).1).all fun e=>decide (e=0))=true,InR .i64 ((open_:Int) - 1),(decide ((fewK b).1≤(iMax 0 ((open_:Int) - 1))))=true,InR .i64 (2*(fewK b).1)] hE Try.func43 ⟨hc0,hc1,hc2,(u105 (QbH ((payK b ((Qh b).1)).1) h1)),hc3,q5_4,hc4,q7_5,trivial⟩ (by exact AvLe.of_eq (by rw [h]; try rfl))
         · have h:=h.2 (odf hc4)
           exact eL (.bool false) [.b false,.b true,.b true,.v (.bool (((payK b ((Qh b).1)).1).all fun e=>decide (e=0))),.b true,.b false] [(decide ((i:Int)<(b.length:Int)))=false,((payK b ((Qh b).1)).2 == 0)=true,(((((payK b ((Qh b).1)).1).length:Nat):Int) == (b.length:Int))=true,Qc Try.prog (.clos 105 [] []) [.rsl (rowI ((payK b ((Qh b).1)).1)) 0 (((payK b ((Qh b).1)).1).length)] (.bool (((payK b ((Qh b).1)).1).all fun e=>decide (e=0))),(((payK b ((Qh b).1)).1).all fun e=>decide (e=0))=true,InR .i64 ((open_:Int) - 1),(decide ((fewK b).1≤(iMax 0 ((open_:Int) - 1))))=false] hE Try.func43 ⟨hc0,hc1,hc2,(u105 (QbH ((payK b ((Qh b).1)).1) h1)),hc3,q5_4,hc4,trivial⟩ (by exact AvLe.of_eq (by rw [h]; try rfl))
       · have h:=h.2 hc3
         exact eL (.bool false) [.b false,.b true,.b true,.v (.bool (((payK b ((Qh b).1)).1).all fun e=>decide (e=0))),.b false,.b false] [(decide ((i:Int)<(b.length:Int)))=false,((payK b ((Qh b).1)).2 == 0)=true,(((((payK b ((Qh b).1)).1).length:Nat):Int) == (b.length:Int))=true,Qc Try.prog (.clos 105 [] []) [.rsl (rowI ((payK b ((Qh b).1)).1)) 0 (((payK b ((Qh b).1)).1).length)] (.bool (((payK b ((Qh b).1)).1).all fun e=>decide (e=0))),(((payK b ((Qh b).1)).1).all fun e=>decide (e=0))=false,false=false] hE Try.func43 ⟨hc0,hc1,hc2,(u105 (QbH ((payK b ((Qh b).1)).1) h1)),hc3,rfl,trivial⟩ (by exact AvLe.of_eq (by rw [h]; try rfl))
     · have h:=h.2 (ne_of_beq_false hc2)
       exact eL (.bool false) [.b false,.b true,.b false,.b false,.b false] [(decide ((i:Int)<(b.length:Int)))=false,((payK b ((Qh b).1)).2 == 0)=true,(((((payK b ((Qh b).1)).1).length:Nat):Int) == (b.length:Int))=false,false=false,false=false] hE Try.func43 ⟨hc0,hc1,hc2,rfl,rfl,trivial⟩ (by exact AvLe.of_eq (by rw [h]; try rfl))
   · have h:=h.2 (ne_of_beq_false hc1)
     exact eL (.bool false) [.b false,.b false,.b false,.b false,.b false] [(decide ((i:Int)<(b.length:Int)))=false,((payK b ((Qh b).1)).2 == 0)=false,false=false,false=false,false=false] hE Try.func43 ⟨hc0,hc1,rfl,rfl,rfl,trivial⟩ (by exact AvLe.of_eq (by rw [h]; try rfl))
theorem qE (b:List Int) (h:b.length≤1000000):Pure Try.prog 43 [.rsl (rowI b) 0 b.length] (.bool (We b)):=Qt Try.func43 f43b fun E hE=>by
 by_cases he:Xj b=0
 case neg =>
  have e1:=settleK_err he
  have e2:We b=false:=decide_eq_false he
  exact f43W b (rv:=We b) hE ⟨by omega,by omega,by omega,by omega,fun _=>e2,fun h0=>absurd (e1 ▸ h0) he⟩
 obtain ⟨k1,k2,k3,v,v1,v2,v3⟩:=few_of he
 have hb:=(qJ he).1
 have hc:=cardB_le (b:=b)
 have hl:=(bal_in hb).1
 have es:Qh b=(QY b 1024 (setB b b.length),0):=by rw [Qh,if_pos he]
 have ef:fewK b=((((QY b 1024 (setB b b.length)).length:Nat):Int),0):=by unfold fewK; rw [es]
 have ep:=payK_of hb (show (QY b 1024 (setB b b.length)).length≤60 by omega) v1
 have et:We b=true:=decide_eq_true he
 have hz:(v.all fun e=>decide (e=0))=true:=List.all_eq_true.2 fun e hm=>by
  obtain ⟨i,hi,rfl⟩:=List.getElem_of_mem hm
  have:=v3 i (by omega)
  rw [List.getD,List.getElem?_eq_getElem hi] at this
  exact decide_eq_true this
 have key:∀ (d i:Nat),i+d=b.length→f43G0 E b (opnN b i) i:=by
  intro d
  induction d with
  | zero =>
   intro i hd
   have:i=b.length:=by omega
   subst this
   have eo:opnN b b.length=QcC b:=rfl
   rw [eo]
   refine f43W0 b _ _ (rv:=We b) hE ⟨fun h=>by omega,fun _=>⟨fun _=>⟨fun _=>⟨by rw [es,ep]; simp only; omega,fun _=>⟨by omega,fun _=>⟨by rw [ef]; simp only; omega,?_⟩,fun hn=>absurd ?_ hn⟩,fun hn=>?_⟩,fun hn=>absurd ?_ hn⟩,fun hn=>absurd ?_ hn⟩⟩
   · rw [et,ef]; exact (decide_eq_true (by simp only; omega)).symm
   · rw [ef]; unfold iMax; simp only; split <;> omega
   · rw [es,ep,hz] at hn; cases hn
   · rw [es,ep]; simp only; omega
   · rw [es,ep]
  | succ d ih =>
   intro i hd
   have hi:b[i]?=some b[i]:=List.getElem?_eq_getElem (by omega)
   have nx:=ih (i+1) (by omega)
   rw [opnN_step hi] at nx
   have hol:=opnN_le (b:=b) (i:=i)
   refine f43W0 b _ _ (rv:=We b) hE ⟨fun _=>⟨_,hi,fun h0=>⟨by omega,by omega,?_⟩,fun h0=>⟨by omega,?_⟩⟩,fun h=>by omega⟩
   · rw [if_neg h0] at nx; exact nx
   · rw [if_pos h0] at nx; exact nx
 exact f43W b (rv:=We b) hE ⟨by omega,by omega,by omega,by omega,fun hn=>absurd (by rw [es]) hn,fun _=>⟨fun hn=>absurd (by rw [ef]) hn,fun _=>⟨fun hn=>absurd (by rw [es,ef]) hn,fun _=>⟨by omega,by rw [es]; simp only; omega,by omega,key b.length 0 (by omega)⟩⟩⟩⟩
theorem f106b:Try.f106.body=some (Qf Try.prog 106):=by kernel_rfl
theorem u106 {a c k:List AV} {r:AV} (h:Pure Try.prog 106 (a++c++k) r):Qc Try.prog (.clos 106 a k) c r:=Qk Try.func106 (by kernel_rfl) f106b h
theorem f106W (m:FMap) {E:Env} {rv:Bool} (hE:Qr Try.prog 106 (.bool rv) E)
 (h:(((m.park.length:Int) > 20→rv=true)∧(¬ ((m.park.length:Int) > 20)→rv=(decide ((m.roads.length:Int) > 40))))):G Try.prog E [.code (Qf Try.prog 106)] ⟨[.agg [.rsl (rowB m.park) 0 m.park.length,.rsl (Qb m.roads) 0 m.roads.length]]++unds (Try.f106.ntmps - 1),[]⟩:=by
 rcases bft (decide ((m.park.length:Int) > 20)) with hc0 | hc0
 · have h:=h.1 (odt hc0)
   exact eL (.bool true) [.b true] [(decide ((m.park.length:Int) > 20))=true] hE Try.func106 ⟨hc0,trivial⟩ (by exact AvLe.of_eq (by rw [h]; try rfl))
 · have h:=h.2 (odf hc0)
   exact eL (.bool (decide ((m.roads.length:Int) > 40))) [.b false] [(decide ((m.park.length:Int) > 20))=false] hE Try.func106 ⟨hc0,trivial⟩ (by exact AvLe.of_eq (by rw [h]; try rfl))
def farM (m:FMap):Bool:=decide ((m.park.length:Int) > 20) || decide ((m.roads.length:Int) > 40)
theorem Qal (m:FMap):Pure Try.prog 106 [.agg [.rsl (rowB m.park) 0 m.park.length,.rsl (Qb m.roads) 0 m.roads.length]] (.bool (farM m)):=Qt Try.func106 f106b fun E hE=>f106W m (rv:=farM m) hE ⟨fun h=>by simp [farM,h],fun h=>by simp [farM,h]⟩
theorem f44b:Try.f44.body=some (Qf Try.prog 44):=by kernel_rfl
theorem u44 {a c k:List AV} {r:AV} (h:Pure Try.prog 44 (a++c++k) r):Qc Try.prog (.clos 44 a k) c r:=Qk Try.func44 (by kernel_rfl) f44b h
def f44K0 (P:Program):List Item:=kAt 400 [.code (Qf P 44)] [.b false,.stop]
def f44S0 (m:FMap) (l:(List Lry)) (i:Nat):St:=⟨([J,.rsl (Qo l) 0 l.length,J,J,J,.int .i64 (i:Int)]++Js 39),[⟨true,0,1,true,[.rsl (rowB m.park) 0 m.park.length,.rsl (Qb m.roads) 0 m.roads.length],false⟩]⟩
def f44G0 (E:Env) (m:FMap) (l:(List Lry)) (i:Nat):Prop:=G Try.prog E (f44K0 Try.prog) (f44S0 m l i )
theorem f44W (m:FMap) (l:(List Lry)) {E:Env} {rv:Bool} (hE:Qr Try.prog 44 (.bool rv) E)
 (h:(((farM m)=true→rv=true)∧((farM m)=false→(((m.park.length:Int) > 5→rv=true)∧(¬ ((m.park.length:Int) > 5)→(((m.roads.length:Int) > 8→rv=true)∧(¬ ((m.roads.length:Int) > 8)→(((l.length:Int) > 12→rv=true)∧(¬ ((l.length:Int) > 12)→f44G0 E m l 0))))))))):G Try.prog E [.code (Qf Try.prog 44)] ⟨[.agg [.rsl (rowB m.park) 0 m.park.length,.rsl (Qb m.roads) 0 m.roads.length],.rsl (Qo l) 0 l.length]++unds (Try.f44.ntmps - 2),[]⟩:=by
 rcases bft (farM m) with hc0 | hc0
 · have h:=h.1 hc0
   exact eL (.bool true) [.v (.bool (farM m)),.b true,.b true,.b true,.b true] [Qc Try.prog (.clos 106 [] []) [.agg [.rsl (rowB m.park) 0 m.park.length,.rsl (Qb m.roads) 0 m.roads.length]] (.bool (farM m)),(farM m)=true,true=true,true=true,true=true] hE Try.func44 ⟨(u106 (Qal m)),hc0,rfl,rfl,rfl,trivial⟩ (by exact AvLe.of_eq (by rw [h]; try rfl))
 · have h:=h.2 hc0
   rcases bft (decide ((m.park.length:Int) > 5)) with hc1 | hc1
   · have h:=h.1 (odt hc1)
     exact eL (.bool true) [.v (.bool (farM m)),.b false,.b true,.b true,.b true] [Qc Try.prog (.clos 106 [] []) [.agg [.rsl (rowB m.park) 0 m.park.length,.rsl (Qb m.roads) 0 m.roads.length]] (.bool (farM m)),(farM m)=false,(decide ((m.park.length:Int) > 5))=true,true=true,true=true] hE Try.func44 ⟨(u106 (Qal m)),hc0,hc1,rfl,rfl,trivial⟩ (by exact AvLe.of_eq (by rw [h]; try rfl))
   · have h:=h.2 (odf hc1)
     rcases bft (decide ((m.roads.length:Int) > 8)) with hc2 | hc2
     · have h:=h.1 (odt hc2)
       exact eL (.bool true) [.v (.bool (farM m)),.b false,.b false,.b true,.b true] [Qc Try.prog (.clos 106 [] []) [.agg [.rsl (rowB m.park) 0 m.park.length,.rsl (Qb m.roads) 0 m.roads.length]] (.bool (farM m)),(farM m)=false,(decide ((m.park.length:Int) > 5))=false,(decide ((m.roads.length:Int) > 8))=true,true=true] hE Try.func44 ⟨(u106 (Qal m)),hc0,hc1,hc2,rfl,trivial⟩ (by exact AvLe.of_eq (by rw [h]; try rfl))
     · have h:=h.2 (odf hc2)
       rcases bft (decide ((l.length:Int) > 12)) with hc3 | hc3
       · have h:=h.1 (odt hc3)
         exact eL (.bool true) [.v (.bool (farM m)),.b false,.b false,.b false,.b true] [Qc Try.prog (.clos 106 [] []) [.agg [.rsl (rowB m.park) 0 m.park.length,.rsl (Qb m.roads) 0 m.roads.length]] (.bool (farM m)),(farM m)=false,(decide ((m.park.length:Int) > 5))=false,(decide ((m.roads.length:Int) > 8))=false,(decide ((l.length:Int) > 12))=true] hE Try.func44 ⟨(u106 (Qal m)),hc0,hc1,hc2,hc3,trivial⟩ (by exact AvLe.of_eq (by rw [h]; try rfl))
       · have h:=h.2 (odf hc3)
         exact sQ [1,5] 1 [.v (.bool (farM m)),.b false,.b false,.b false,.b false,.stop] [Qc Try.prog (.clos 106 [] []) [.agg [.rsl (rowB m.park) 0 m.park.length,.rsl (Qb m.roads) 0 m.roads.length]] (.bool (farM m)),(farM m)=false,(decide ((m.park.length:Int) > 5))=false,(decide ((m.roads.length:Int) > 8))=false,(decide ((l.length:Int) > 12))=false] hE ⟨(u106 (Qal m)),hc0,hc1,hc2,hc3,trivial⟩ h
theorem f44W0 (m:FMap) (l:(List Lry)) (i:Nat) {E:Env} {rv:Bool} (hE:Qr Try.prog 44 (.bool rv) E)
 (h:(((i:Int)<(l.length:Int)→(∃ le:Lry,l[i]?=some le∧((le.drive > 60→((le.drive≤500→rv=true)∧(¬ (le.drive≤500)→((I6 ((i:Int)+1))∧f44G0 E m l (i+1)))))∧(¬ (le.drive > 60)→((I6 ((i:Int)+1))∧f44G0 E m l (i+1))))))∧(¬ ((i:Int)<(l.length:Int))→rv=false))):f44G0 E m l i:=by
 rcases bft (decide ((i:Int)<(l.length:Int))) with hc0 | hc0
 · have h:=h.1 (odt hc0)
   obtain ⟨le,h1,h⟩:=h
   rcases bft (decide (le.drive > 60)) with hc1 | hc1
   · have h:=h.1 (odt hc1)
     rcases bft (decide (le.drive≤500)) with hc2 | hc2
     · have h:=h.1 (odt hc2)
       exact eL (.bool true) [.b true,.ld (.int .i64 le.drive),.b true,.ld (.int .i64 le.drive),.b true] [(decide ((i:Int)<(l.length:Int)))=true,0≤(i:Int)∧(i:Int)<(l.length:Int),((Qo l).drop ((0+(Int.toNat (i:Int))*6)+4)).take 1=[.int .i64 le.drive],(decide (le.drive > 60))=true,0≤(i:Int)∧(i:Int)<(l.length:Int),((Qo l).drop ((0+(Int.toNat (i:Int))*6)+4)).take 1=[.int .i64 le.drive],(decide (le.drive≤500))=true] hE Try.func44 ⟨hc0,(Qm h1),(rp cLry 6 4 1 h1),hc1,(Qm h1),(rp cLry 6 4 1 h1),hc2,trivial⟩ (by exact AvLe.of_eq (by rw [h]; try rfl))
     · have h:=h.2 (odf hc2)
       obtain ⟨q8_3,h⟩:=h
       exact sQ [1,5] 1 [.b true,.ld (.int .i64 le.drive),.b true,.ld (.int .i64 le.drive),.b false,.stop] [(decide ((i:Int)<(l.length:Int)))=true,0≤(i:Int)∧(i:Int)<(l.length:Int),((Qo l).drop ((0+(Int.toNat (i:Int))*6)+4)).take 1=[.int .i64 le.drive],(decide (le.drive > 60))=true,0≤(i:Int)∧(i:Int)<(l.length:Int),((Qo l).drop ((0+(Int.toNat (i:Int))*6)+4)).take 1=[.int .i64 le.drive],(decide (le.drive≤500))=false,InR .i64 ((i:Int)+1)] hE ⟨hc0,(Qm h1),(rp cLry 6 4 1 h1),hc1,(Qm h1),(rp cLry 6 4 1 h1),hc2,q8_3,trivial⟩ h
   · have h:=h.2 (odf hc1)
     obtain ⟨q6_2,h⟩:=h
     exact sQ [1,5] 1 [.b true,.ld (.int .i64 le.drive),.b false,.b false,.stop] [(decide ((i:Int)<(l.length:Int)))=true,0≤(i:Int)∧(i:Int)<(l.length:Int),((Qo l).drop ((0+(Int.toNat (i:Int))*6)+4)).take 1=[.int .i64 le.drive],(decide (le.drive > 60))=false,false=false,InR .i64 ((i:Int)+1)] hE ⟨hc0,(Qm h1),(rp cLry 6 4 1 h1),hc1,rfl,q6_2,trivial⟩ h
 · have h:=h.2 (odf hc0)
   exact eL (.bool false) [.b false] [(decide ((i:Int)<(l.length:Int)))=false] hE Try.func44 ⟨hc0,trivial⟩ (by exact AvLe.of_eq (by rw [h]; try rfl))
def fastM (x:Lry):Bool:=decide (x.drive > 60) && decide (x.drive≤500)
def Xs (m:FMap) (l:List Lry):Bool:=farM m || (decide ((m.park.length:Int) > 5) || (decide ((m.roads.length:Int) > 8) || (decide ((l.length:Int) > 12) || l.any fastM)))
theorem Wp (m:FMap) (l:List Lry) (h:l.length≤9223372036854775807):Pure Try.prog 44 [.agg [.rsl (rowB m.park) 0 m.park.length,.rsl (Qb m.roads) 0 m.roads.length],.rsl (Qo l) 0 l.length] (.bool (Xs m l)):=Qt Try.func44 f44b fun E hE=>by
 refine f44W m l (rv:=Xs m l) hE ⟨fun a=>by simp [Xs,a],fun a=>⟨fun b=>by simp [Xs,b],fun b=>⟨fun c=>by simp [Xs,c],fun c=>⟨fun d=>by simp [Xs,d],fun d=>?_⟩⟩⟩⟩
 have hr:Xs m l=l.any fastM:=by simp [Xs,a,b,c,d]
 have key:∀ (d i:Nat),i+d=l.length→Xs m l=(l.drop i).any fastM→f44G0 E m l i:=by
  intro d
  induction d with
  | zero =>
   intro i hd hk
   rw [List.drop_eq_nil_of_le (by omega)] at hk
   exact f44W0 m l i (rv:=Xs m l) hE ⟨fun q=>absurd q (by omega),fun _=>hk⟩
  | succ d ih =>
   intro i hd hk
   have hx:l[i]?=some l[i]:=List.getElem?_eq_getElem (by omega)
   rw [List.drop_eq_getElem_cons (by omega),List.any_cons] at hk
   generalize l[i]=x at hx hk
   refine f44W0 m l i (rv:=Xs m l) hE ⟨fun _=>⟨x,hx,fun p=>⟨fun q=>?_,fun q=>⟨by omega,ih (i+1) (by omega) ?_⟩⟩,fun p=>⟨by omega,ih (i+1) (by omega) ?_⟩⟩,fun q=>absurd (by omega) q⟩
   · rw [hk]; simp [fastM,p,q]
   · rw [hk]; simp [fastM,q]
   · rw [hk]; simp [fastM,p]
 exact key l.length 0 (by omega) (by simpa using hr)
theorem largeM_no {m:FMap} {l:List Lry} (h:Xs m l=false):m.park.length≤5∧m.roads.length≤8∧l.length≤12∧∀ x ∈ l,¬ (60<x.drive∧x.drive≤500):=by
 unfold Xs at h
 simp only [Bool.or_eq_false_iff,decide_eq_false_iff_not,List.any_eq_false] at h
 obtain ⟨-,h1,h2,h3,h4⟩:=h
 refine ⟨by omega,by omega,by omega,fun x hx hc=>h4 x hx ?_⟩
 unfold fastM
 rw [decide_eq_true (by omega),decide_eq_true (by omega)]; rfl
theorem f46b:Try.f46.body=some (Qf Try.prog 46):=by kernel_rfl
theorem u46 {a c k:List AV} {r:AV} (h:Pure Try.prog 46 (a++c++k) r):Qc Try.prog (.clos 46 a k) c r:=Qk Try.func46 (by kernel_rfl) f46b h
theorem f46W (m:FMap) {E:Env} {rv:FMap} (hE:Qr Try.prog 46 (.agg [.rsl (rowB rv.park) 0 rv.park.length,.rsl (Qb rv.roads) 0 rv.roads.length]) E)
 (h:((0+m.park.length)≤2147483648∧((0+m.roads.length)≤2147483648∧rv=m))):G Try.prog E [.code (Qf Try.prog 46)] ⟨[.agg [.rsl (rowB m.park) 0 m.park.length,.rsl (Qb m.roads) 0 m.roads.length]]++unds (Try.f46.ntmps - 1),[]⟩:=by
 obtain ⟨h1,h⟩:=h
 obtain ⟨h2,h⟩:=h
 exact eL (.agg [.rsl (rowB m.park) 0 (0+m.park.length),.rsl (Qb m.roads) 0 (0+m.roads.length)]) [.fz,.cs (rowB m.park),.fz,.cs (Qb m.roads)] [1=1,0=0,0=0,(0+m.park.length)≤2147483648,((rowB m.park).drop 0).take (m.park.length*1)=(rowB m.park),(rowB m.park).length=(m.park.length*1),noRefs (rowB m.park)=true,1=1,0=0,0=0,(0+m.roads.length)≤2147483648,((Qb m.roads).drop 0).take (m.roads.length*5)=(Qb m.roads),(Qb m.roads).length=(m.roads.length*5),noRefs (Qb m.roads)=true,2≤2] hE Try.func46 ⟨rfl,rfl,rfl,h1,(by exact XX cB (fun _=>rfl) m.park),(by exact QG cB (fun _=>rfl) m.park),(by exact Yo cB (fun _=>rfl) m.park),rfl,rfl,rfl,h2,(by exact XX cRod (fun _=>rfl) m.roads),(by exact QG cRod (fun _=>rfl) m.roads),(by exact Yo cRod (fun _=>rfl) m.roads),(by decide),trivial⟩ (by exact AvLe.of_eq (by rw [h]; rw [(show AV.rsl (rowB m.park) 0 (0+m.park.length)=AV.rsl (rowB m.park) 0 m.park.length from by rw [show (0+m.park.length)=m.park.length from by simp])]; rw [(show AV.rsl (Qb m.roads) 0 (0+m.roads.length)=AV.rsl (Qb m.roads) 0 m.roads.length from by rw [show (0+m.roads.length)=m.roads.length from by simp])]; try rfl))
theorem mapC_ok (m:FMap) (h:m.park.length≤1000∧m.roads.length≤1000):Pure Try.prog 46 [.agg [.rsl (rowB m.park) 0 m.park.length,.rsl (Qb m.roads) 0 m.roads.length]] (.agg [.rsl (rowB m.park) 0 m.park.length,.rsl (Qb m.roads) 0 m.roads.length]):=Qt Try.func46 f46b fun E hE=>f46W m (rv:=m) hE ⟨by omega,by omega,rfl⟩
end Go.Proofs.Ytemklbioijmjiaa
namespace Go.Proofs.Ytemklbioijmjiaa
open Go Ax
open Go.Proofs
structure Fuel where
 to:Int
 gap:Int
 cents:Int
theorem f11b:Try.f11.body=some (Qf Try.prog 11):=by kernel_rfl
def Vu (P:Program):List Item:=kReg 400 [.code (Qf P 11)] [.b false] 2
def f11S6051 (m:FMap) (l:(List Lry)) (f:Fuel):St:=⟨([J,.rsl (Qo l) 0 l.length,J,.rptr [.rsl (rowB m.park) 0 m.park.length,.rsl (Qb m.roads) 0 m.roads.length] 0,J,.rptr [.int .i64 f.to,.int .i64 f.gap,.int .i64 f.cents] 0]++Js 215),[⟨false,1,1,true,[],false⟩,⟨false,1,1,true,[],false⟩]⟩
def f11G6051 (E:Env) (m:FMap) (l:(List Lry)) (f:Fuel):Prop:=G Try.prog E (Vu Try.prog) (f11S6051 m l f )
def f11X6051a (m:FMap) (l:(List Lry)) (f:Fuel) (jl:List (List Leg)):St:=⟨([J,.rsl (Qo l) 0 l.length,J,.rptr [.rsl (rowB m.park) 0 m.park.length,.rsl (Qb m.roads) 0 m.roads.length] 0,J,.rptr [.int .i64 f.to,.int .i64 f.gap,.int .i64 f.cents] 0,J,.rsl ((Yz Qn) jl) 0 jl.length,.int .i64 0]++jj 32 ([.tup [.rsl ((Yz Qn) jl) 0 jl.length,.int .i64 0],.agg [.rsl (rowB m.park) 0 m.park.length,.rsl (Qb m.roads) 0 m.roads.length],.agg [.rsl (rowB m.park) 0 m.park.length,.rsl (Qb m.roads) 0 m.roads.length],.sl 2 0 0 0 6,.rsl (Qo l) 0 l.length,.rsl (Qo l) 0 (0+l.length),.rptr [.int .i64 f.to,.int .i64 f.gap,.int .i64 f.cents] 0,.int .i64 f.to,.rptr [.int .i64 f.to,.int .i64 f.gap,.int .i64 f.cents] 1,.int .i64 f.gap,.tup [.rsl ((Yz Qn) jl) 0 jl.length,.int .i64 0],.rsl ((Yz Qn) jl) 0 jl.length,.int .i64 0]++Js 167)),[⟨false,1,1,true,[],false⟩,⟨false,1,1,true,[],false⟩,⟨false,2,6,true,[],false⟩]⟩
def f11G6051a (E:Env) (m:FMap) (l:(List Lry)) (f:Fuel) (jl:List (List Leg)):Prop:=G Try.prog E (Wj (Vu Try.prog)) (f11X6051a m l f jl)
def f11X6051b (m:FMap) (l:(List Lry)) (f:Fuel) (e:Int):St:=⟨([J,.rsl (Qo l) 0 l.length,J,.rptr [.rsl (rowB m.park) 0 m.park.length,.rsl (Qb m.roads) 0 m.roads.length] 0,J,.rptr [.int .i64 f.to,.int .i64 f.gap,.int .i64 f.cents] 0,J,.nilSl,.int .i64 e]++jj 32 ([.tup [.nilSl,.int .i64 e],.agg [.rsl (rowB m.park) 0 m.park.length,.rsl (Qb m.roads) 0 m.roads.length],.agg [.rsl (rowB m.park) 0 m.park.length,.rsl (Qb m.roads) 0 m.roads.length],.sl 2 0 0 0 6,.rsl (Qo l) 0 l.length,.rsl (Qo l) 0 (0+l.length),.rptr [.int .i64 f.to,.int .i64 f.gap,.int .i64 f.cents] 0,.int .i64 f.to,.rptr [.int .i64 f.to,.int .i64 f.gap,.int .i64 f.cents] 1,.int .i64 f.gap,.tup [.nilSl,.int .i64 e],.nilSl,.int .i64 e]++Js 167)),[⟨false,1,1,true,[],false⟩,⟨false,1,1,true,[],false⟩,⟨false,2,6,true,[],false⟩]⟩
def f11G6051b (E:Env) (m:FMap) (l:(List Lry)) (f:Fuel) (e:Int):Prop:=G Try.prog E (Wj (Vu Try.prog)) (f11X6051b m l f e)
def f11K0 (P:Program):List Item:=kAt 400 (Wj (Vu P)) [.b false,.b false,.stop]
def f11S0 (m:FMap) (l:(List Lry)) (f:Fuel) (jl:(List (List Leg))) (ev:List Int) (i:Nat) (g3:Nat):St:=⟨([J,.rsl (Qo l) 0 l.length,J,.rptr [.rsl (rowB m.park) 0 m.park.length,.rsl (Qb m.roads) 0 m.roads.length] 0,J,.rptr [.int .i64 f.to,.int .i64 f.gap,.int .i64 f.cents] 0,J,.rsl ((Yz Qn) jl) 0 jl.length,J,.sl 3 g3 0 ev.length 1,.nilSl,.int .i64 (i:Int)]++Js 209),[⟨false,1,1,true,[],false⟩,⟨false,1,1,true,[],false⟩,⟨false,2,6,true,[],false⟩,⟨true,g3,1,true,(rowI ev),true⟩]⟩
def f11G0 (E:Env) (m:FMap) (l:(List Lry)) (f:Fuel) (jl:(List (List Leg))) (ev:List Int) (i:Nat):Prop:=∀ g3:Nat,G Try.prog E (f11K0 Try.prog) (f11S0 m l f jl ev i g3)
def f11K1 (P:Program):List Item:=kAt 400 (Wj (Vu P)) [.b false,.b false,.b false,.stop]
def f11S1 (m:FMap) (l:(List Lry)) (f:Fuel) (jl:(List (List Leg))) (ev:List Int) (paid:List Int) (sp:List Spn) (i:Nat) (g3:Nat) (g4:Nat) (g5:Nat):St:=⟨([J,.rsl (Qo l) 0 l.length,J,.rptr [.rsl (rowB m.park) 0 m.park.length,.rsl (Qb m.roads) 0 m.roads.length] 0,J,.rptr [.int .i64 f.to,.int .i64 f.gap,.int .i64 f.cents] 0,J,.rsl ((Yz Qn) jl) 0 jl.length,J,.sl 3 g3 0 ev.length 1,.sl 4 g4 0 paid.length 1,J,.sl 5 g5 0 sp.length 3,.int .i64 (i:Int)]++Js 207),[⟨false,1,1,true,[],false⟩,⟨false,1,1,true,[],false⟩,⟨false,2,6,true,[],false⟩,⟨true,g3,1,true,(rowI ev),true⟩,⟨true,g4,1,true,(rowI paid),true⟩,⟨true,g5,3,true,(Xg sp),true⟩]⟩
def f11G1 (E:Env) (m:FMap) (l:(List Lry)) (f:Fuel) (jl:(List (List Leg))) (ev:List Int) (paid:List Int) (sp:List Spn) (i:Nat):Prop:=∀ g3 g4 g5:Nat,G Try.prog E (f11K1 Try.prog) (f11S1 m l f jl ev paid sp i g3 g4 g5)
def f11K2 (P:Program):List Item:=kAt 400 (Wj (Vu P)) [.b false,.b false,.b false,.b true,.stop]
def f11S2 (m:FMap) (l:(List Lry)) (f:Fuel) (jl:(List (List Leg))) (at_:Int) (ev:List Int) (ticks:Int) (k:Nat) (i:Nat) (paid:List Int) (sp:List Spn) (g3:Nat) (g4:Nat) (g5:Nat):St:=⟨([J,.rsl (Qo l) 0 l.length,J,.rptr [.rsl (rowB m.park) 0 m.park.length,.rsl (Qb m.roads) 0 m.roads.length] 0,J,.rptr [.int .i64 f.to,.int .i64 f.gap,.int .i64 f.cents] 0,J,.rsl ((Yz Qn) jl) 0 jl.length,J,.sl 3 g3 0 ev.length 1,.sl 4 g4 0 paid.length 1,J,.sl 5 g5 0 sp.length 3,.int .i64 (i:Int),.int .i64 ticks,.int .i64 at_,.int .i64 (k:Int)]++Js 204),[⟨false,1,1,true,[],false⟩,⟨false,1,1,true,[],false⟩,⟨false,2,6,true,[],false⟩,⟨true,g3,1,true,(rowI ev),true⟩,⟨true,g4,1,true,(rowI paid),true⟩,⟨true,g5,3,true,(Xg sp),true⟩]⟩
def f11G2 (E:Env) (m:FMap) (l:(List Lry)) (f:Fuel) (jl:(List (List Leg))) (at_:Int) (ev:List Int) (ticks:Int) (k:Nat) (i:Nat) (paid:List Int) (sp:List Spn):Prop:=∀ g3 g4 g5:Nat,G Try.prog E (f11K2 Try.prog) (f11S2 m l f jl at_ ev ticks k i paid sp g3 g4 g5)
def f11K3 (P:Program):List Item:=kAt 400 (Wj (Vu P)) [.b false,.b false,.b false,.b false,.b false,.stop]
def f11S3 (m:FMap) (l:(List Lry)) (f:Fuel) (ev:List Int) (bal:(List Int)) (paid:List Int) (i:Nat) (g3:Nat) (g4:Nat):St:=⟨([J,.rsl (Qo l) 0 l.length]++jj 8 ([.sl 4 g4 0 paid.length 1]++jj 7 ([.rsl (rowI bal) 0 bal.length,.int .i64 (i:Int)]++Js 201))),[⟨false,1,1,true,[],false⟩,⟨false,1,1,true,[],false⟩,⟨false,2,6,true,[],false⟩,⟨true,g3,1,true,(rowI ev),true⟩,⟨true,g4,1,true,(rowI paid),true⟩]⟩
def f11G3 (E:Env) (m:FMap) (l:(List Lry)) (f:Fuel) (ev:List Int) (bal:(List Int)) (paid:List Int) (i:Nat):Prop:=∀ g3 g4:Nat,G Try.prog E (f11K3 Try.prog) (f11S3 m l f ev bal paid i g3 g4)
def f11K4 (P:Program):List Item:=kAt 400 (Wj (Vu P)) [.b false,.b false,.b false,.b false,.b false,.b true,.stop]
def f11S4 (m:FMap) (l:(List Lry)) (f:Fuel) (bal:(List Int)) (ev:List Int) (paid:List Int) (i:Nat) (k:Nat) (g3:Nat) (g4:Nat):St:=⟨([J,.rsl (Qo l) 0 l.length]++jj 8 ([.sl 4 g4 0 paid.length 1]++jj 7 ([.rsl (rowI bal) 0 bal.length,.int .i64 (i:Int),.int .i64 (k:Int)]++Js 200))),[⟨false,1,1,true,[],false⟩,⟨false,1,1,true,[],false⟩,⟨false,2,6,true,[],false⟩,⟨true,g3,1,true,(rowI ev),true⟩,⟨true,g4,1,true,(rowI paid),true⟩]⟩
def f11G4 (E:Env) (m:FMap) (l:(List Lry)) (f:Fuel) (bal:(List Int)) (ev:List Int) (paid:List Int) (i:Nat) (k:Nat):Prop:=∀ g3 g4:Nat,G Try.prog E (f11K4 Try.prog) (f11S4 m l f bal ev paid i k g3 g4)
theorem f11W (m:FMap) (l:(List Lry)) (f:Fuel) {E:Env} {rv:Bool} (hE:Qr Try.prog 11 (.bool rv) E)
 (h:((l.length≤9223372036854775807)∧(((Xs m l)=true→rv=true)∧((Xs m l)=false→(((l.length:Int)=0→rv=true)∧(¬ ((l.length:Int)=0)→((f.cents<1→rv=true)∧(¬ (f.cents<1)→((f.cents > 1000→rv=true)∧(¬ (f.cents > 1000)→f11G6051 E m l f )))))))))):G Try.prog E [.code (Qf Try.prog 11)] ⟨[.agg [.rsl (rowB m.park) 0 m.park.length,.rsl (Qb m.roads) 0 m.roads.length],.rsl (Qo l) 0 l.length,.agg [.int .i64 f.to,.int .i64 f.gap,.int .i64 f.cents]]++unds (Try.f11.ntmps - 3),[]⟩:=by
 obtain ⟨h1,h⟩:=h
 rcases bft (Xs m l) with hc0 | hc0
 · have h:=h.1 hc0
   exact eL (.bool true) [.vn .junk,.vn .junk,.v (.bool (Xs m l)),.b true,.b true,.b true,.b true,.v (.bool true)] [Qc Try.prog (.clos 44 [] []) [.agg [.rsl (rowB m.park) 0 m.park.length,.rsl (Qb m.roads) 0 m.roads.length],.rsl (Qo l) 0 l.length] (.bool (Xs m l)),(Xs m l)=true,true=true,true=true,true=true,Qc Try.prog (.clos 13 [] []) [] (.bool true)] hE Try.func11 ⟨(u44 (Wp m l h1)),hc0,rfl,rfl,rfl,(u13 (yH )),trivial⟩ (by exact AvLe.of_eq (by rw [h]; try rfl))
 · have h:=h.2 hc0
   rcases bft ((l.length:Int) == 0) with hc1 | hc1
   · have h:=h.1 (eq_of_beq hc1)
     exact eL (.bool true) [.vn .junk,.vn .junk,.v (.bool (Xs m l)),.b false,.b true,.b true,.b true,.v (.bool true)] [Qc Try.prog (.clos 44 [] []) [.agg [.rsl (rowB m.park) 0 m.park.length,.rsl (Qb m.roads) 0 m.roads.length],.rsl (Qo l) 0 l.length] (.bool (Xs m l)),(Xs m l)=false,((l.length:Int) == 0)=true,true=true,true=true,Qc Try.prog (.clos 13 [] []) [] (.bool true)] hE Try.func11 ⟨(u44 (Wp m l h1)),hc0,hc1,rfl,rfl,(u13 (yH )),trivial⟩ (by exact AvLe.of_eq (by rw [h]; try rfl))
   · have h:=h.2 (ne_of_beq_false hc1)
     rcases bft (decide (f.cents<1)) with hc2 | hc2
     · have h:=h.1 (odt hc2)
       exact eL (.bool true) [.vn .junk,.vn .junk,.v (.bool (Xs m l)),.b false,.b false,.b true,.b true,.v (.bool true)] [Qc Try.prog (.clos 44 [] []) [.agg [.rsl (rowB m.park) 0 m.park.length,.rsl (Qb m.roads) 0 m.roads.length],.rsl (Qo l) 0 l.length] (.bool (Xs m l)),(Xs m l)=false,((l.length:Int) == 0)=false,(decide (f.cents<1))=true,true=true,Qc Try.prog (.clos 13 [] []) [] (.bool true)] hE Try.func11 ⟨(u44 (Wp m l h1)),hc0,hc1,hc2,rfl,(u13 (yH )),trivial⟩ (by exact AvLe.of_eq (by rw [h]; try rfl))
     · have h:=h.2 (odf hc2)
       rcases bft (decide (f.cents > 1000)) with hc3 | hc3
       · have h:=h.1 (odt hc3)
         exact eL (.bool true) [.vn .junk,.vn .junk,.v (.bool (Xs m l)),.b false,.b false,.b false,.b true,.v (.bool true)] [Qc Try.prog (.clos 44 [] []) [.agg [.rsl (rowB m.park) 0 m.park.length,.rsl (Qb m.roads) 0 m.roads.length],.rsl (Qo l) 0 l.length] (.bool (Xs m l)),(Xs m l)=false,((l.length:Int) == 0)=false,(decide (f.cents<1))=false,(decide (f.cents > 1000))=true,Qc Try.prog (.clos 13 [] []) [] (.bool true)] hE Try.func11 ⟨(u44 (Wp m l h1)),hc0,hc1,hc2,hc3,(u13 (yH )),trivial⟩ (by exact AvLe.of_eq (by rw [h]; try rfl))
       · have h:=h.2 (odf hc3)
         exact QM (n:=31) (ds:=[]) (cs:=[]) (live:=[1,3,5]) (m:=2) (evs:=[.vn .junk,.vn .junk,.v (.bool (Xs m l)),.b false,.b false,.b false,.b false]) (obs:=[Qc Try.prog (.clos 44 [] []) [.agg [.rsl (rowB m.park) 0 m.park.length,.rsl (Qb m.roads) 0 m.roads.length],.rsl (Qo l) 0 l.length] (.bool (Xs m l)),(Xs m l)=false,((l.length:Int) == 0)=false,(decide (f.cents<1))=false,(decide (f.cents > 1000))=false]) hE.2.1 (hE.nogh _) mixed (by kernel_rfl) ⟨(u44 (Wp m l h1)),hc0,hc1,hc2,hc3,trivial⟩ h
theorem f11W0 (m:FMap) (l:(List Lry)) (f:Fuel) (jl:(List (List Leg))) (ev:List Int) (i:Nat) {E:Env} {rv:Bool} (hE:Qr Try.prog 11 (.bool rv) E)
 (h:(((i:Int)<(l.length:Int)→((ev.length+1)≤2147483648∧((I6 ((i:Int)+1))∧f11G0 E m l f jl (ev++[(i:Int)]) (i+1))))∧(¬ ((i:Int)<(l.length:Int))→f11G1 E m l f jl ev ([]) ([]) 0))):f11G0 E m l f jl ev i:=by
 intro g3
 rcases bft (decide ((i:Int)<(l.length:Int))) with hc0 | hc0
 · have h:=h.1 (odt hc0)
   obtain ⟨h1,h⟩:=h
   obtain ⟨q5_1,h⟩:=h
   refine sP (f11K0 Try.prog) ⟨([J,.rsl (Qo l) 0 l.length,J,.rptr [.rsl (rowB m.park) 0 m.park.length,.rsl (Qb m.roads) 0 m.roads.length] 0,J,.rptr [.int .i64 f.to,.int .i64 f.gap,.int .i64 f.cents] 0,J,.rsl ((Yz Qn) jl) 0 jl.length,J,.sl 3 (g3+1) 0 (ev.length+1) 1,.nilSl,.int .i64 ((i:Int)+1)]++Js 209),[⟨false,1,1,true,[],false⟩,⟨false,1,1,true,[],false⟩,⟨false,2,6,true,[],false⟩,⟨true,(g3+1),1,true,((rowI ev)++[.int .i64 (i:Int)]),true⟩]⟩ [1,3,5,7,9,10,11] 4 [.b true,.stop] [(decide ((i:Int)<(l.length:Int)))=true,g3=g3,(0+(ev.length*1))=(rowI ev).length,(ev.length+1)≤2147483648,0=0,InR .i64 ((i:Int)+1)] hE ⟨hc0,rfl,(by have hx:=QG cI (s:=1) (fun _=>rfl) ev; simp only [rowI] at hx ⊢; rw [hx]; simp),h1,rfl,q5_1,trivial⟩ ?_
   rw [(show rowI ev++[.int .i64 (i:Int)]=rowI (ev++[(i:Int)]) from (Xz cI ev [(i:Int)]).symm)]; (try rw [(show (ev.length+1)=(ev++[(i:Int)]).length from by simp)]); exact (h (g3+1))
 · have h:=h.2 (odf hc0)
   exact QM (n:=400) (ds:=[(10,1),(12,3)]) (cs:=[]) (live:=[1,3,5,7,9,10,12,13]) (m:=6) (evs:=[.b false,.stop]) (obs:=[(decide ((i:Int)<(l.length:Int)))=false]) hE.2.1 (hE.nogh _) mixed (by kernel_rfl) ⟨hc0,trivial⟩ (h g3 0 0)
theorem f11W1 (m:FMap) (l:(List Lry)) (f:Fuel) (jl:(List (List Leg))) (ev:List Int) (paid:List Int) (sp:List Spn) (i:Nat) {E:Env} {rv:Bool} (hE:Qr Try.prog 11 (.bool rv) E)
 (h:(((i:Int)<(jl.length:Int)→(∃ le:Lry,l[i]?=some le∧f11G2 E m l f jl le.ready ev 0 0 i paid sp))∧(¬ ((i:Int)<(jl.length:Int))→((sp.length≤9223372036854775807∧∀ x ∈ sp,x.fr.length≤9223372036854775807)∧((¬ ((balK (l.length:Int) sp).2=0)→rv=false)∧((balK (l.length:Int) sp).2=0→((¬ (((((balK (l.length:Int) sp).1).length:Nat):Int)=(l.length:Int))→rv=false)∧(((((balK (l.length:Int) sp).1).length:Nat):Int)=(l.length:Int)→((SumOk ((balK (l.length:Int) sp).1))∧((¬ ((sumI ((balK (l.length:Int) sp).1))=0)→rv=false)∧((sumI ((balK (l.length:Int) sp).1))=0→f11G3 E m l f ev ((balK (l.length:Int) sp).1) paid 0))))))))))):f11G1 E m l f jl ev paid sp i:=by
 intro g3 g4 g5
 rcases bft (decide ((i:Int)<(jl.length:Int))) with hc0 | hc0
 · have h:=h.1 (odt hc0)
   obtain ⟨le,h1,h⟩:=h
   exact sQ [1,3,5,7,9,10,12,13,14,15,16] 6 [.b true,.ld (.int .i64 le.ready),.stop] [(decide ((i:Int)<(jl.length:Int)))=true,0≤(i:Int)∧(i:Int)<(l.length:Int),((Qo l).drop ((0+(Int.toNat (i:Int))*6)+3)).take 1=[.int .i64 le.ready]] hE ⟨hc0,(Qm h1),(rp cLry 6 3 1 h1),trivial⟩ (h g3 g4 g5)
 · have h:=h.2 (odf hc0)
   obtain ⟨h1,h⟩:=h
   rcases bft ((balK (l.length:Int) sp).2 != 0) with hc1 | hc1
   · have h:=h.1 (bneT hc1)
     exact eL (.bool false) [.b false,.lent [5] (.tup [.rsl (rowI ((balK (l.length:Int) sp).1)) 0 (((balK (l.length:Int) sp).1).length),.int .i64 ((balK (l.length:Int) sp).2)]) [⟨false,(g5+1),3,true,[],false⟩],.b true,.b true,.b true] [(decide ((i:Int)<(jl.length:Int)))=false,Yk Try.prog (.clos 47 [] []) [.int .i64 (l.length:Int),.sl 0 g5 0 sp.length 3] [⟨true,g5,3,true,(Xg sp),true⟩] (.tup [.rsl (rowI ((balK (l.length:Int) sp).1)) 0 (((balK (l.length:Int) sp).1).length),.int .i64 ((balK (l.length:Int) sp).2)]) [⟨false,(g5+1),3,true,[],false⟩],((balK (l.length:Int) sp).2 != 0)=true,true=true,true=true] hE Try.func11 ⟨hc0,(Ys (fv':=.clos 47 [] []) (args':=[.int .i64 (l.length:Int),.rsl (Xg sp) 0 sp.length]) (o1:=[]) (o2:=[g5=g5]) (by kernel_rfl) trivial (by kernel_rfl) ⟨rfl,trivial⟩ (u47 (QcI (l.length:Int) sp h1))),hc1,rfl,rfl,trivial⟩ (by exact AvLe.of_eq (by rw [h]; try rfl))
   · have h:=h.2 (bneF hc1)
     rcases bft (((((balK (l.length:Int) sp).1).length:Nat):Int) != (l.length:Int)) with hc2 | hc2
     · have h:=h.1 (bneT hc2)
       exact eL (.bool false) [.b false,.lent [5] (.tup [.rsl (rowI ((balK (l.length:Int) sp).1)) 0 (((balK (l.length:Int) sp).1).length),.int .i64 ((balK (l.length:Int) sp).2)]) [⟨false,(g5+1),3,true,[],false⟩],.b false,.b true,.b true] [(decide ((i:Int)<(jl.length:Int)))=false,Yk Try.prog (.clos 47 [] []) [.int .i64 (l.length:Int),.sl 0 g5 0 sp.length 3] [⟨true,g5,3,true,(Xg sp),true⟩] (.tup [.rsl (rowI ((balK (l.length:Int) sp).1)) 0 (((balK (l.length:Int) sp).1).length),.int .i64 ((balK (l.length:Int) sp).2)]) [⟨false,(g5+1),3,true,[],false⟩],((balK (l.length:Int) sp).2 != 0)=false,(((((balK (l.length:Int) sp).1).length:Nat):Int) != (l.length:Int))=true,true=true] hE Try.func11 ⟨hc0,(Ys (fv':=.clos 47 [] []) (args':=[.int .i64 (l.length:Int),.rsl (Xg sp) 0 sp.length]) (o1:=[]) (o2:=[g5=g5]) (by kernel_rfl) trivial (by kernel_rfl) ⟨rfl,trivial⟩ (u47 (QcI (l.length:Int) sp h1))),hc1,hc2,rfl,trivial⟩ (by exact AvLe.of_eq (by rw [h]; try rfl))
     · have h:=h.2 (bneF hc2)
       obtain ⟨h2,h⟩:=h
       rcases bft ((sumI ((balK (l.length:Int) sp).1)) != 0) with hc3 | hc3
       · have h:=h.1 (bneT hc3)
         exact eL (.bool false) [.b false,.lent [5] (.tup [.rsl (rowI ((balK (l.length:Int) sp).1)) 0 (((balK (l.length:Int) sp).1).length),.int .i64 ((balK (l.length:Int) sp).2)]) [⟨false,(g5+1),3,true,[],false⟩],.b false,.b false,.v (.int .i64 (sumI ((balK (l.length:Int) sp).1))),.b true] [(decide ((i:Int)<(jl.length:Int)))=false,Yk Try.prog (.clos 47 [] []) [.int .i64 (l.length:Int),.sl 0 g5 0 sp.length 3] [⟨true,g5,3,true,(Xg sp),true⟩] (.tup [.rsl (rowI ((balK (l.length:Int) sp).1)) 0 (((balK (l.length:Int) sp).1).length),.int .i64 ((balK (l.length:Int) sp).2)]) [⟨false,(g5+1),3,true,[],false⟩],((balK (l.length:Int) sp).2 != 0)=false,(((((balK (l.length:Int) sp).1).length:Nat):Int) != (l.length:Int))=false,Qc Try.prog (.clos 34 [] []) [.rsl (rowI ((balK (l.length:Int) sp).1)) 0 (((balK (l.length:Int) sp).1).length)] (.int .i64 (sumI ((balK (l.length:Int) sp).1))),((sumI ((balK (l.length:Int) sp).1)) != 0)=true] hE Try.func11 ⟨hc0,(Ys (fv':=.clos 47 [] []) (args':=[.int .i64 (l.length:Int),.rsl (Xg sp) 0 sp.length]) (o1:=[]) (o2:=[g5=g5]) (by kernel_rfl) trivial (by kernel_rfl) ⟨rfl,trivial⟩ (u47 (QcI (l.length:Int) sp h1))),hc1,hc2,(u34 (topSum_ok ((balK (l.length:Int) sp).1) h2)),hc3,trivial⟩ (by exact AvLe.of_eq (by rw [h]; try rfl))
       · have h:=h.2 (bneF hc3)
         exact sQ [1,10,18,19] 5 [.b false,.lent [5] (.tup [.rsl (rowI ((balK (l.length:Int) sp).1)) 0 (((balK (l.length:Int) sp).1).length),.int .i64 ((balK (l.length:Int) sp).2)]) [⟨false,(g5+1),3,true,[],false⟩],.b false,.b false,.v (.int .i64 (sumI ((balK (l.length:Int) sp).1))),.b false,.stop] [(decide ((i:Int)<(jl.length:Int)))=false,Yk Try.prog (.clos 47 [] []) [.int .i64 (l.length:Int),.sl 0 g5 0 sp.length 3] [⟨true,g5,3,true,(Xg sp),true⟩] (.tup [.rsl (rowI ((balK (l.length:Int) sp).1)) 0 (((balK (l.length:Int) sp).1).length),.int .i64 ((balK (l.length:Int) sp).2)]) [⟨false,(g5+1),3,true,[],false⟩],((balK (l.length:Int) sp).2 != 0)=false,(((((balK (l.length:Int) sp).1).length:Nat):Int) != (l.length:Int))=false,Qc Try.prog (.clos 34 [] []) [.rsl (rowI ((balK (l.length:Int) sp).1)) 0 (((balK (l.length:Int) sp).1).length)] (.int .i64 (sumI ((balK (l.length:Int) sp).1))),((sumI ((balK (l.length:Int) sp).1)) != 0)=false] hE ⟨hc0,(Ys (fv':=.clos 47 [] []) (args':=[.int .i64 (l.length:Int),.rsl (Xg sp) 0 sp.length]) (o1:=[]) (o2:=[g5=g5]) (by kernel_rfl) trivial (by kernel_rfl) ⟨rfl,trivial⟩ (u47 (QcI (l.length:Int) sp h1))),hc1,hc2,(u34 (topSum_ok ((balK (l.length:Int) sp).1) h2)),hc3,trivial⟩ (h g3 g4)
theorem f11W2 (m:FMap) (l:(List Lry)) (f:Fuel) (jl:(List (List Leg))) (at_:Int) (ev:List Int) (ticks:Int) (k:Nat) (i:Nat) (paid:List Int) (sp:List Spn) {E:Env} {rv:Bool} (hE:Qr Try.prog 11 (.bool rv) E)
 (h:(∃ le:(List Leg),jl[i]?=some le∧(((k:Int)<(le.length:Int)→(∃ le1:Leg,le[k]?=some le1∧((le1.road<0→rv=false)∧(¬ (le1.road<0)→((le1.road≥(m.roads.length:Int)→rv=false)∧(¬ (le1.road≥(m.roads.length:Int))→((le1.dep<at_→rv=false)∧(¬ (le1.dep<at_)→(0≤le1.road∧(∃ re:Rod,m.roads[Int.toNat le1.road]?=some re∧((I6 (ticks+re.len))∧((I6 (le1.dep+re.len))∧((I6 ((k:Int)+1))∧f11G2 E m l f jl (le1.dep+re.len) ev (ticks+re.len) (k+1) i paid sp)))))))))))))∧(¬ ((k:Int)<(le.length:Int))→((I6 (ticks*f.cents))∧((paid.length+1)≤2147483648∧((I6 (ticks*f.cents))∧((0+ev.length)≤2147483648∧((sp.length+1)≤2147483648∧((I6 ((i:Int)+1))∧f11G1 E m l f jl ev (paid++[(ticks*f.cents)]) (sp++[(⟨(i:Int),(ticks*f.cents),ev⟩:Spn)]) (i+1))))))))))):f11G2 E m l f jl at_ ev ticks k i paid sp:=by
 intro g3 g4 g5
 obtain ⟨le,h1,h⟩:=h
 rcases bft (decide ((k:Int)<(le.length:Int))) with hc0 | hc0
 · have h:=h.1 (odt hc0)
   obtain ⟨le1,h2,h⟩:=h
   rcases bft (decide (le1.road<0)) with hc1 | hc1
   · have h:=h.1 (odt hc1)
     exact eL (.bool false) [.ld (.rsl (Qn le) 0 le.length),.b true,.ld (.rsl (Qn le) 0 le.length),.ld (.agg [.int .i64 le1.road,.int .i64 le1.dep]),.b true,.b true,.b true] [0≤(i:Int)∧(i:Int)<(jl.length:Int),(((Yz Qn) jl).drop (0+(Int.toNat (i:Int))*1)).take 1=[.rsl (Qn le) 0 le.length],(decide ((k:Int)<(le.length:Int)))=true,0≤(i:Int)∧(i:Int)<(jl.length:Int),(((Yz Qn) jl).drop (0+(Int.toNat (i:Int))*1)).take 1=[.rsl (Qn le) 0 le.length],0≤(k:Int)∧(k:Int)<(le.length:Int),((Qn le).drop (0+(Int.toNat (k:Int))*2)).take 2=[.int .i64 le1.road,.int .i64 le1.dep],2≤2,(decide (le1.road<0))=true,true=true,true=true] hE Try.func11 ⟨(Qm h1),(rp (cLs Qn) 1 0 1 h1),hc0,(Qm h1),(rp (cLs Qn) 1 0 1 h1),(Qm h2),(rp cLeg 2 0 2 h2),(by decide),hc1,rfl,rfl,trivial⟩ (by exact AvLe.of_eq (by rw [h]; try rfl))
   · have h:=h.2 (odf hc1)
     rcases bft (decide (le1.road≥(m.roads.length:Int))) with hc2 | hc2
     · have h:=h.1 (odt hc2)
       exact eL (.bool false) [.ld (.rsl (Qn le) 0 le.length),.b true,.ld (.rsl (Qn le) 0 le.length),.ld (.agg [.int .i64 le1.road,.int .i64 le1.dep]),.b false,.b true,.b true] [0≤(i:Int)∧(i:Int)<(jl.length:Int),(((Yz Qn) jl).drop (0+(Int.toNat (i:Int))*1)).take 1=[.rsl (Qn le) 0 le.length],(decide ((k:Int)<(le.length:Int)))=true,0≤(i:Int)∧(i:Int)<(jl.length:Int),(((Yz Qn) jl).drop (0+(Int.toNat (i:Int))*1)).take 1=[.rsl (Qn le) 0 le.length],0≤(k:Int)∧(k:Int)<(le.length:Int),((Qn le).drop (0+(Int.toNat (k:Int))*2)).take 2=[.int .i64 le1.road,.int .i64 le1.dep],2≤2,(decide (le1.road<0))=false,(decide (le1.road≥(m.roads.length:Int)))=true,true=true] hE Try.func11 ⟨(Qm h1),(rp (cLs Qn) 1 0 1 h1),hc0,(Qm h1),(rp (cLs Qn) 1 0 1 h1),(Qm h2),(rp cLeg 2 0 2 h2),(by decide),hc1,hc2,rfl,trivial⟩ (by exact AvLe.of_eq (by rw [h]; try rfl))
     · have h:=h.2 (odf hc2)
       rcases bft (decide (le1.dep<at_)) with hc3 | hc3
       · have h:=h.1 (odt hc3)
         exact eL (.bool false) [.ld (.rsl (Qn le) 0 le.length),.b true,.ld (.rsl (Qn le) 0 le.length),.ld (.agg [.int .i64 le1.road,.int .i64 le1.dep]),.b false,.b false,.b true] [0≤(i:Int)∧(i:Int)<(jl.length:Int),(((Yz Qn) jl).drop (0+(Int.toNat (i:Int))*1)).take 1=[.rsl (Qn le) 0 le.length],(decide ((k:Int)<(le.length:Int)))=true,0≤(i:Int)∧(i:Int)<(jl.length:Int),(((Yz Qn) jl).drop (0+(Int.toNat (i:Int))*1)).take 1=[.rsl (Qn le) 0 le.length],0≤(k:Int)∧(k:Int)<(le.length:Int),((Qn le).drop (0+(Int.toNat (k:Int))*2)).take 2=[.int .i64 le1.road,.int .i64 le1.dep],2≤2,(decide (le1.road<0))=false,(decide (le1.road≥(m.roads.length:Int)))=false,(decide (le1.dep<at_))=true] hE Try.func11 ⟨(Qm h1),(rp (cLs Qn) 1 0 1 h1),hc0,(Qm h1),(rp (cLs Qn) 1 0 1 h1),(Qm h2),(rp cLeg 2 0 2 h2),(by decide),hc1,hc2,hc3,trivial⟩ (by exact AvLe.of_eq (by rw [h]; try rfl))
       · have h:=h.2 (odf hc3)
         obtain ⟨h4,h⟩:=h
         obtain ⟨re,h3,h⟩:=h
         obtain ⟨q16_4,h⟩:=h
         obtain ⟨q19_4,h⟩:=h
         obtain ⟨q20_4,h⟩:=h
         exact sQ [1,3,5,7,9,10,12,13,14,15,16] 6 [.ld (.rsl (Qn le) 0 le.length),.b true,.ld (.rsl (Qn le) 0 le.length),.ld (.agg [.int .i64 le1.road,.int .i64 le1.dep]),.b false,.b false,.b false,.auto,.auto,.ld (.int .i64 re.len),.auto,.auto,.auto,.ld (.int .i64 re.len),.stop] [0≤(i:Int)∧(i:Int)<(jl.length:Int),(((Yz Qn) jl).drop (0+(Int.toNat (i:Int))*1)).take 1=[.rsl (Qn le) 0 le.length],(decide ((k:Int)<(le.length:Int)))=true,0≤(i:Int)∧(i:Int)<(jl.length:Int),(((Yz Qn) jl).drop (0+(Int.toNat (i:Int))*1)).take 1=[.rsl (Qn le) 0 le.length],0≤(k:Int)∧(k:Int)<(le.length:Int),((Qn le).drop (0+(Int.toNat (k:Int))*2)).take 2=[.int .i64 le1.road,.int .i64 le1.dep],2≤2,(decide (le1.road<0))=false,(decide (le1.road≥(m.roads.length:Int)))=false,(decide (le1.dep<at_))=false,0≤le1.road∧le1.road<(m.roads.length:Int),((Qb m.roads).drop ((0+(Int.toNat le1.road)*5)+2)).take 1=[.int .i64 re.len],InR .i64 (ticks+re.len),0≤le1.road∧le1.road<(m.roads.length:Int),((Qb m.roads).drop ((0+(Int.toNat le1.road)*5)+2)).take 1=[.int .i64 re.len],InR .i64 (le1.dep+re.len),InR .i64 ((k:Int)+1)] hE ⟨(Qm h1),(rp (cLs Qn) 1 0 1 h1),hc0,(Qm h1),(rp (cLs Qn) 1 0 1 h1),(Qm h2),(rp cLeg 2 0 2 h2),(by decide),hc1,hc2,hc3,(Qw h4 h3),(rp cRod 5 2 1 h3),q16_4,(Qw h4 h3),(rp cRod 5 2 1 h3),q19_4,q20_4,trivial⟩ (h g3 g4 g5)
 · have h:=h.2 (odf hc0)
   obtain ⟨q4_1,h⟩:=h
   obtain ⟨h2,h⟩:=h
   obtain ⟨q12_1,h⟩:=h
   obtain ⟨h3,h⟩:=h
   obtain ⟨h4,h⟩:=h
   obtain ⟨q25_1,h⟩:=h
   refine sP (f11K1 Try.prog) ⟨([J,.rsl (Qo l) 0 l.length,J,.rptr [.rsl (rowB m.park) 0 m.park.length,.rsl (Qb m.roads) 0 m.roads.length] 0,J,.rptr [.int .i64 f.to,.int .i64 f.gap,.int .i64 f.cents] 0,J,.rsl ((Yz Qn) jl) 0 jl.length,J,.sl 3 g3 0 ev.length 1,.sl 4 (g4+1) 0 (paid.length+1) 1,J,.sl 5 (g5+1) 0 (sp.length+1) 3,.int .i64 ((i:Int)+1)]++Js 207),[⟨false,1,1,true,[],false⟩,⟨false,1,1,true,[],false⟩,⟨false,2,6,true,[],false⟩,⟨true,g3,1,true,(rowI ev),true⟩,⟨true,(g4+1),1,true,((rowI paid)++[.int .i64 (ticks*f.cents)]),true⟩,⟨true,(g5+1),3,true,((Xg sp)++[.int .i64 (i:Int),.int .i64 (ticks*f.cents),.rsl (rowI ev) 0 (0+ev.length)]),true⟩]⟩ [1,3,5,7,9,10,12,13] 6 [.ld (.rsl (Qn le) 0 le.length),.b false,.cs [.int .i64 (ticks*f.cents)],.fz,.cs (rowI ev),.stop] [0≤(i:Int)∧(i:Int)<(jl.length:Int),(((Yz Qn) jl).drop (0+(Int.toNat (i:Int))*1)).take 1=[.rsl (Qn le) 0 le.length],(decide ((k:Int)<(le.length:Int)))=false,InR .i64 (ticks*f.cents),g4=g4,(0+(paid.length*1))=(rowI paid).length,(paid.length+1)≤2147483648,0=0,(([.int .i64 (ticks*f.cents)]:List AV).drop 0).take 1=[.int .i64 (ticks*f.cents)],([.int .i64 (ticks*f.cents)]:List AV).length=1,noRefs [.int .i64 (ticks*f.cents)]=true,InR .i64 (ticks*f.cents),1=1,0=0,0=0,(0+ev.length)≤2147483648,g3=g3,((rowI ev).drop 0).take (ev.length*1)=(rowI ev),(rowI ev).length=(ev.length*1),noRefs (rowI ev)=true,g5=g5,(0+(sp.length*3))=(Xg sp).length,(sp.length+1)≤2147483648,0=0,InR .i64 ((i:Int)+1)] hE ⟨(Qm h1),(rp (cLs Qn) 1 0 1 h1),hc0,q4_1,rfl,(by have hx:=QG cI (s:=1) (fun _=>rfl) paid; simp only [rowI] at hx ⊢; rw [hx]; simp),h2,rfl,rfl,rfl,rfl,q12_1,rfl,rfl,rfl,h3,rfl,(by exact XX cI (fun _=>rfl) ev),(by exact QG cI (fun _=>rfl) ev),(by exact Yo cI (fun _=>rfl) ev),rfl,(by have hx:=QG cSpn (s:=3) (fun _=>rfl) sp; simp only [Xg] at hx ⊢; rw [hx]; simp),h4,rfl,q25_1,trivial⟩ ?_
   rw [(show rowI paid++[.int .i64 (ticks*f.cents)]=rowI (paid++[(ticks*f.cents)]) from (Xz cI paid [(ticks*f.cents)]).symm)]; (try rw [(show (paid.length+1)=(paid++[(ticks*f.cents)]).length from by simp)]); rw [(show Xg sp++[.int .i64 (i:Int),.int .i64 (ticks*f.cents),.rsl (rowI ev) 0 (0+ev.length)]=Xg (sp++[(⟨(i:Int),(ticks*f.cents),ev⟩:Spn)]) from (by rw [(show AV.rsl (rowI ev) 0 (0+ev.length)=AV.rsl (rowI ev) 0 ev.length from by rw [show (0+ev.length)=ev.length from by simp])]; exact (Xz cSpn sp [(⟨(i:Int),(ticks*f.cents),ev⟩:Spn)]).symm))]; (try rw [(show (sp.length+1)=(sp++[(⟨(i:Int),(ticks*f.cents),ev⟩:Spn)]).length from by simp)]); exact (h g3 (g4+1) (g5+1))
theorem f11W3 (m:FMap) (l:(List Lry)) (f:Fuel) (ev:List Int) (bal:(List Int)) (paid:List Int) (i:Nat) {E:Env} {rv:Bool} (hE:Qr Try.prog 11 (.bool rv) E)
 (h:(((i:Int)<(l.length:Int)→f11G4 E m l f bal ev paid i 0)∧(¬ ((i:Int)<(l.length:Int))→((bal.length≤1000000)∧(((We bal)=true→rv=true)∧((We bal)=false→rv=false)))))):f11G3 E m l f ev bal paid i:=by
 intro g3 g4
 rcases bft (decide ((i:Int)<(l.length:Int))) with hc0 | hc0
 · have h:=h.1 (odt hc0)
   exact sQ [1,10,18,19,20] 5 [.b true,.stop] [(decide ((i:Int)<(l.length:Int)))=true] hE ⟨hc0,trivial⟩ (h g3 g4)
 · have h:=h.2 (odf hc0)
   obtain ⟨h1,h⟩:=h
   rcases bft (We bal) with hc1 | hc1
   · have h:=h.1 hc1
     exact eL (.bool true) [.b false,.v (.bool (We bal)),.b true,.v (.bool true)] [(decide ((i:Int)<(l.length:Int)))=false,Qc Try.prog (.clos 43 [] []) [.rsl (rowI bal) 0 bal.length] (.bool (We bal)),(We bal)=true,Qc Try.prog (.clos 13 [] []) [] (.bool true)] hE Try.func11 ⟨hc0,(u43 (qE bal h1)),hc1,(u13 (yH )),trivial⟩ (by exact AvLe.of_eq (by rw [h]; try rfl))
   · have h:=h.2 hc1
     exact eL (.bool false) [.b false,.v (.bool (We bal)),.b false] [(decide ((i:Int)<(l.length:Int)))=false,Qc Try.prog (.clos 43 [] []) [.rsl (rowI bal) 0 bal.length] (.bool (We bal)),(We bal)=false] hE Try.func11 ⟨hc0,(u43 (qE bal h1)),hc1,trivial⟩ (by exact AvLe.of_eq (by rw [h]; try rfl))
theorem f11W4 (m:FMap) (l:(List Lry)) (f:Fuel) (bal:(List Int)) (ev:List Int) (paid:List Int) (i:Nat) (k:Nat) {E:Env} {rv:Bool} (hE:Qr Try.prog 11 (.bool rv) E)
 (h:(((k:Int)<(i:Int)→(∃ e:Int,paid[i]?=some e∧(∃ e1:Int,bal[i]?=some e1∧((I6 (e - e1))∧(∃ e2:Int,paid[k]?=some e2∧(∃ e3:Int,bal[k]?=some e3∧((I6 (e2 - e3))∧((I6 ((e - e1) - (e2 - e3)))∧((((e - e1) - (e2 - e3)) > (l.length:Int)→rv=false)∧(¬ (((e - e1) - (e2 - e3)) > (l.length:Int))→((I6 (0 - (l.length:Int)))∧((((e - e1) - (e2 - e3))<(0 - (l.length:Int))→rv=false)∧(¬ (((e - e1) - (e2 - e3))<(0 - (l.length:Int)))→((I6 ((k:Int)+1))∧f11G4 E m l f bal ev paid i (k+1)))))))))))))))∧(¬ ((k:Int)<(i:Int))→((I6 ((i:Int)+1))∧f11G3 E m l f ev bal paid (i+1))))):f11G4 E m l f bal ev paid i k:=by
 intro g3 g4
 rcases bft (decide ((k:Int)<(i:Int))) with hc0 | hc0
 · have h:=h.1 (odt hc0)
   obtain ⟨e,h1,h⟩:=h
   obtain ⟨e1,h2,h⟩:=h
   obtain ⟨q9_1,h⟩:=h
   obtain ⟨e2,h3,h⟩:=h
   obtain ⟨e3,h4,h⟩:=h
   obtain ⟨q18_1,h⟩:=h
   obtain ⟨q19_1,h⟩:=h
   rcases bft (decide (((e - e1) - (e2 - e3)) > (l.length:Int))) with hc1 | hc1
   · have h:=h.1 (odt hc1)
     exact eL (.bool false) [.b true,.ld (.int .i64 e),.ld (.int .i64 e1),.ld (.int .i64 e2),.ld (.int .i64 e3),.b true,.b true] [(decide ((k:Int)<(i:Int)))=true,0≤(i:Int)∧(i:Int)<(paid.length:Int),g4=g4,g4=g4,((rowI paid).drop (0+(Int.toNat (i:Int))*1)).take 1=[.int .i64 e],0≤(i:Int)∧(i:Int)<(bal.length:Int),((rowI bal).drop (0+(Int.toNat (i:Int))*1)).take 1=[.int .i64 e1],InR .i64 (e - e1),0≤(k:Int)∧(k:Int)<(paid.length:Int),g4=g4,g4=g4,((rowI paid).drop (0+(Int.toNat (k:Int))*1)).take 1=[.int .i64 e2],0≤(k:Int)∧(k:Int)<(bal.length:Int),((rowI bal).drop (0+(Int.toNat (k:Int))*1)).take 1=[.int .i64 e3],InR .i64 (e2 - e3),InR .i64 ((e - e1) - (e2 - e3)),(decide (((e - e1) - (e2 - e3)) > (l.length:Int)))=true,true=true] hE Try.func11 ⟨hc0,(Qm h1),rfl,rfl,(rp cI 1 0 1 h1),(Qm h2),(rp cI 1 0 1 h2),q9_1,(Qm h3),rfl,rfl,(rp cI 1 0 1 h3),(Qm h4),(rp cI 1 0 1 h4),q18_1,q19_1,hc1,rfl,trivial⟩ (by exact AvLe.of_eq (by rw [h]; try rfl))
   · have h:=h.2 (odf hc1)
     obtain ⟨q21_2,h⟩:=h
     rcases bft (decide (((e - e1) - (e2 - e3))<(0 - (l.length:Int)))) with hc2 | hc2
     · have h:=h.1 (odt hc2)
       exact eL (.bool false) [.b true,.ld (.int .i64 e),.ld (.int .i64 e1),.ld (.int .i64 e2),.ld (.int .i64 e3),.b false,.b true] [(decide ((k:Int)<(i:Int)))=true,0≤(i:Int)∧(i:Int)<(paid.length:Int),g4=g4,g4=g4,((rowI paid).drop (0+(Int.toNat (i:Int))*1)).take 1=[.int .i64 e],0≤(i:Int)∧(i:Int)<(bal.length:Int),((rowI bal).drop (0+(Int.toNat (i:Int))*1)).take 1=[.int .i64 e1],InR .i64 (e - e1),0≤(k:Int)∧(k:Int)<(paid.length:Int),g4=g4,g4=g4,((rowI paid).drop (0+(Int.toNat (k:Int))*1)).take 1=[.int .i64 e2],0≤(k:Int)∧(k:Int)<(bal.length:Int),((rowI bal).drop (0+(Int.toNat (k:Int))*1)).take 1=[.int .i64 e3],InR .i64 (e2 - e3),InR .i64 ((e - e1) - (e2 - e3)),(decide (((e - e1) - (e2 - e3)) > (l.length:Int)))=false,InR .i64 (0 - (l.length:Int)),(decide (((e - e1) - (e2 - e3))<(0 - (l.length:Int))))=true] hE Try.func11 ⟨hc0,(Qm h1),rfl,rfl,(rp cI 1 0 1 h1),(Qm h2),(rp cI 1 0 1 h2),q9_1,(Qm h3),rfl,rfl,(rp cI 1 0 1 h3),(Qm h4),(rp cI 1 0 1 h4),q18_1,q19_1,hc1,q21_2,hc2,trivial⟩ (by exact AvLe.of_eq (by rw [h]; try rfl))
     · have h:=h.2 (odf hc2)
       obtain ⟨q23_3,h⟩:=h
       exact sQ [1,10,18,19,20] 5 [.b true,.ld (.int .i64 e),.ld (.int .i64 e1),.ld (.int .i64 e2),.ld (.int .i64 e3),.b false,.b false,.stop] [(decide ((k:Int)<(i:Int)))=true,0≤(i:Int)∧(i:Int)<(paid.length:Int),g4=g4,g4=g4,((rowI paid).drop (0+(Int.toNat (i:Int))*1)).take 1=[.int .i64 e],0≤(i:Int)∧(i:Int)<(bal.length:Int),((rowI bal).drop (0+(Int.toNat (i:Int))*1)).take 1=[.int .i64 e1],InR .i64 (e - e1),0≤(k:Int)∧(k:Int)<(paid.length:Int),g4=g4,g4=g4,((rowI paid).drop (0+(Int.toNat (k:Int))*1)).take 1=[.int .i64 e2],0≤(k:Int)∧(k:Int)<(bal.length:Int),((rowI bal).drop (0+(Int.toNat (k:Int))*1)).take 1=[.int .i64 e3],InR .i64 (e2 - e3),InR .i64 ((e - e1) - (e2 - e3)),(decide (((e - e1) - (e2 - e3)) > (l.length:Int)))=false,InR .i64 (0 - (l.length:Int)),(decide (((e - e1) - (e2 - e3))<(0 - (l.length:Int))))=false,InR .i64 ((k:Int)+1)] hE ⟨hc0,(Qm h1),rfl,rfl,(rp cI 1 0 1 h1),(Qm h2),(rp cI 1 0 1 h2),q9_1,(Qm h3),rfl,rfl,(rp cI 1 0 1 h3),(Qm h4),(rp cI 1 0 1 h4),q18_1,q19_1,hc1,q21_2,hc2,q23_3,trivial⟩ (h g3 g4)
 · have h:=h.2 (odf hc0)
   obtain ⟨q1_1,h⟩:=h
   exact sQ [1,10,18,19] 5 [.b false,.stop] [(decide ((k:Int)<(i:Int)))=false,InR .i64 ((i:Int)+1)] hE ⟨hc0,q1_1,trivial⟩ (h g3 g4)
theorem f11W6051a (m:FMap) (l:(List Lry)) (f:Fuel) (jl:List (List Leg)) {E:Env} {rv:Bool} (hE:Qr Try.prog 11 (.bool rv) E)
 (h:((¬ ((jl.length:Int)=(l.length:Int))→rv=false)∧((jl.length:Int)=(l.length:Int)→f11G0 E m l f jl ([]) 0))):f11G6051a E m l f jl:=by
 rcases bft ((jl.length:Int) != (l.length:Int)) with hc0 | hc0
 · have h:=h.1 (bneT hc0)
   exact eL (.bool false) [.b false,.b true] [false=false,((jl.length:Int) != (l.length:Int))=true] hE Try.func11 ⟨rfl,hc0,trivial⟩ (by exact AvLe.of_eq (by rw [h]; try rfl))
 · have h:=h.2 (bneF hc0)
   exact QM (n:=400) (ds:=[(9,1)]) (cs:=[]) (live:=[1,3,5,7,9,10,11]) (m:=4) (evs:=[.b false,.b false,.stop]) (obs:=[false=false,((jl.length:Int) != (l.length:Int))=false]) hE.2.1 (hE.nogh _) mixed (by kernel_rfl) ⟨rfl,hc0,trivial⟩ (h 0)
theorem f11W6051b (m:FMap) (l:(List Lry)) (f:Fuel) (e:Int) {E:Env} {rv:Bool} (hE:Qr Try.prog 11 (.bool rv) E)
 (h:((¬ (e=0)→rv=true)∧(e=0→((¬ (0=(l.length:Int))→rv=false)∧(0=(l.length:Int)→f11G0 E m l f ([]:List (List Leg)) ([]) 0))))):f11G6051b E m l f e:=by
 rcases bft (e != 0) with hc0 | hc0
 · have h:=h.1 (bneT hc0)
   exact eL (.bool true) [.b true,.v (.bool true)] [(e != 0)=true,Qc Try.prog (.clos 13 [] []) [] (.bool true)] hE Try.func11 ⟨hc0,(u13 (yH )),trivial⟩ (by exact AvLe.of_eq (by rw [h]; try rfl))
 · have h:=h.2 (bneF hc0)
   rcases bft (0 != (l.length:Int)) with hc1 | hc1
   · have h:=h.1 (bneT hc1)
     exact eL (.bool false) [.b false,.b true] [(e != 0)=false,(0 != (l.length:Int))=true] hE Try.func11 ⟨hc0,hc1,trivial⟩ (by exact AvLe.of_eq (by rw [h]; try rfl))
   · have h:=h.2 (bneF hc1)
     refine QM (K':=(f11K0 Try.prog)) (st':=⟨([J,.rsl (Qo l) 0 l.length,J,.rptr [.rsl (rowB m.park) 0 m.park.length,.rsl (Qb m.roads) 0 m.roads.length] 0,J,.rptr [.int .i64 f.to,.int .i64 f.gap,.int .i64 f.cents] 0,J,.nilSl,J,.sl 3 0 0 0 1,.nilSl,.int .i64 0]++Js 209),[⟨false,1,1,true,[],false⟩,⟨false,1,1,true,[],false⟩,⟨false,2,6,true,[],false⟩,⟨true,0,1,true,[],true⟩]⟩) (n:=400) (ds:=[(9,1)]) (cs:=[]) (live:=[1,3,5,7,9,10,11]) (m:=4) (evs:=[.b false,.b false,.stop]) (obs:=[(e != 0)=false,(0 != (l.length:Int))=false]) hE.2.1 (hE.nogh _) mixed (by kernel_rfl) ⟨hc0,hc1,trivial⟩ ?_
     refine weakT_step (t:=7) (v':=.rsl ((Yz Qn) ([]:List (List Leg))) 0 (([]:List (List Leg)).length)) rfl rfl rfl Vq ?_
     simp only [List.set_cons_succ,List.set_cons_zero]
     skip; exact (h 0)
theorem f11W6051 (m:FMap) (l:(List Lry)) (f:Fuel) {E:Env} {rv:Bool} (hE:Qr Try.prog 11 (.bool rv) E)
 (h:((m.park.length≤1000∧m.roads.length≤1000)∧((0+l.length)≤2147483648∧((MapSmall m∧l.length≤1000)∧(∀ (jl:List (List Leg)),(toE m f.to l=0∧jl.length=l.length∧∀ (i:Nat) (x:Lry) (legs:List Leg),l[i]?=some x→jl[i]?=some legs→JourOk m x legs)→f11G6051a E m l f jl)∧(∀ (e:Int),e ≠ 0→f11G6051b E m l f e))))):f11G6051 E m l f:=by
 obtain ⟨h1,h⟩:=h
 obtain ⟨h2,h⟩:=h
 have hL:=(sched_ok m l f.to f.gap h.1)
 rw [← (show AV.rsl (Qo l) 0 (0+l.length)=AV.rsl (Qo l) 0 l.length from by rw [show (0+l.length)=l.length from by simp])] at hL
 refine drawR_hd (c:=9) (stC:=⟨([J,.rsl (Qo l) 0 l.length,J,.rptr [.rsl (rowB m.park) 0 m.park.length,.rsl (Qb m.roads) 0 m.roads.length] 0,J,.rptr [.int .i64 f.to,.int .i64 f.gap,.int .i64 f.cents] 0]++jj 36 ([.agg [.rsl (rowB m.park) 0 m.park.length,.rsl (Qb m.roads) 0 m.roads.length],.agg [.rsl (rowB m.park) 0 m.park.length,.rsl (Qb m.roads) 0 m.roads.length],.sl 2 0 0 0 6,.rsl (Qo l) 0 l.length,.rsl (Qo l) 0 (0+l.length),.rptr [.int .i64 f.to,.int .i64 f.gap,.int .i64 f.cents] 0,.int .i64 f.to,.rptr [.int .i64 f.to,.int .i64 f.gap,.int .i64 f.cents] 1,.int .i64 f.gap]++Js 170)),[⟨false,1,1,true,[],false⟩,⟨false,1,1,true,[],false⟩,⟨false,2,6,true,[],false⟩]⟩) (evs:=[.v (.agg [.rsl (rowB m.park) 0 m.park.length,.rsl (Qb m.roads) 0 m.roads.length]),.fz,.cs (Qo l)]) (obs:=[Qc Try.prog (.clos 46 [] []) [.agg [.rsl (rowB m.park) 0 m.park.length,.rsl (Qb m.roads) 0 m.roads.length]] (.agg [.rsl (rowB m.park) 0 m.park.length,.rsl (Qb m.roads) 0 m.roads.length]),1=1,0=0,0=0,(0+l.length)≤2147483648,((Qo l).drop 0).take (l.length*6)=(Qo l),(Qo l).length=(l.length*6),noRefs (Qo l)=true]) (d:=some 51) (f:=45) (avs:=[.agg [.rsl (rowB m.park) 0 m.park.length,.rsl (Qb m.roads) 0 m.roads.length],.rsl (Qo l) 0 (0+l.length),.int .i64 f.to,.int .i64 f.gap]) hE.2.1 mixed (by kernel_rfl) ⟨(u46 (mapC_ok m h1)),rfl,rfl,rfl,h2,(by exact XX cLry (fun _=>rfl) l),(by exact QG cLry (fun _=>rfl) l),(by exact Yo cLry (fun _=>rfl) l),trivial⟩ Try.func45 (by kernel_rfl) f45b hL (fun res bs2 hR=>?_)
 rcases hR with ⟨⟨jl,rfl,hR⟩ | ⟨e,hR,rfl⟩,rfl⟩
 · have hG:=h.2.1 jl hR
   refine ⟨(f11X6051a m l f jl),[],[],?_,trivial,hG⟩
   kernel_rfl
 · have hG:=h.2.2 e hR
   refine ⟨(f11X6051b m l f e),[],[],?_,trivial,hG⟩
   kernel_rfl
end Go.Proofs.Ytemklbioijmjiaa
namespace Go.Proofs.Ytemklbioijmjiaa
open Go Ax
open Go.Proofs
theorem Qbz:∀ {l:List Spn} {v:List Int},(Vv l v).length=v.length
 | [],v=>rfl
 | x :: l,v=>by
  have:=Qbz (l:=l) (v:=spDo v x)
  rw [Vv,List.foldl_cons] at *
  rw [this,spDo,qG,Ye]
def qx:List Spn→Nat→Int
 | [],_=>0
 | x :: l,i=>cont x i+qx l i
theorem addTo_get {v:List Int} {p c:Int} {i:Nat} (h:Int.toNat p<v.length):(QaH v p c).getD i 0=v.getD i 0+if Int.toNat p=i then c else 0:=by
 rw [QaH]
 by_cases e:Int.toNat p=i
 · subst e; rw [if_pos rfl]; simp [List.getD,h]
 · rw [if_neg e]; simp [List.getD,List.getElem?_set_ne e]
theorem spFor_get {c:Int} {m:Nat}:∀ {l:List Int} {k:Nat} {v:List Int} {i:Nat},(∀ p ∈ l,0≤p∧p<(v.length:Int))→(KB c m k l v).getD i 0=v.getD i 0+Wx c m k l i
 | [],k,v,i,h=>by simp [KB,Wx]
 | p :: l,k,v,i,h=>by
  have hp:=h p (by simp)
  rw [KB,spFor_get (fun q hq=>by rw [Ye]; exact h q (by simp [hq])),addTo_get (by omega),Wx,Int.add_assoc]
theorem QbA {n:Int}:∀ {l:List Spn} {v:List Int} {i:Nat},(v.length:Int)=n→(∀ x ∈ l,Xl n x=true)→(Vv l v).getD i 0=v.getD i 0+qx l i
 | [],v,i,hn,h=>by simp [Vv,qx]
 | x :: l,v,i,hn,h=>by
  obtain ⟨x1,x2,x3,x4,x5⟩:=spn_of (h x (by simp))
  have:=QbA (l:=l) (v:=spDo v x) (i:=i) (by rw [spDo,qG,Ye]; exact hn) (fun y hy=>h y (by simp [hy]))
  rw [Vv,List.foldl_cons]
  rw [Vv] at this
  rw [this,spDo,spFor_get (fun p hp=>by rw [Ye,hn]; exact x4 p hp),addTo_get (by omega),qx,cont]; omega
def QaK (c:Int) (m:Nat):Nat→Int
 | 0=>0
 | t+1=>QaK c m t+owe c m t
theorem oweTo_eq {c:Int} {m:Nat} (hc:0≤c):∀ {t:Nat},QaK c m t=(t:Int)*Int.tdiv c m+if (t:Int)<Int.tmod c m then (t:Int) else Int.tmod c m
 | 0=>by
  have:=Int.tmod_nonneg (a:=c) (m:Int) hc
  rw [QaK]
  split <;> simp <;> omega
 | t+1=>by
  rw [QaK,oweTo_eq hc,owe,Int.natCast_add,Int.add_mul]
  generalize (t:Int)*Int.tdiv c m=a
  simp only [Int.natCast_one,Int.one_mul]
  split <;> split <;> omega
theorem oweTo_all {c:Int} {m:Nat} (hc:0≤c) (hm:0<m):QaK c m m=c:=by
 have h1:Int.tmod c m<m:=Int.tmod_lt_of_pos _ (by omega)
 rw [oweTo_eq hc,if_neg (by omega)]
 have:=Int.mul_tdiv_add_tmod c m
 omega
theorem addTo_sum {v:List Int} {p c:Int} (h:Int.toNat p<v.length):(QaH v p c).sum=v.sum+c:=by
 rw [QaH,sum_set h]; omega
theorem spFor_sum {c:Int} {m:Nat}:∀ {l:List Int} {k:Nat} {v:List Int},(∀ p ∈ l,0≤p∧p<(v.length:Int))→(KB c m k l v).sum=v.sum - (QaK c m (k+l.length) - QaK c m k)
 | [],k,v,h=>by simp [KB]
 | p :: l,k,v,h=>by
  have hp:=h p (by simp)
  rw [KB,spFor_sum (fun q hq=>by rw [Ye]; exact h q (by simp [hq])),addTo_sum (by omega),List.length_cons,show k+1+l.length=k+(l.length+1) by omega]
  have:QaK c m (k+1)=QaK c m k+owe c m k:=rfl
  omega
theorem Qby {n:Int}:∀ {l:List Spn} {v:List Int},(v.length:Int)=n→(∀ x ∈ l,Xl n x=true)→(Vv l v).sum=v.sum
 | [],v,hn,h=>rfl
 | x :: l,v,hn,h=>by
  obtain ⟨x1,x2,x3,x4,x5⟩:=spn_of (h x (by simp))
  have:=Qby (l:=l) (v:=spDo v x) (by rw [spDo,qG,Ye]; exact hn) (fun y hy=>h y (by simp [hy]))
  rw [Vv,List.foldl_cons]
  rw [Vv] at this
  have h0:QaK x.c x.fr.length 0=0:=rfl
  rw [this,spDo,spFor_sum (fun p hp=>by rw [Ye,hn]; exact x4 p hp),addTo_sum (by omega),Nat.zero_add,oweTo_all x2.1 x3,h0]; omega
/-! ### everybody shares what everybody pays -/
theorem givenK_get {n i:Nat} (h:i<n):(Qy n)[i]?=some (i:Int):=by
 rw [Qy,List.getElem?_map,List.getElem?_range h]; rfl
theorem Qae {n k:Nat} (h:k<n):(Qy n).drop k=(k:Int) :: (Qy n).drop (k+1):=by
 have hl:k<(Qy n).length:=by rw [Xt]; exact h
 rw [List.drop_eq_getElem_cons hl]
 have:=givenK_get h
 rw [List.getElem?_eq_getElem hl] at this
 rw [Option.some.inj this]
theorem incGiven {n:Nat}:∀ (d k:Nat),k+d=n→VU (n:Int) ((k:Int) - 1) ((Qy n).drop k)=true
 | 0,k,h=>by rw [List.drop_eq_nil_of_le (by rw [Xt]; omega)]; rfl
 | d+1,k,h=>by
  have ih:=incGiven (n:=n) d (k+1) (by omega)
  rw [show ((k+1:Nat):Int) - 1=(k:Int) by omega] at ih
  rw [Qae (n:=n) (k:=k) (by omega),VU,ih,decide_eq_false (show ¬ (k:Int)≤(k:Int) - 1 by omega),decide_eq_false (show ¬ (k:Int)≥(n:Int) by omega)]; rfl
/-- Who pays what,for all. -/
def spGo (n:Nat):Nat→List Int→List Spn
 | _,[]=>[]
 | k,p :: r=>⟨(k:Int),p,Qy n⟩ :: spGo n (k+1) r
theorem Kh {n:Nat}:∀ {k:Nat} {l:List Int},(spGo n k l).length=l.length
 | _,[]=>rfl
 | k,p :: r=>by rw [spGo,List.length_cons,List.length_cons,Kh]
theorem spGo_snoc {n:Nat} {p:Int}:∀ {k:Nat} {l:List Int},spGo n k (l++[p])=spGo n k l++[⟨((k+l.length:Nat):Int),p,Qy n⟩]
 | k,[]=>rfl
 | k,q :: r=>by rw [List.cons_append,spGo,spGo,spGo_snoc,List.cons_append,List.length_cons,show k+1+r.length=k+(r.length+1) by omega]
theorem QbN {n:Nat}:∀ {k:Nat} {l:List Int},∀ x ∈ spGo n k l,(∃ i:Nat,k≤i∧i<k+l.length∧x.by_=(i:Int))∧x.c ∈ l∧x.fr=Qy n
 | k,[],x,h=>by cases h
 | k,p :: r,x,h=>by
  rcases List.mem_cons.1 h with rfl | h
  · exact ⟨⟨k,Nat.le_refl k,by rw [List.length_cons]; omega,rfl⟩,List.mem_cons_self,rfl⟩
  · obtain ⟨⟨i,h1,h2,h3⟩,h4,h5⟩:=QbN x h
    exact ⟨⟨i,by omega,by rw [List.length_cons]; omega,h3⟩,List.mem_cons_of_mem _ h4,h5⟩
theorem spGo_ok {n:Nat} {paid:List Int} (h0:1≤n) (hl:paid.length=n) (hp:∀ p ∈ paid,0≤p∧p≤1000000000):∀ x ∈ spGo n 0 paid,Xl (n:Int) x=true:=fun x hx=>by
 obtain ⟨⟨i,i1,i2,i3⟩,h2,h3⟩:=QbN x hx
 obtain ⟨p0,p1⟩:=hp _ h2
 have h4:=incGiven (n:=n) n 0 (by omega)
 rw [List.drop_zero] at h4
 have h5:((0:Nat):Int) - 1=-1:=by omega
 rw [h5] at h4
 rw [Xl,h3,h4,show Qg x.by_ 0 ((n:Int) - 1)=true from Qx.2 (by omega),show Vl x.c=true from Qx.2 ⟨p0,p1⟩,Xt,decide_eq_false (by omega)]; rfl
theorem qV {c:Int} {m n i:Nat} (hi:i<n):∀ (d k:Nat),k+d=n→Wx c m k ((Qy n).drop k) i=if k≤i then -owe c m i else 0
 | 0,k,h=>by rw [List.drop_eq_nil_of_le (by rw [Xt]; omega),Wx,if_neg (by omega)]
 | d+1,k,h=>by
  rw [Qae (n:=n) (k:=k) (by omega),Wx,qV hi d (k+1) (by omega),Int.toNat_natCast]
  by_cases e:k=i
  · subst e; rw [if_pos rfl,if_neg (by omega),if_pos (Nat.le_refl k)]; omega
  · rw [if_neg e]
    by_cases q:k≤i
    · rw [if_pos q,if_pos (by omega)]; omega
    · rw [if_neg q,if_neg (by omega)]; rfl
/-- What all owe together. -/
def YX (n i:Nat):List Int→Int
 | []=>0
 | p :: r=>owe p n i+YX n i r
theorem Qbu {n i:Nat} (hi:i<n):∀ {k:Nat} {l:List Int},qx (spGo n k l) i=(if k≤i then l.getD (i - k) 0 else 0) - YX n i l
 | k,[]=>by simp [spGo,qx,YX]
 | k,p :: r=>by
  have h1:=qV (c:=p) (m:=n) hi n 0 (by omega)
  rw [List.drop_zero,if_pos (Nat.zero_le i)] at h1
  rw [spGo,qx,cont,Qbu hi,YX,Xt,h1,Int.toNat_natCast]
  dsimp only
  rcases Nat.lt_trichotomy k i with q | q | q
  · rw [if_neg (by omega),if_pos (by omega),if_pos (by omega),show i - k=(i - (k+1))+1 by omega,List.getD_cons_succ]; omega
  · subst q; rw [if_pos rfl,if_neg (by omega),if_pos (Nat.le_refl k),Nat.sub_self,List.getD_cons_zero]; omega
  · rw [if_neg (by omega),if_neg (by omega),if_neg (by omega)]; omega
theorem owe_two {c:Int} {m i k:Nat}:owe c m i - owe c m k≤1∧-1≤owe c m i - owe c m k:=by
 unfold owe; split <;> split <;> omega
theorem Qbc {n i k:Nat}:∀ {l:List Int},YX n i l - YX n k l≤(l.length:Int)∧-(l.length:Int)≤YX n i l - YX n k l
 | []=>by simp [YX]
 | p :: r=>by
  have h1:=owe_two (c:=p) (m:=n) (i:=i) (k:=k)
  have h2:=Qbc (n:=n) (i:=i) (k:=k) (l:=r)
  rw [YX,YX,List.length_cons]; omega
theorem oweAll_bd {n i:Nat} (hn:0<n):∀ {l:List Int},(∀ p ∈ l,0≤p∧p≤1000000000)→0≤YX n i l∧YX n i l≤1000000001*(l.length:Int)
 | [],_=>by simp [YX]
 | p :: r,h=>by
  obtain ⟨-,h1⟩:=owe_bd (k:=i) (h p List.mem_cons_self) hn
  have h2:=oweAll_bd (i:=i) hn (l:=r) fun q hq=>h q (List.mem_cons_of_mem _ hq)
  rw [YX,List.length_cons]; omega
section
variable {n:Nat} {paid:List Int}
theorem sum_rep0:∀ n:Nat,(List.replicate n (0:Int)).sum=0
 | 0=>rfl
 | n+1=>by rw [List.replicate_succ,List.sum_cons,sum_rep0 n]; rfl
def balF (n:Nat) (paid:List Int):List Int:=Vv (spGo n 0 paid) (List.replicate n 0)
theorem balK_sp (h0:1≤n) (h8:n≤8) (hl:paid.length=n) (hp:∀ p ∈ paid,0≤p∧p≤1000000000):balK (n:Int) (spGo n 0 paid)=(balF n paid,0):=by
 have ok:=spGo_ok h0 hl hp
 have hc:XO (n:Int) (spGo n 0 paid)=0:=by
  rw [XO,if_neg (by rw [show Qg (n:Int) 1 10=true from Qx.2 (by omega)]; exact fun q=>by cases q),if_neg (by rw [Kh]; omega),if_neg]
  intro q
  obtain ⟨x,hx,hb⟩:=List.any_eq_true.1 q
  rw [ok x hx] at hb; cases hb
 rw [balK,if_pos hc,Int.toNat_natCast]; rfl
theorem Kr:(balF n paid).length=n:=by rw [balF,Qbz,List.length_replicate]
theorem QcD (h0:1≤n) (hl:paid.length=n) (hp:∀ p ∈ paid,0≤p∧p≤1000000000) {i:Nat} (hi:i<n):(balF n paid).getD i 0=paid.getD i 0 - YX n i paid:=by
 have h1:=QbA (n:=(n:Int)) (l:=spGo n 0 paid) (v:=List.replicate n 0) (i:=i) (by rw [List.length_replicate]) (spGo_ok h0 hl hp)
 rw [balF,h1,Qbu hi,if_pos (Nat.zero_le i),Nat.sub_zero]
 have:(List.replicate n (0:Int)).getD i 0=0:=by rw [List.getD_eq_getElem?_getD,List.getElem?_replicate,if_pos hi]; rfl
 omega
theorem balF_sum (h0:1≤n) (hl:paid.length=n) (hp:∀ p ∈ paid,0≤p∧p≤1000000000):sumI (balF n paid)=0:=by
 have h1:=Qby (n:=(n:Int)) (l:=spGo n 0 paid) (v:=List.replicate n 0) (by rw [List.length_replicate]) (spGo_ok h0 hl hp)
 rw [sumI,balF,h1]; exact sum_rep0 n
theorem QcE (h0:1≤n) (h8:n≤8) (hl:paid.length=n) (hp:∀ p ∈ paid,0≤p∧p≤1000000000):∀ b ∈ balF n paid,-8000000008≤b∧b≤1000000000:=fun b hb=>by
 obtain ⟨i,hi⟩:=List.mem_iff_getElem?.1 hb
 have hin:i<n:=by have:=(List.getElem?_eq_some_iff.1 hi).1; rw [Kr] at this; exact this
 have h1:=QcD h0 hl hp hin
 rw [List.getD_eq_getElem?_getD,hi] at h1
 simp only [Option.getD_some] at h1
 have h2:=oweAll_bd (n:=n) (i:=i) (by omega) hp
 have h3:paid[i]?=some (paid.getD i 0):=by
  rw [List.getD_eq_getElem?_getD,List.getElem?_eq_getElem (show i<paid.length by omega)]; rfl
 have h4:=hp _ (List.mem_of_getElem? h3)
 omega
theorem balF_stld (h0:1≤n) (h8:n≤8) (hl:paid.length=n) (hp:∀ p ∈ paid,0≤p∧p≤1000000000):We (balF n paid)=true:=by
 have hb:balB (balF n paid)=true:=by
  unfold balB
  rw [show Qg ((balF n paid).length:Int) 1 10=true from Qx.2 (by rw [Kr]; omega),Bool.true_and,Bool.not_eq_true',List.any_eq_false]
  intro x hx
  have:=QcE h0 h8 hl hp x hx
  rw [show balN x=true from Qx.2 (by omega)]; simp
 rw [We,Xj,if_neg (by rw [hb]; simp),if_pos (balF_sum h0 hl hp)]; rfl
end
/-! ### the ticks on the roads -/
def tk (m:FMap) (l:List Leg):Int:=sumL ⟨m,⟨0,0,0,0,0,0⟩⟩ l
theorem tk_any {m:FMap} {x:Lry}:∀ {l:List Leg},sumL ⟨m,x⟩ l=tk m l
 | []=>rfl
 | y :: l=>by
  have:=tk_any (m:=m) (x:=x) (l:=l)
  rw [sumL,this]; rfl
theorem tk_cons {m:FMap} {x:Leg} {l:List Leg}:tk m (x :: l)=(Qd m.roads x.road.toNat).len+tk m l:=rfl
theorem Kx {m:FMap} {x:Lry} (ok:AtlOk ⟨m,x⟩):∀ {l:List Leg} {t:Int},chOk ⟨m,x⟩ t l→0≤tk m l
 | [],_,_=>Int.le_refl 0
 | y :: l,t,h=>by
  have h1:=VJ ok h.1 h.2.1
  have h1':1≤(Qd m.roads y.road.toNat).len:=h1.1
  have h2:=Kx ok h.2.2.2
  rw [tk_cons]; omega
theorem mulBd {a b A B:Int} (ha:0≤a∧a≤A) (hb:0≤b∧b≤B):0≤a*b∧a*b≤A*B :=
 ⟨Int.mul_nonneg ha.1 hb.1,Int.mul_le_mul ha.2 hb.2 hb.1 (by omega)⟩
theorem small_nP {m:FMap} {x:Lry} (ok:AtlOk ⟨m,x⟩) (hp:m.park.length≤5) (hd:¬ (60<x.drive∧x.drive≤500)):nP ⟨m,x⟩≤305:=by
 have h1:x.drive≤500:=ok.d1
 have h2:x.drive.toNat+1≤61:=by omega
 exact Nat.le_trans (Nat.mul_le_mul hp h2) (by decide)
section
variable {m:FMap} {l:List Lry} {f:Fuel} {jl:List (List Leg)} {E:Env}
def QaJ (m:FMap) (f:Fuel) (jl:List (List Leg)) (i:Nat):List Int:=(jl.take i).map fun legs=>tk m legs*f.cents
theorem paidN_succ {i:Nat} {legs:List Leg} (h:jl[i]?=some legs):QaJ m f jl (i+1)=QaJ m f jl i++[tk m legs*f.cents]:=by
 obtain ⟨h1,h2⟩:=List.getElem?_eq_some_iff.1 h
 rw [QaJ,List.take_succ_eq_append_getElem h1,h2,List.map_append]; rfl
theorem paidN_len {i:Nat} (h:i≤jl.length):(QaJ m f jl i).length=i:=by rw [QaJ,List.length_map,List.length_take]; omega
theorem pair_go (hE:Qr Try.prog 11 (.bool true) E) {paid ev:List Int} (h0:1≤l.length) (h8:l.length≤8) (hl:paid.length=l.length) (hp:∀ p ∈ paid,0≤p∧p≤1000000000) :
 ∀ (d i:Nat),i+d=l.length→f11G3 E m l f ev (balF l.length paid) paid i:=by
 have hbl:(balF l.length paid).length=l.length:=Kr
 have gp:∀ i,i<l.length→paid[i]?=some (paid.getD i 0):=fun i hi=>by
  rw [List.getD_eq_getElem?_getD,List.getElem?_eq_getElem (show i<paid.length by omega)]; rfl
 have gb:∀ i,i<l.length→(balF l.length paid)[i]?=some ((balF l.length paid).getD i 0):=fun i hi=>by
  rw [List.getD_eq_getElem?_getD,List.getElem?_eq_getElem (show i<(balF l.length paid).length by omega)]; rfl
 intro d
 induction d with
 | zero =>
  intro i hi
  exact f11W3 m l f ev _ paid i (rv:=true) hE ⟨fun q=>absurd q (by omega),fun _=>⟨by omega,fun _=>rfl,fun q=>by rw [balF_stld h0 h8 hl hp] at q; cases q⟩⟩
 | succ d ih =>
  intro i hi
  have nx:=ih (i+1) (by omega)
  have inner:∀ (d k:Nat),k+d=i→f11G4 E m l f (balF l.length paid) ev paid i k:=by
   intro d
   induction d with
   | zero =>
    intro k hk
    exact f11W4 m l f _ ev paid i k (rv:=true) hE ⟨fun q=>absurd q (by omega),fun _=>⟨by omega,nx⟩⟩
   | succ d ih2 =>
    intro k hk
    have e1:=QcD h0 hl hp (show i<l.length by omega)
    have e2:=QcD h0 hl hp (show k<l.length by omega)
    have p1:=hp _ (List.mem_of_getElem? (gp i (by omega)))
    have p2:=hp _ (List.mem_of_getElem? (gp k (by omega)))
    have b1:=QcE h0 h8 hl hp _ (List.mem_of_getElem? (gb i (by omega)))
    have b2:=QcE h0 h8 hl hp _ (List.mem_of_getElem? (gb k (by omega)))
    have two:=Qbc (n:=l.length) (i:=i) (k:=k) (l:=paid)
    exact f11W4 m l f _ ev paid i k (rv:=true) hE ⟨fun _=>⟨_,gp i (by omega),_,gb i (by omega),by omega,_,gp k (by omega),_,gb k (by omega),by omega,by omega,fun q=>absurd q (by omega),fun _=>⟨by omega,fun q=>absurd q (by omega),fun _=>⟨by omega,ih2 (k+1) (by omega)⟩⟩⟩,fun q=>absurd (by omega) q⟩
  exact f11W3 m l f ev _ paid i (rv:=true) hE ⟨fun _=>inner i 0 (by omega),fun q=>absurd (by omega) q⟩
theorem legs_go (hE:Qr Try.prog 11 (.bool true) E) {x:Lry} {legs:List Leg} {i:Nat} {ev paid:List Int} {sp:List Spn} (hc:1≤f.cents∧f.cents≤1000) (ok:AtlOk ⟨m,x⟩) (hj:jl[i]?=some legs) (ht:0≤tk m legs∧tk m legs≤305000) (hll:legs.length≤7000000) (hi:i≤8) (hev:ev.length≤8) (hpl:paid.length≤8) (hsl:sp.length≤8)
 (nx:f11G1 E m l f jl ev (paid++[tk m legs*f.cents]) (sp++[⟨(i:Int),tk m legs*f.cents,ev⟩]) (i+1)) :
 ∀ (d k:Nat) (at_ ticks:Int),k+d=legs.length→chOk ⟨m,x⟩ at_ (legs.drop k)→arrL ⟨m,x⟩ at_ (legs.drop k)≤200000000→0≤at_→0≤ticks→ticks+tk m (legs.drop k)=tk m legs→f11G2 E m l f jl at_ ev ticks k i paid sp:=by
 intro d
 induction d with
 | zero =>
  intro k at_ ticks hk _ _ _ _ hs
  rw [List.drop_eq_nil_of_le (by omega)] at hs
  have e:ticks=tk m legs:=by rw [← hs]; show ticks=ticks+0; omega
  subst e
  have mb:=mulBd ht (show 0≤f.cents∧f.cents≤1000 by omega)
  exact f11W2 m l f jl at_ ev _ k i paid sp (rv:=true) hE ⟨legs,hj,fun q=>absurd q (by omega),fun _=>⟨by omega,by omega,by omega,by omega,by omega,by omega,nx⟩⟩
 | succ d ih =>
  intro k at_ ticks hk hch har h0 h1 hs
  have hx:legs[k]?=some legs[k]:=List.getElem?_eq_getElem (by omega)
  have hdr:legs.drop k=legs[k] :: legs.drop (k+1):=List.drop_eq_getElem_cons (by omega)
  generalize legs[k]=y at hx hdr
  rw [hdr] at hch har hs
  obtain ⟨c1,c2,c3,c4⟩:=hch
  have c2':y.road<(m.roads.length:Int):=c2
  have hb:=VJ ok c1 c2
  have hb1:1≤(Qd m.roads y.road.toNat).len∧(Qd m.roads y.road.toNat).len≤500:=hb
  have hd:=(Kq ok c4).1
  have hd':y.dep+(Qd m.roads y.road.toNat).len≤arrL ⟨m,x⟩ (y.dep+XR ⟨m,x⟩ y) (legs.drop (k+1)):=hd
  have har':arrL ⟨m,x⟩ (y.dep+XR ⟨m,x⟩ y) (legs.drop (k+1))≤200000000:=har
  have hn:=Kx ok c4
  rw [tk_cons] at hs
  refine f11W2 m l f jl at_ ev ticks k i paid sp (rv:=true) hE ⟨legs,hj,fun _=>⟨y,hx,fun q=>absurd q (by omega),fun _=>⟨fun q=>absurd q (by omega),fun _=>⟨fun q=>absurd q (by omega),fun _=>⟨c1,_,YP (by omega),by omega,by omega,by omega,?_⟩⟩⟩⟩,fun q=>absurd (by omega) q⟩
  exact ih (k+1) _ _ (by omega) c4 har' (by omega) (by omega) (by omega)
theorem jour_go (hE:Qr Try.prog 11 (.bool true) E) (hc:1≤f.cents∧f.cents≤1000) (hp5:m.park.length≤5) (hdr:∀ x ∈ l,¬ (60<x.drive∧x.drive≤500)) (te:toE m f.to l=0) (hn:1≤l.length) (hl:jl.length=l.length) (hJ:∀ (i:Nat) (x:Lry) (legs:List Leg),l[i]?=some x→jl[i]?=some legs→JourOk m x legs) :
 ∀ (d i:Nat),i+d=l.length→f11G1 E m l f jl (Qy l.length) (QaJ m f jl i) (spGo l.length 0 (QaJ m f jl i)) i:=by
 obtain ⟨hm,h8,hlry,-⟩:=qZ te
 have tkb:∀ (i:Nat) (x:Lry) (legs:List Leg),l[i]?=some x→jl[i]?=some legs→0≤tk m legs∧tk m legs≤305000:=fun i x legs hx hg=>by
  have hmem:=List.mem_of_getElem? hx
  obtain ⟨⟨ok,-⟩,-⟩:=QbB hm (hlry x hmem)
  have j:=hJ i x legs hx hg
  have h1:=j.sm
  rw [tk_any] at h1
  have h2:=small_nP ok hp5 (hdr x hmem)
  exact ⟨Kx ok j.ch,by omega⟩
 have hpaid:∀ i,i≤l.length→∀ p ∈ QaJ m f jl i,0≤p∧p≤1000000000:=fun i hi p hp=>by
  obtain ⟨legs,hm1,rfl⟩:=List.mem_map.1 hp
  obtain ⟨k,hk⟩:=List.mem_iff_getElem?.1 (List.mem_of_mem_take hm1)
  have hkl:=(List.getElem?_eq_some_iff.1 hk).1
  have hb:=tkb k _ legs (List.getElem?_eq_getElem (show k<l.length by omega)) hk
  have:=mulBd hb (show 0≤f.cents∧f.cents≤1000 by omega)
  omega
 intro d
 induction d with
 | zero =>
  intro i hi
  have hpl:=paidN_len (m:=m) (f:=f) (show i≤jl.length by omega)
  have hpl2:(QaJ m f jl i).length=l.length:=by omega
  have hb:=hpaid i (by omega)
  have hk:=balK_sp hn h8 hpl2 hb
  have hbl:(balF l.length (QaJ m f jl i)).length=l.length:=Kr
  have hbb:=QcE hn h8 hpl2 hb
  refine f11W1 m l f jl _ _ _ i (rv:=true) hE ⟨fun q=>absurd q (by omega),fun _=>⟨⟨by rw [Kh]; omega,fun x hx=>by rw [(QbN x hx).2.2,Xt]; omega⟩,?_⟩⟩
  rw [hk]
  dsimp only
  exact ⟨fun q=>absurd rfl q,fun _=>⟨fun q=>absurd (by omega) q,fun _=>⟨QaQ (B:=8000000008) (by omega) (by omega) (by omega) (fun x hx=>by have:=hbb x hx; omega),fun q=>absurd (balF_sum hn hpl2 hb) q,fun _=>pair_go hE hn h8 hpl2 hb l.length 0 (by omega)⟩⟩⟩
 | succ d ih =>
  intro i hi
  have hx:l[i]?=some l[i]:=List.getElem?_eq_getElem (by omega)
  have hg:jl[i]?=some jl[i]:=List.getElem?_eq_getElem (by omega)
  generalize l[i]=x at hx
  generalize jl[i]=legs at hg
  have hmem:=List.mem_of_getElem? hx
  obtain ⟨⟨ok,-⟩,r0,r1⟩:=QbB hm (hlry x hmem)
  have j:=hJ i x legs hx hg
  have hN:=QaL ok
  have hln:=j.ln
  have hpl:=paidN_len (m:=m) (f:=f) (show i≤jl.length by omega)
  have nx:=ih (i+1) (by omega)
  rw [paidN_succ hg,spGo_snoc,hpl,Nat.zero_add] at nx
  refine f11W1 m l f jl _ _ _ i (rv:=true) hE ⟨fun _=>⟨x,hx,?_⟩,fun q=>absurd (by omega) q⟩
  exact legs_go hE hc ok hg (tkb i x legs hx hg) (by omega) (by omega) (by rw [Xt]; omega) (by omega) (by rw [Kh]; omega) nx legs.length 0 x.ready 0 (by omega) j.ch j.ar r0 (Int.le_refl 0) (by rw [List.drop_zero]; omega)
theorem all_go (hE:Qr Try.prog 11 (.bool true) E) (h8:l.length≤8) (nx:f11G1 E m l f jl (Qy l.length) [] [] 0):∀ (d i:Nat),i+d=l.length→f11G0 E m l f jl (Qy i) i:=by
 intro d
 induction d with
 | zero =>
  intro i hi
  have:i=l.length:=by omega
  subst this
  exact f11W0 m l f jl _ _ (rv:=true) hE ⟨fun q=>absurd q (by omega),fun _=>nx⟩
 | succ d ih =>
  intro i hi
  have h:=ih (i+1) (by omega)
  rw [Qad] at h
  exact f11W0 m l f jl _ i (rv:=true) hE ⟨fun _=>⟨by rw [Xt]; omega,by omega,h⟩,fun q=>absurd (by omega) q⟩
end
theorem law11_ok (m:FMap) (l:List Lry) (f:Fuel) (h:l.length≤9223372036854775807):Pure Try.prog 11 [.agg [.rsl (rowB m.park) 0 m.park.length,.rsl (Qb m.roads) 0 m.roads.length],.rsl (Qo l) 0 l.length,.agg [.int .i64 f.to,.int .i64 f.gap,.int .i64 f.cents]] (.bool true):=Qt Try.func11 f11b fun E hE =>
 f11W m l f (rv:=true) hE ⟨h,fun _=>rfl,fun a=>⟨fun _=>rfl,fun b=>⟨fun _=>rfl,fun c=>⟨fun _=>rfl,fun d=>by
  obtain ⟨n1,n2,n3,n4⟩:=largeM_no a
  exact f11W6051 m l f (rv:=true) hE ⟨⟨by omega,by omega⟩,by omega,⟨⟨by omega,by omega⟩,by omega⟩,fun jl hj=>f11W6051a m l f jl (rv:=true) hE ⟨fun q=>absurd (by rw [hj.2.1]) q,fun _=>by
   have h8:=(qZ hj.1).2.1
   exact all_go hE h8 (jour_go hE (by omega) n1 n4 hj.1 (by omega) hj.2.1 hj.2.2 l.length 0 (by omega)) l.length 0 (by omega)⟩,
   fun e he=>f11W6051b m l f e (rv:=true) hE ⟨fun _=>rfl,fun q=>absurd q he⟩⟩⟩⟩⟩⟩
end Go.Proofs.Ytemklbioijmjiaa
namespace Go.Proofs.Ytemklbioijmjiaa
open Go Ax
open Go.Proofs
theorem ownT:ownKnob Try.prog.godebug=none:=by kernel_rfl
theorem laidT:laidOutB Try.prog=true:=by kernel_rfl
theorem vBools (W:World):Dec Try.prog W 96 (List Bool) (fun a=>[.rsl (rowB a) 0 a.length]) (fun a=>a.length≤9223372036854775807):=by
 refine Dec.map (Qau Try.underlying96 (n:=1) (by kernel_rfl) (by decide) (fun _=>rfl) (fun _=>rfl) (dec_bool Try.underlying4)) (fun x=>x) ?_ ?_
 · exact fun _=>rfl
 · exact fun _ h=>h.1
theorem vRod (W:World):Dec Try.prog W 161 Rod cRod (fun a=>True):=by
 refine Dec.map (WP Try.underlying161 rfl (tot:=5) (by kernel_rfl) (QW (n:=1) (tot:=5) (by kernel_rfl) rfl (Yw Try.underlying3) (QW (n:=1) (tot:=5) (by kernel_rfl) rfl (Yw Try.underlying3) (QW (n:=1) (tot:=5) (by kernel_rfl) rfl (Yw Try.underlying3) (QW (n:=1) (tot:=5) (by kernel_rfl) rfl (Yw Try.underlying3) (QW (n:=1) (tot:=5) (by kernel_rfl) rfl (Yw Try.underlying3) qU (by decide)) (by decide)) (by decide)) (by decide)) (by decide))) (fun x=>(⟨x.1,x.2.1,x.2.2.1,x.2.2.2.1,x.2.2.2.2.1⟩:Rod)) ?_ ?_
 · exact fun _=>rfl
 · exact fun _ _=>trivial
theorem vRods (W:World):Dec Try.prog W 143 (List Rod) (fun a=>[.rsl (Qb a) 0 a.length]) (fun a=>a.length≤9223372036854775807):=by
 refine Dec.map (Qau Try.underlying143 (n:=5) (by kernel_rfl) (by decide) (fun _=>rfl) (fun _=>rfl) (vRod W)) (fun x=>x) ?_ ?_
 · exact fun _=>rfl
 · exact fun _ h=>h.1
theorem vMap (W:World):Dec Try.prog W 145 FMap (fun a=>[.rsl (rowB a.park) 0 a.park.length,.rsl (Qb a.roads) 0 a.roads.length]) (fun a=>True):=by
 refine Dec.map (WP Try.underlying145 rfl (tot:=2) (by kernel_rfl) (QW (n:=1) (tot:=2) (by kernel_rfl) rfl (vBools W) (QW (n:=1) (tot:=2) (by kernel_rfl) rfl (vRods W) qU (by decide)) (by decide))) (fun x=>(⟨x.1,x.2.1⟩:FMap)) ?_ ?_
 · exact fun _=>rfl
 · exact fun _ _=>trivial
theorem vLry (W:World):Dec Try.prog W 156 Lry cLry (fun a=>True):=by
 refine Dec.map (WP Try.underlying156 rfl (tot:=6) (by kernel_rfl) (QW (n:=1) (tot:=6) (by kernel_rfl) rfl (Yw Try.underlying3) (QW (n:=1) (tot:=6) (by kernel_rfl) rfl (Yw Try.underlying3) (QW (n:=1) (tot:=6) (by kernel_rfl) rfl (Yw Try.underlying3) (QW (n:=1) (tot:=6) (by kernel_rfl) rfl (Yw Try.underlying3) (QW (n:=1) (tot:=6) (by kernel_rfl) rfl (Yw Try.underlying3) (QW (n:=1) (tot:=6) (by kernel_rfl) rfl (Yw Try.underlying3) qU (by decide)) (by decide)) (by decide)) (by decide)) (by decide)) (by decide))) (fun x=>(⟨x.1,x.2.1,x.2.2.1,x.2.2.2.1,x.2.2.2.2.1,x.2.2.2.2.2.1⟩:Lry)) ?_ ?_
 · exact fun _=>rfl
 · exact fun _ _=>trivial
theorem vLrys (W:World):Dec Try.prog W 146 (List Lry) (fun a=>[.rsl (Qo a) 0 a.length]) (fun a=>a.length≤9223372036854775807):=by
 refine Dec.map (Qau Try.underlying146 (n:=6) (by kernel_rfl) (by decide) (fun _=>rfl) (fun _=>rfl) (vLry W)) (fun x=>x) ?_ ?_
 · exact fun _=>rfl
 · exact fun _ h=>h.1
theorem vFuel (W:World):Dec Try.prog W 148 Fuel (fun a=>[.int .i64 a.to,.int .i64 a.gap,.int .i64 a.cents]) (fun a=>True):=by
 refine Dec.map (WP Try.underlying148 rfl (tot:=3) (by kernel_rfl) (QW (n:=1) (tot:=3) (by kernel_rfl) rfl (Yw Try.underlying3) (QW (n:=1) (tot:=3) (by kernel_rfl) rfl (Yw Try.underlying3) (QW (n:=1) (tot:=3) (by kernel_rfl) rfl (Yw Try.underlying3) qU (by decide)) (by decide)) (by decide))) (fun x=>(⟨x.1,x.2.1,x.2.2.1⟩:Fuel)) ?_ ?_
 · exact fun _=>rfl
 · exact fun _ _=>trivial
end Go.Proofs.Ytemklbioijmjiaa