/- A part of the proof: several texts, one behind the other. -/
import Derived.Test.YtemklbioijmjiaaLTopBlockedD
set_option linter.unusedVariables false
set_option linter.unusedSimpArgs false
set_option maxRecDepth 100000
namespace Go.Proofs.Ytemklbioijmjiaa
open Go Ax
open Go.Proofs
theorem Ve:Try.f263.body=some (Qd Try.prog 263):=by kernel_rfl
def KM (P:Program):List Item:=kAt 400 [.code (Qd P 263)] [.b true,.stop]
def f263S0 (a:Int) (m:Int) (b:Int) (l far:List Int) (n0:Nat) (i:Int) (j:Int):St:=⟨([.sl 0 n0 0 l.length 1,.int .i64 a,J,J,.clos 170 [] [.ptr 1 0 0]]++jj 5 ([.int .i64 i,.int .i64 j]++Js 208)),[⟨true,n0,1,true,(rowI l),true⟩,⟨true,0,1,true,[.rsl (rowI far) 0 far.length],false⟩]⟩
def f263G0 (E:Env) (a:Int) (m:Int) (b:Int) (l far:List Int) (n0:Nat) (i:Int) (j:Int):Prop:=G Try.prog E (KM Try.prog) (f263S0 a m b l far n0 i j )
def f263K1 (P:Program):List Item:=kAt 400 [.code (Qd P 263)] [.b true,.b false,.stop]
def f263S1 (a:Int) (m:Int) (b:Int) (l far:List Int) (n0:Nat) (i:Int) (k:Int) (v0:List Int):St:=⟨([.sl 0 n0 0 v0.length 1]++jj 9 ([.int .i64 i,J,J,.int .i64 k]++Js 206)),[⟨true,n0,1,true,(rowI v0),true⟩,⟨true,0,1,true,[.rsl (rowI far) 0 far.length],false⟩]⟩
def f263G1 (E:Env) (a:Int) (m:Int) (b:Int) (l far:List Int) (n0:Nat) (i:Int) (k:Int) (v0:List Int):Prop:=G Try.prog E (f263K1 Try.prog) (f263S1 a m b l far n0 i k v0 )
def KL (P:Program):List Item:=kAt 400 [.code (Qd P 263)] [.b false,.b true,.stop]
def f263S2 (a:Int) (m:Int) (b:Int) (l far:List Int) (n0:Nat) (i:Int) (j:Int):St:=⟨([.sl 0 n0 0 l.length 1,J,.int .i64 m,J,.clos 170 [] [.ptr 1 0 0]]++jj 9 ([.int .i64 i,.int .i64 j]++Js 204)),[⟨true,n0,1,true,(rowI l),true⟩,⟨true,0,1,true,[.rsl (rowI far) 0 far.length],false⟩]⟩
def f263G2 (E:Env) (a:Int) (m:Int) (b:Int) (l far:List Int) (n0:Nat) (i:Int) (j:Int):Prop:=G Try.prog E (KL Try.prog) (f263S2 a m b l far n0 i j )
def f263K3 (P:Program):List Item:=kAt 400 [.code (Qd P 263)] [.b false,.b true,.b false,.stop]
def f263S3 (a:Int) (m:Int) (b:Int) (l far:List Int) (n0:Nat) (i:Int) (k:Int) (v0:List Int):St:=⟨([.sl 0 n0 0 v0.length 1]++jj 13 ([.int .i64 i,J,J,.int .i64 k]++Js 202)),[⟨true,n0,1,true,(rowI v0),true⟩,⟨true,0,1,true,[.rsl (rowI far) 0 far.length],false⟩]⟩
def f263G3 (E:Env) (a:Int) (m:Int) (b:Int) (l far:List Int) (n0:Nat) (i:Int) (k:Int) (v0:List Int):Prop:=G Try.prog E (f263K3 Try.prog) (f263S3 a m b l far n0 i k v0 )
def Xe (P:Program):List Item:=kAt 400 [.code (Qd P 263)] [.b false,.b false,.b true,.stop]
def Xm (a:Int) (m:Int) (b:Int) (l far:List Int) (n0:Nat) (start:Int) (r:Int):St:=⟨([.sl 0 n0 0 l.length 1,.int .i64 a,.int .i64 m,.int .i64 b,.clos 170 [] [.ptr 1 0 0]]++jj 13 ([.int .i64 ((a+b) / 2 ^ (Int.toNat 1)),.int .i64 (((a+b) / 2 ^ (Int.toNat 1))+m),.int .i64 start,.int .i64 r,.int .i64 ((((a+b) / 2 ^ (Int.toNat 1))+m) - 1)]++Js 197)),[⟨true,n0,1,true,(rowI l),true⟩,⟨true,0,1,true,[.rsl (rowI far) 0 far.length],false⟩]⟩
def WD (E:Env) (a:Int) (m:Int) (b:Int) (l far:List Int) (n0:Nat) (start:Int) (r:Int):Prop:=G Try.prog E (Xe Try.prog) (Xm a m b l far n0 start r )
noncomputable abbrev z263_1 (n0:Nat) (l:List Int) (far:List Int) (start:Int) (m:Int) (a:Int) (b:Int):List Blk:=[⟨true,n0,1,true,(rowI (roX l far n0 start m ((((a+b) / 2 ^ (Int.toNat 1))+m) - start))),true⟩,⟨true,0,1,true,[.rsl (rowI far) 0 far.length],false⟩]
abbrev QQ (n0:Nat) (l:List Int) (far:List Int):List Blk:=[⟨true,n0,1,true,(rowI l),true⟩,⟨true,0,1,true,[.rsl (rowI far) 0 far.length],false⟩]
noncomputable abbrev z263_3 (n0:Nat) (l:List Int) (far:List Int) (a:Int) (start:Int) (b:Int):List Blk:=[⟨true,n0,1,true,(rowI (syX l far n0 a start ((a+b) / 2 ^ (Int.toNat 1)))),true⟩,⟨true,0,1,true,[.rsl (rowI far) 0 far.length],false⟩]
noncomputable abbrev z263_4 (n0:Nat) (l:List Int) (far:List Int) (a:Int) (b:Int) (m:Int) (start:Int):List Blk:=[⟨true,n0,1,true,(rowI (syX l far n0 ((a+b) / 2 ^ (Int.toNat 1)) ((((a+b) / 2 ^ (Int.toNat 1))+m) - start) b)),true⟩,⟨true,0,1,true,[.rsl (rowI far) 0 far.length],false⟩]
noncomputable abbrev z263_5 (n0:Nat) (l:List Int) (far:List Int) (start:Int) (m:Int) (a:Int) (b:Int):List Blk:=[⟨true,n0,1,true,(rowI (syX (roX l far n0 start m ((((a+b) / 2 ^ (Int.toNat 1))+m) - start)) far n0 a start ((a+b) / 2 ^ (Int.toNat 1)))),true⟩,⟨true,0,1,true,[.rsl (rowI far) 0 far.length],false⟩]
noncomputable abbrev z263_6 (n0:Nat) (l:List Int) (far:List Int) (start:Int) (m:Int) (a:Int) (b:Int):List Blk:=[⟨true,n0,1,true,(rowI (syX (roX l far n0 start m ((((a+b) / 2 ^ (Int.toNat 1))+m) - start)) far n0 ((a+b) / 2 ^ (Int.toNat 1)) ((((a+b) / 2 ^ (Int.toNat 1))+m) - start) b)),true⟩,⟨true,0,1,true,[.rsl (rowI far) 0 far.length],false⟩]
abbrev WN (n0:Nat) (l:List Int) (a:Int) (b:Int) (m:Int) (start:Int):List AV:=[.sl 0 n0 0 l.length 1,.int .i64 ((a+b) / 2 ^ (Int.toNat 1)),.int .i64 ((((a+b) / 2 ^ (Int.toNat 1))+m) - start),.int .i64 b,.clos 170 [] [.ptr 1 0 0]]
noncomputable abbrev z263_8 (n0:Nat) (l:List Int) (far:List Int) (a:Int) (start:Int) (b:Int) (m:Int):List Blk:=[⟨true,n0,1,true,(rowI (syX (syX l far n0 a start ((a+b) / 2 ^ (Int.toNat 1))) far n0 ((a+b) / 2 ^ (Int.toNat 1)) ((((a+b) / 2 ^ (Int.toNat 1))+m) - start) b)),true⟩,⟨true,0,1,true,[.rsl (rowI far) 0 far.length],false⟩]
abbrev WM (n0:Nat) (l:List Int) (start:Int) (m:Int) (a:Int) (b:Int):List AV:=[.sl 0 n0 0 l.length 1,.int .i64 start,.int .i64 m,.int .i64 ((((a+b) / 2 ^ (Int.toNat 1))+m) - start),.clos 170 [] [.ptr 1 0 0]]
abbrev Vs (n0:Nat) (l:List Int) (a:Int) (start:Int) (b:Int):List AV:=[.sl 0 n0 0 l.length 1,.int .i64 a,.int .i64 start,.int .i64 ((a+b) / 2 ^ (Int.toNat 1)),.clos 170 [] [.ptr 1 0 0]]
noncomputable abbrev z263_11 (n0:Nat) (l:List Int) (far:List Int) (start:Int) (m:Int) (a:Int) (b:Int):List Blk:=[⟨true,n0,1,true,(rowI (syX (syX (roX l far n0 start m ((((a+b) / 2 ^ (Int.toNat 1))+m) - start)) far n0 a start ((a+b) / 2 ^ (Int.toNat 1))) far n0 ((a+b) / 2 ^ (Int.toNat 1)) ((((a+b) / 2 ^ (Int.toNat 1))+m) - start) b)),true⟩,⟨true,0,1,true,[.rsl (rowI far) 0 far.length],false⟩]
abbrev VJ (n0:Nat) (l:List Int) (a:Int) (m:Int) (b:Int):List AV:=[.sl 0 n0 0 l.length 1,.int .i64 a,.int .i64 m,.int .i64 b,.clos 170 [] [.ptr 1 0 0]]
abbrev qv (far:List Int):AV:=.clos 170 [] [.rptr [.rsl (rowI far) 0 far.length] 0]
theorem p263_start_0 (a:Int) (m:Int) (b:Int) (l far:List Int) (n0:Nat) {E:Env} {rv:AV} {bs2:List Blk} (hE:LentE Try.prog 263 [.sl 1 0 0 0 1] rv bs2 E) (ho:AllP [InR .i64 (m - a),((m - a) == 1)=true])
 (hg:G Try.prog E (KM Try.prog) ⟨([.sl 0 n0 0 l.length 1,.int .i64 a,J,J,.clos 170 [] [.ptr 1 0 0]]++jj 5 ([.int .i64 m,.int .i64 b]++Js 208)),(QQ n0 l far)⟩):G Try.prog E [.code (Qd Try.prog 263)] ⟨(VJ n0 l a m b)++unds (Try.f263.ntmps - 5),(QQ n0 l far)⟩ :=
 Qe (n:=400) (ds:=[]) (cs:=[]) (live:=[0,1,4,10,11]) (m:=2) (evs:=[.b true,.stop]) (obs:=_) hE.kind (hE.nogh (by kernel_rfl)) Qg (by kernel_rfl) ho hg
theorem p263_start_1 (a:Int) (m:Int) (b:Int) (l far:List Int) (n0:Nat) {E:Env} {rv:AV} {bs2:List Blk} (hE:LentE Try.prog 263 [.sl 1 0 0 0 1] rv bs2 E) (ho:AllP [InR .i64 (m - a),((m - a) == 1)=false,InR .i64 (b - m),((b - m) == 1)=true])
 (hg:G Try.prog E (KL Try.prog) ⟨([.sl 0 n0 0 l.length 1,J,.int .i64 m,J,.clos 170 [] [.ptr 1 0 0]]++jj 9 ([.int .i64 a,.int .i64 m]++Js 204)),(QQ n0 l far)⟩):G Try.prog E [.code (Qd Try.prog 263)] ⟨(VJ n0 l a m b)++unds (Try.f263.ntmps - 5),(QQ n0 l far)⟩ :=
 Qe (n:=400) (ds:=[]) (cs:=[]) (live:=[0,2,4,14,15]) (m:=2) (evs:=[.b false,.b true,.stop]) (obs:=_) hE.kind (hE.nogh (by kernel_rfl)) Qg (by kernel_rfl) ho hg
theorem p263_start_2 (a:Int) (m:Int) (b:Int) (l far:List Int) (n0:Nat) {E:Env} {rv:AV} {bs2:List Blk} (hE:LentE Try.prog 263 [.sl 1 0 0 0 1] rv bs2 E) (ho:AllP [InR .i64 (m - a),((m - a) == 1)=false,InR .i64 (b - m),((b - m) == 1)=false,InR .i64 (a+b),InR .u64 (a+b),(0:Int)≤1∧1≤((IntKind.bits .u64:Nat):Int),InR .i64 ((a+b) / 2 ^ (Int.toNat 1)),InR .i64 (((a+b) / 2 ^ (Int.toNat 1))+m),(decide (m > ((a+b) / 2 ^ (Int.toNat 1))))=true,InR .i64 ((((a+b) / 2 ^ (Int.toNat 1))+m) - b),InR .i64 ((((a+b) / 2 ^ (Int.toNat 1))+m) - 1)])
 (hg:G Try.prog E (Xe Try.prog) ⟨((VJ n0 l a m b)++jj 13 ([.int .i64 ((a+b) / 2 ^ (Int.toNat 1)),.int .i64 (((a+b) / 2 ^ (Int.toNat 1))+m),.int .i64 ((((a+b) / 2 ^ (Int.toNat 1))+m) - b),.int .i64 ((a+b) / 2 ^ (Int.toNat 1)),.int .i64 ((((a+b) / 2 ^ (Int.toNat 1))+m) - 1)]++Js 197)),(QQ n0 l far)⟩):G Try.prog E [.code (Qd Try.prog 263)] ⟨(VJ n0 l a m b)++unds (Try.f263.ntmps - 5),(QQ n0 l far)⟩ :=
 Qe (n:=400) (ds:=[]) (cs:=[]) (live:=[0,1,2,3,4,18,19,20,21,22]) (m:=2) (evs:=[.b false,.b false,.b true,.stop]) (obs:=_) hE.kind (hE.nogh (by kernel_rfl)) Qg (by kernel_rfl) ho hg
theorem p263_start_3 (a:Int) (m:Int) (b:Int) (l far:List Int) (n0:Nat) {E:Env} {rv:AV} {bs2:List Blk} (hE:LentE Try.prog 263 [.sl 1 0 0 0 1] rv bs2 E) (ho:AllP [InR .i64 (m - a),((m - a) == 1)=false,InR .i64 (b - m),((b - m) == 1)=false,InR .i64 (a+b),InR .u64 (a+b),(0:Int)≤1∧1≤((IntKind.bits .u64:Nat):Int),InR .i64 ((a+b) / 2 ^ (Int.toNat 1)),InR .i64 (((a+b) / 2 ^ (Int.toNat 1))+m),(decide (m > ((a+b) / 2 ^ (Int.toNat 1))))=false,InR .i64 ((((a+b) / 2 ^ (Int.toNat 1))+m) - 1)])
 (hg:G Try.prog E (Xe Try.prog) ⟨((VJ n0 l a m b)++jj 13 ([.int .i64 ((a+b) / 2 ^ (Int.toNat 1)),.int .i64 (((a+b) / 2 ^ (Int.toNat 1))+m),.int .i64 a,.int .i64 m,.int .i64 ((((a+b) / 2 ^ (Int.toNat 1))+m) - 1)]++Js 197)),(QQ n0 l far)⟩):G Try.prog E [.code (Qd Try.prog 263)] ⟨(VJ n0 l a m b)++unds (Try.f263.ntmps - 5),(QQ n0 l far)⟩ :=
 Qe (n:=400) (ds:=[]) (cs:=[]) (live:=[0,1,2,3,4,18,19,20,21,22]) (m:=2) (evs:=[.b false,.b false,.b false,.stop]) (obs:=_) hE.kind (hE.nogh (by kernel_rfl)) Qg (by kernel_rfl) ho hg
theorem f263W (a:Int) (m:Int) (b:Int) (l far:List Int) (n0:Nat) {E:Env} {rv:Unit} {lo:List Int} (hE:LentE Try.prog 263 [.sl 1 0 0 0 1] (.tup []) [⟨true,n0,1,true,(rowI lo),true⟩,⟨true,0,1,true,[.rsl (rowI far) 0 far.length],false⟩] E)
 (h:((I6 (m - a))∧(((m - a)=1→f263G0 E a m b l far n0 m b)∧(¬ ((m - a)=1)→((I6 (b - m))∧(((b - m)=1→f263G2 E a m b l far n0 a m)∧(¬ ((b - m)=1)→((I6 (a+b))∧(InR .u64 (a+b)∧((I6 (((a+b) / 2 ^ (Int.toNat 1):Int)))∧((I6 ((((a+b) / 2 ^ (Int.toNat 1))+m:Int)))∧((m > ((a+b) / 2 ^ (Int.toNat 1))→((I6 (((((a+b) / 2 ^ (Int.toNat 1))+m) - b:Int)))∧((I6 (((((a+b) / 2 ^ (Int.toNat 1))+m) - 1:Int)))∧WD E a m b l far n0 ((((a+b) / 2 ^ (Int.toNat 1))+m) - b) ((a+b) / 2 ^ (Int.toNat 1)))))∧(¬ (m > ((a+b) / 2 ^ (Int.toNat 1)))→((I6 (((((a+b) / 2 ^ (Int.toNat 1))+m) - 1:Int)))∧WD E a m b l far n0 a m)))))))))))))):G Try.prog E [.code (Qd Try.prog 263)] ⟨[.sl 0 n0 0 l.length 1,.int .i64 a,.int .i64 m,.int .i64 b,.clos 170 [] [.ptr 1 0 0]]++unds (Try.f263.ntmps - 5),[⟨true,n0,1,true,(rowI l),true⟩,⟨true,0,1,true,[.rsl (rowI far) 0 far.length],false⟩]⟩:=by
 obtain ⟨q0_0,h⟩:=h
 rcases bft ((m - a) == 1) with hc0 | hc0
 · have h:=h.1 (eq_of_beq hc0)
   exact p263_start_0 a m b l far n0 hE ⟨q0_0,hc0,trivial⟩ h
 · have h:=h.2 (ne_of_beq_false hc0)
   obtain ⟨q2_1,h⟩:=h
   rcases bft ((b - m) == 1) with hc1 | hc1
   · have h:=h.1 (eq_of_beq hc1)
     exact p263_start_1 a m b l far n0 hE ⟨q0_0,hc0,q2_1,hc1,trivial⟩ h
   · have h:=h.2 (ne_of_beq_false hc1)
     obtain ⟨q4_2,h⟩:=h
     obtain ⟨q5_2,h⟩:=h
     obtain ⟨q7_2,h⟩:=h
     obtain ⟨q8_2,h⟩:=h
     rcases bft (decide (m > ((a+b) / 2 ^ (Int.toNat 1)))) with hc2 | hc2
     · have h:=h.1 (odt hc2)
       obtain ⟨q10_3,h⟩:=h
       obtain ⟨q11_3,h⟩:=h
       exact p263_start_2 a m b l far n0 hE ⟨q0_0,hc0,q2_1,hc1,q4_2,q5_2,(⟨by decide,by decide⟩),q7_2,q8_2,hc2,q10_3,q11_3,trivial⟩ h
     · have h:=h.2 (odf hc2)
       obtain ⟨q10_3,h⟩:=h
       exact p263_start_3 a m b l far n0 hE ⟨q0_0,hc0,q2_1,hc1,q4_2,q5_2,(⟨by decide,by decide⟩),q7_2,q8_2,hc2,q10_3,trivial⟩ h
theorem p263_0_0 (a:Int) (m:Int) (b:Int) (l far:List Int) (n0:Nat) (i:Int) (j:Int) (e:Int) (e1:Int) {E:Env} {rv:AV} {bs2:List Blk} (hE:LentE Try.prog 263 [.sl 1 0 0 0 1] rv bs2 E) (ho:AllP [(decide (i<j))=true,InR .i64 (i+j),InR .u64 (i+j),(0:Int)≤1∧1≤((IntKind.bits .u64:Nat):Int),InR .i64 ((i+j) / 2 ^ (Int.toNat 1)),0≤((i+j) / 2 ^ (Int.toNat 1))∧((i+j) / 2 ^ (Int.toNat 1))<(l.length:Int),n0=n0,n0=n0,((rowI l).drop (0+(Int.toNat ((i+j) / 2 ^ (Int.toNat 1)))*1)).take 1=[.int .i64 e],0≤a∧a<(l.length:Int),n0=n0,n0=n0,((rowI l).drop (0+(Int.toNat a)*1)).take 1=[.int .i64 e1],Qi Try.prog (qv far) [.int .i64 e,.int .i64 e1] (.int .i64 (cmpA far e e1)),(decide ((cmpA far e e1)<0))=true,InR .i64 (((i+j) / 2 ^ (Int.toNat 1))+1)])
 (hg:G Try.prog E (KM Try.prog) ⟨([.sl 0 n0 0 l.length 1,.int .i64 a,J,J,.clos 170 [] [.ptr 1 0 0]]++jj 5 ([.int .i64 (((i+j) / 2 ^ (Int.toNat 1))+1),.int .i64 j]++Js 208)),(QQ n0 l far)⟩):G Try.prog E (KM Try.prog) (f263S0 a m b l far n0 i j ) :=
 Qe (n:=400) (ds:=[]) (cs:=[]) (live:=[0,1,4,10,11]) (m:=2) (evs:=[.b true,.ld (.int .i64 e),.ld (.int .i64 e1),.v (.int .i64 (cmpA far e e1)),.b true,.stop]) (obs:=_) hE.kind (hE.nogh (by kernel_rfl)) Qg (by kernel_rfl) ho hg
theorem p263_0_1 (a:Int) (m:Int) (b:Int) (l far:List Int) (n0:Nat) (i:Int) (j:Int) (e:Int) (e1:Int) {E:Env} {rv:AV} {bs2:List Blk} (hE:LentE Try.prog 263 [.sl 1 0 0 0 1] rv bs2 E) (ho:AllP [(decide (i<j))=true,InR .i64 (i+j),InR .u64 (i+j),(0:Int)≤1∧1≤((IntKind.bits .u64:Nat):Int),InR .i64 ((i+j) / 2 ^ (Int.toNat 1)),0≤((i+j) / 2 ^ (Int.toNat 1))∧((i+j) / 2 ^ (Int.toNat 1))<(l.length:Int),n0=n0,n0=n0,((rowI l).drop (0+(Int.toNat ((i+j) / 2 ^ (Int.toNat 1)))*1)).take 1=[.int .i64 e],0≤a∧a<(l.length:Int),n0=n0,n0=n0,((rowI l).drop (0+(Int.toNat a)*1)).take 1=[.int .i64 e1],Qi Try.prog (qv far) [.int .i64 e,.int .i64 e1] (.int .i64 (cmpA far e e1)),(decide ((cmpA far e e1)<0))=false])
 (hg:G Try.prog E (KM Try.prog) ⟨([.sl 0 n0 0 l.length 1,.int .i64 a,J,J,.clos 170 [] [.ptr 1 0 0]]++jj 5 ([.int .i64 i,.int .i64 ((i+j) / 2 ^ (Int.toNat 1))]++Js 208)),(QQ n0 l far)⟩):G Try.prog E (KM Try.prog) (f263S0 a m b l far n0 i j ) :=
 Qe (n:=400) (ds:=[]) (cs:=[]) (live:=[0,1,4,10,11]) (m:=2) (evs:=[.b true,.ld (.int .i64 e),.ld (.int .i64 e1),.v (.int .i64 (cmpA far e e1)),.b false,.stop]) (obs:=_) hE.kind (hE.nogh (by kernel_rfl)) Qg (by kernel_rfl) ho hg
theorem p263_0_2 (a:Int) (m:Int) (b:Int) (l far:List Int) (n0:Nat) (i:Int) (j:Int) {E:Env} {rv:AV} {bs2:List Blk} (hE:LentE Try.prog 263 [.sl 1 0 0 0 1] rv bs2 E) (ho:AllP [(decide (i<j))=false])
 (hg:G Try.prog E (f263K1 Try.prog) ⟨([.sl 0 n0 0 l.length 1]++jj 9 ([.int .i64 i,J,J,.int .i64 a]++Js 206)),(QQ n0 l far)⟩):G Try.prog E (KM Try.prog) (f263S0 a m b l far n0 i j ) :=
 Qe (n:=400) (ds:=[]) (cs:=[]) (live:=[0,10,13]) (m:=2) (evs:=[.b false,.stop]) (obs:=_) hE.kind (hE.nogh (by kernel_rfl)) Qg (by kernel_rfl) ho hg
theorem f263W0 (a:Int) (m:Int) (b:Int) (l far:List Int) (n0:Nat) (i:Int) (j:Int) {E:Env} {rv:Unit} {lo:List Int} (hE:LentE Try.prog 263 [.sl 1 0 0 0 1] (.tup []) [⟨true,n0,1,true,(rowI lo),true⟩,⟨true,0,1,true,[.rsl (rowI far) 0 far.length],false⟩] E)
 (h:((i<j→((I6 (i+j))∧(InR .u64 (i+j)∧((I6 (((i+j) / 2 ^ (Int.toNat 1):Int)))∧(0≤((i+j) / 2 ^ (Int.toNat 1))∧(∃ e:Int,l[Int.toNat ((i+j) / 2 ^ (Int.toNat 1))]?=some e∧(0≤a∧(∃ e1:Int,l[Int.toNat a]?=some e1∧((AllA far [e,e1])∧(((cmpA far e e1)<0→((I6 ((((i+j) / 2 ^ (Int.toNat 1))+1:Int)))∧f263G0 E a m b l far n0 (((i+j) / 2 ^ (Int.toNat 1))+1) j))∧(¬ ((cmpA far e e1)<0)→f263G0 E a m b l far n0 i ((i+j) / 2 ^ (Int.toNat 1)))))))))))))∧(¬ (i<j)→f263G1 E a m b l far n0 i a l))):f263G0 E a m b l far n0 i j:=by
 rcases bft (decide (i<j)) with hc0 | hc0
 · have h:=h.1 (odt hc0)
   obtain ⟨q1_1,h⟩:=h
   obtain ⟨q2_1,h⟩:=h
   obtain ⟨q4_1,h⟩:=h
   obtain ⟨h2,h⟩:=h
   obtain ⟨e,h1,h⟩:=h
   obtain ⟨h4,h⟩:=h
   obtain ⟨e1,h3,h⟩:=h
   obtain ⟨h5,h⟩:=h
   rcases bft (decide ((cmpA far e e1)<0)) with hc1 | hc1
   · have h:=h.1 (odt hc1)
     obtain ⟨q17_2,h⟩:=h
     exact p263_0_0 a m b l far n0 i j e e1 hE ⟨hc0,q1_1,q2_1,(⟨by decide,by decide⟩),q4_1,(Qj h2 h1),rfl,rfl,(rp cI 1 0 1 h1),(Qj h4 h3),rfl,rfl,(rp cI 1 0 1 h3),(u170 (Wf e e1 far h5)),hc1,q17_2,trivial⟩ h
   · have h:=h.2 (odf hc1)
     exact p263_0_1 a m b l far n0 i j e e1 hE ⟨hc0,q1_1,q2_1,(⟨by decide,by decide⟩),q4_1,(Qj h2 h1),rfl,rfl,(rp cI 1 0 1 h1),(Qj h4 h3),rfl,rfl,(rp cI 1 0 1 h3),(u170 (Wf e e1 far h5)),hc1,trivial⟩ h
 · have h:=h.2 (odf hc0)
   exact p263_0_2 a m b l far n0 i j hE ⟨hc0,trivial⟩ h
theorem p263_1_0 (a:Int) (m:Int) (b:Int) (l far:List Int) (n0:Nat) (i:Int) (k:Int) (v0:List Int) (e:Int) (e1:Int) (e2:Int) {E:Env} {rv:AV} {bs2:List Blk} (hE:LentE Try.prog 263 [.sl 1 0 0 0 1] rv bs2 E) (ho:AllP [InR .i64 (i - 1),(decide (k<(i - 1)))=true,InR .i64 (k+1),InR .i64 (k+1),0≤(k+1)∧(k+1)<(v0.length:Int),n0=n0,n0=n0,((rowI v0).drop (0+(Int.toNat (k+1))*1)).take 1=[.int .i64 e],0≤k∧k<(v0.length:Int),n0=n0,n0=n0,((rowI v0).drop (0+(Int.toNat k)*1)).take 1=[.int .i64 e1],0≤k∧k<(v0.length:Int),n0=n0,((0+(Int.toNat k)*1)+1)≤(rowI v0).length,n0=n0,0≤(k+1)∧(k+1)<(v0.length:Int),n0=n0,((0+(Int.toNat (k+1))*1)+1)≤(Qu (rowI v0) (0+(Int.toNat k)*1) [.int .i64 e]).length,n0=n0,InR .i64 (k+1)])
 (hg:G Try.prog E (f263K1 Try.prog) ⟨([.sl 0 n0 0 v0.length 1]++jj 9 ([.int .i64 i,J,J,.int .i64 (k+1)]++Js 206)),[⟨true,n0,1,true,(Qu (Qu (rowI v0) (0+(Int.toNat k)*1) [.int .i64 e]) (0+(Int.toNat (k+1))*1) [.int .i64 e1]),true⟩,⟨true,0,1,true,[.rsl (rowI far) 0 far.length],false⟩]⟩):G Try.prog E (f263K1 Try.prog) (f263S1 a m b l far n0 i k v0 ) :=
 Qe (n:=400) (ds:=[]) (cs:=[]) (live:=[0,10,13]) (m:=2) (evs:=[.b true,.ld (.int .i64 e),.ld (.int .i64 e1),.stop]) (obs:=_) hE.kind (hE.nogh (by kernel_rfl)) Qg (by kernel_rfl) ho hg
theorem p263_1_1 (a:Int) (m:Int) (b:Int) (l far:List Int) (n0:Nat) (i:Int) (k:Int) (v0:List Int) {E:Env} {res:AV} {bs2:List Blk} (hE:LentE Try.prog 263 [.sl 1 0 0 0 1] res bs2 E) (ho:AllP [InR .i64 (i - 1),(decide (k<(i - 1)))=false])
 (hr:(.tup [])=res) (hb:[⟨true,n0,1,true,(rowI v0),true⟩,⟨true,0,1,true,[.rsl (rowI far) 0 far.length],false⟩]=bs2):G Try.prog E (f263K1 Try.prog) (f263S1 a m b l far n0 i k v0 ) :=
 Qr (n:=400) (live:=[]) (m:=2) (evs:=[.b false]) (obs:=_) hE (hE.nogh (by kernel_rfl)) Try.func263 Qg (by kernel_rfl) ho hr hb
theorem f263W1 (a:Int) (m:Int) (b:Int) (l far:List Int) (n0:Nat) (i:Int) (k:Int) (v0:List Int) {E:Env} {rv:Unit} {lo:List Int} (hE:LentE Try.prog 263 [.sl 1 0 0 0 1] (.tup []) [⟨true,n0,1,true,(rowI lo),true⟩,⟨true,0,1,true,[.rsl (rowI far) 0 far.length],false⟩] E)
 (h:((I6 (i - 1))∧((k<(i - 1)→((I6 (k+1))∧((I6 (k+1))∧(0≤(k+1)∧(∃ e:Int,v0[Int.toNat (k+1)]?=some e∧(0≤k∧(∃ e1:Int,v0[Int.toNat k]?=some e1∧(0≤(k+1)∧(∃ e2:Int,(v0.set (Int.toNat k) e)[Int.toNat (k+1)]?=some e2∧((I6 (k+1))∧f263G1 E a m b l far n0 i (k+1) ((v0.set (Int.toNat k) e).set (Int.toNat (k+1)) e1)))))))))))∧(¬ (k<(i - 1))→lo=v0)))):f263G1 E a m b l far n0 i k v0:=by
 obtain ⟨q0_0,h⟩:=h
 rcases bft (decide (k<(i - 1))) with hc0 | hc0
 · have h:=h.1 (odt hc0)
   obtain ⟨q2_1,h⟩:=h
   obtain ⟨q3_1,h⟩:=h
   obtain ⟨h2,h⟩:=h
   obtain ⟨e,h1,h⟩:=h
   obtain ⟨h4,h⟩:=h
   obtain ⟨e1,h3,h⟩:=h
   obtain ⟨h6,h⟩:=h
   obtain ⟨e2,h5,h⟩:=h
   obtain ⟨q23_1,h⟩:=h
   refine p263_1_0 a m b l far n0 i k v0 e e1 e2 hE ⟨q0_0,hc0,q2_1,q3_1,(Qj h2 h1),rfl,rfl,(rp cI 1 0 1 h1),(Qj h4 h3),rfl,rfl,(rp cI 1 0 1 h3),(Qj h4 h3),rfl,(rf cI 1 0 1 h3),rfl,(by have hx:=Qj h6 h5; simpa using hx),rfl,(by rw [(show Qu (rowI v0) (0+(Int.toNat k)*1) [.int .i64 e]=rowI (v0.set (Int.toNat k) e) from Qz cI (s:=1) (k:=0) (fun _=>rfl) h3 rfl (by first | decide | simp))]; exact rf cI 1 0 1 h5),rfl,q23_1,trivial⟩ ?_
   have h:=h
   simp only [f263G1,f263S1,List.length_set] at h
   rw [(show Qu (rowI v0) (0+(Int.toNat k)*1) [.int .i64 e]=rowI (v0.set (Int.toNat k) e) from Qz cI (s:=1) (k:=0) (fun _=>rfl) h3 rfl (by first | decide | simp))]; rw [(show Qu (rowI (v0.set (Int.toNat k) e)) (0+(Int.toNat (k+1))*1) [.int .i64 e1]=rowI ((v0.set (Int.toNat k) e).set (Int.toNat (k+1)) e1) from Qz cI (s:=1) (k:=0) (fun _=>rfl) h5 rfl (by first | decide | simp))]
   exact h
 · have h:=h.2 (odf hc0)
   have qe0:=h
   exact p263_1_1 a m b l far n0 i k v0 hE ⟨q0_0,hc0,trivial⟩ (by try rfl) (by rw [qe0]; all_goals (first | rfl | (simp only [List.length_set]; done) | (simp only [List.length_set]; rfl) | (simp only [List.length_set,List.length_replicate]; done)))
theorem p263_2_0 (a:Int) (m:Int) (b:Int) (l far:List Int) (n0:Nat) (i:Int) (j:Int) (e:Int) (e1:Int) {E:Env} {rv:AV} {bs2:List Blk} (hE:LentE Try.prog 263 [.sl 1 0 0 0 1] rv bs2 E) (ho:AllP [(decide (i<j))=true,InR .i64 (i+j),InR .u64 (i+j),(0:Int)≤1∧1≤((IntKind.bits .u64:Nat):Int),InR .i64 ((i+j) / 2 ^ (Int.toNat 1)),0≤m∧m<(l.length:Int),n0=n0,n0=n0,((rowI l).drop (0+(Int.toNat m)*1)).take 1=[.int .i64 e],0≤((i+j) / 2 ^ (Int.toNat 1))∧((i+j) / 2 ^ (Int.toNat 1))<(l.length:Int),n0=n0,n0=n0,((rowI l).drop (0+(Int.toNat ((i+j) / 2 ^ (Int.toNat 1)))*1)).take 1=[.int .i64 e1],Qi Try.prog (qv far) [.int .i64 e,.int .i64 e1] (.int .i64 (cmpA far e e1)),(!(decide ((cmpA far e e1)<0)))=true,InR .i64 (((i+j) / 2 ^ (Int.toNat 1))+1)])
 (hg:G Try.prog E (KL Try.prog) ⟨([.sl 0 n0 0 l.length 1,J,.int .i64 m,J,.clos 170 [] [.ptr 1 0 0]]++jj 9 ([.int .i64 (((i+j) / 2 ^ (Int.toNat 1))+1),.int .i64 j]++Js 204)),(QQ n0 l far)⟩):G Try.prog E (KL Try.prog) (f263S2 a m b l far n0 i j ) :=
 Qe (n:=400) (ds:=[]) (cs:=[]) (live:=[0,2,4,14,15]) (m:=2) (evs:=[.b true,.ld (.int .i64 e),.ld (.int .i64 e1),.v (.int .i64 (cmpA far e e1)),.b true,.stop]) (obs:=_) hE.kind (hE.nogh (by kernel_rfl)) Qg (by kernel_rfl) ho hg
theorem p263_2_1 (a:Int) (m:Int) (b:Int) (l far:List Int) (n0:Nat) (i:Int) (j:Int) (e:Int) (e1:Int) {E:Env} {rv:AV} {bs2:List Blk} (hE:LentE Try.prog 263 [.sl 1 0 0 0 1] rv bs2 E) (ho:AllP [(decide (i<j))=true,InR .i64 (i+j),InR .u64 (i+j),(0:Int)≤1∧1≤((IntKind.bits .u64:Nat):Int),InR .i64 ((i+j) / 2 ^ (Int.toNat 1)),0≤m∧m<(l.length:Int),n0=n0,n0=n0,((rowI l).drop (0+(Int.toNat m)*1)).take 1=[.int .i64 e],0≤((i+j) / 2 ^ (Int.toNat 1))∧((i+j) / 2 ^ (Int.toNat 1))<(l.length:Int),n0=n0,n0=n0,((rowI l).drop (0+(Int.toNat ((i+j) / 2 ^ (Int.toNat 1)))*1)).take 1=[.int .i64 e1],Qi Try.prog (qv far) [.int .i64 e,.int .i64 e1] (.int .i64 (cmpA far e e1)),(!(decide ((cmpA far e e1)<0)))=false])
 (hg:G Try.prog E (KL Try.prog) ⟨([.sl 0 n0 0 l.length 1,J,.int .i64 m,J,.clos 170 [] [.ptr 1 0 0]]++jj 9 ([.int .i64 i,.int .i64 ((i+j) / 2 ^ (Int.toNat 1))]++Js 204)),(QQ n0 l far)⟩):G Try.prog E (KL Try.prog) (f263S2 a m b l far n0 i j ) :=
 Qe (n:=400) (ds:=[]) (cs:=[]) (live:=[0,2,4,14,15]) (m:=2) (evs:=[.b true,.ld (.int .i64 e),.ld (.int .i64 e1),.v (.int .i64 (cmpA far e e1)),.b false,.stop]) (obs:=_) hE.kind (hE.nogh (by kernel_rfl)) Qg (by kernel_rfl) ho hg
theorem p263_2_2 (a:Int) (m:Int) (b:Int) (l far:List Int) (n0:Nat) (i:Int) (j:Int) {E:Env} {rv:AV} {bs2:List Blk} (hE:LentE Try.prog 263 [.sl 1 0 0 0 1] rv bs2 E) (ho:AllP [(decide (i<j))=false])
 (hg:G Try.prog E (f263K3 Try.prog) ⟨([.sl 0 n0 0 l.length 1]++jj 13 ([.int .i64 i,J,J,.int .i64 m]++Js 202)),(QQ n0 l far)⟩):G Try.prog E (KL Try.prog) (f263S2 a m b l far n0 i j ) :=
 Qe (n:=400) (ds:=[]) (cs:=[]) (live:=[0,14,17]) (m:=2) (evs:=[.b false,.stop]) (obs:=_) hE.kind (hE.nogh (by kernel_rfl)) Qg (by kernel_rfl) ho hg
theorem f263W2 (a:Int) (m:Int) (b:Int) (l far:List Int) (n0:Nat) (i:Int) (j:Int) {E:Env} {rv:Unit} {lo:List Int} (hE:LentE Try.prog 263 [.sl 1 0 0 0 1] (.tup []) [⟨true,n0,1,true,(rowI lo),true⟩,⟨true,0,1,true,[.rsl (rowI far) 0 far.length],false⟩] E)
 (h:((i<j→((I6 (i+j))∧(InR .u64 (i+j)∧((I6 (((i+j) / 2 ^ (Int.toNat 1):Int)))∧(0≤m∧(∃ e:Int,l[Int.toNat m]?=some e∧(0≤((i+j) / 2 ^ (Int.toNat 1))∧(∃ e1:Int,l[Int.toNat ((i+j) / 2 ^ (Int.toNat 1))]?=some e1∧((AllA far [e,e1])∧((¬ ((cmpA far e e1)<0)→((I6 ((((i+j) / 2 ^ (Int.toNat 1))+1:Int)))∧f263G2 E a m b l far n0 (((i+j) / 2 ^ (Int.toNat 1))+1) j))∧((cmpA far e e1)<0→f263G2 E a m b l far n0 i ((i+j) / 2 ^ (Int.toNat 1)))))))))))))∧(¬ (i<j)→f263G3 E a m b l far n0 i m l))):f263G2 E a m b l far n0 i j:=by
 rcases bft (decide (i<j)) with hc0 | hc0
 · have h:=h.1 (odt hc0)
   obtain ⟨q1_1,h⟩:=h
   obtain ⟨q2_1,h⟩:=h
   obtain ⟨q4_1,h⟩:=h
   obtain ⟨h2,h⟩:=h
   obtain ⟨e,h1,h⟩:=h
   obtain ⟨h4,h⟩:=h
   obtain ⟨e1,h3,h⟩:=h
   obtain ⟨h5,h⟩:=h
   rcases bft (!(decide ((cmpA far e e1)<0))) with hc1 | hc1
   · have h:=h.1 (odf (bnT hc1))
     obtain ⟨q17_2,h⟩:=h
     exact p263_2_0 a m b l far n0 i j e e1 hE ⟨hc0,q1_1,q2_1,(⟨by decide,by decide⟩),q4_1,(Qj h2 h1),rfl,rfl,(rp cI 1 0 1 h1),(Qj h4 h3),rfl,rfl,(rp cI 1 0 1 h3),(u170 (Wf e e1 far h5)),hc1,q17_2,trivial⟩ h
   · have h:=h.2 (odt (bnF hc1))
     exact p263_2_1 a m b l far n0 i j e e1 hE ⟨hc0,q1_1,q2_1,(⟨by decide,by decide⟩),q4_1,(Qj h2 h1),rfl,rfl,(rp cI 1 0 1 h1),(Qj h4 h3),rfl,rfl,(rp cI 1 0 1 h3),(u170 (Wf e e1 far h5)),hc1,trivial⟩ h
 · have h:=h.2 (odf hc0)
   exact p263_2_2 a m b l far n0 i j hE ⟨hc0,trivial⟩ h
theorem p263_3_0 (a:Int) (m:Int) (b:Int) (l far:List Int) (n0:Nat) (i:Int) (k:Int) (v0:List Int) (e:Int) (e1:Int) (e2:Int) {E:Env} {rv:AV} {bs2:List Blk} (hE:LentE Try.prog 263 [.sl 1 0 0 0 1] rv bs2 E) (ho:AllP [(decide (k > i))=true,InR .i64 (k - 1),InR .i64 (k - 1),0≤(k - 1)∧(k - 1)<(v0.length:Int),n0=n0,n0=n0,((rowI v0).drop (0+(Int.toNat (k - 1))*1)).take 1=[.int .i64 e],0≤k∧k<(v0.length:Int),n0=n0,n0=n0,((rowI v0).drop (0+(Int.toNat k)*1)).take 1=[.int .i64 e1],0≤k∧k<(v0.length:Int),n0=n0,((0+(Int.toNat k)*1)+1)≤(rowI v0).length,n0=n0,0≤(k - 1)∧(k - 1)<(v0.length:Int),n0=n0,((0+(Int.toNat (k - 1))*1)+1)≤(Qu (rowI v0) (0+(Int.toNat k)*1) [.int .i64 e]).length,n0=n0,InR .i64 (k - 1)])
 (hg:G Try.prog E (f263K3 Try.prog) ⟨([.sl 0 n0 0 v0.length 1]++jj 13 ([.int .i64 i,J,J,.int .i64 (k - 1)]++Js 202)),[⟨true,n0,1,true,(Qu (Qu (rowI v0) (0+(Int.toNat k)*1) [.int .i64 e]) (0+(Int.toNat (k - 1))*1) [.int .i64 e1]),true⟩,⟨true,0,1,true,[.rsl (rowI far) 0 far.length],false⟩]⟩):G Try.prog E (f263K3 Try.prog) (f263S3 a m b l far n0 i k v0 ) :=
 Qe (n:=400) (ds:=[]) (cs:=[]) (live:=[0,14,17]) (m:=2) (evs:=[.b true,.ld (.int .i64 e),.ld (.int .i64 e1),.stop]) (obs:=_) hE.kind (hE.nogh (by kernel_rfl)) Qg (by kernel_rfl) ho hg
theorem p263_3_1 (a:Int) (m:Int) (b:Int) (l far:List Int) (n0:Nat) (i:Int) (k:Int) (v0:List Int) {E:Env} {res:AV} {bs2:List Blk} (hE:LentE Try.prog 263 [.sl 1 0 0 0 1] res bs2 E) (ho:AllP [(decide (k > i))=false])
 (hr:(.tup [])=res) (hb:[⟨true,n0,1,true,(rowI v0),true⟩,⟨true,0,1,true,[.rsl (rowI far) 0 far.length],false⟩]=bs2):G Try.prog E (f263K3 Try.prog) (f263S3 a m b l far n0 i k v0 ) :=
 Qr (n:=400) (live:=[]) (m:=2) (evs:=[.b false]) (obs:=_) hE (hE.nogh (by kernel_rfl)) Try.func263 Qg (by kernel_rfl) ho hr hb
theorem f263W3 (a:Int) (m:Int) (b:Int) (l far:List Int) (n0:Nat) (i:Int) (k:Int) (v0:List Int) {E:Env} {rv:Unit} {lo:List Int} (hE:LentE Try.prog 263 [.sl 1 0 0 0 1] (.tup []) [⟨true,n0,1,true,(rowI lo),true⟩,⟨true,0,1,true,[.rsl (rowI far) 0 far.length],false⟩] E)
 (h:((k > i→((I6 (k - 1))∧((I6 (k - 1))∧(0≤(k - 1)∧(∃ e:Int,v0[Int.toNat (k - 1)]?=some e∧(0≤k∧(∃ e1:Int,v0[Int.toNat k]?=some e1∧(0≤(k - 1)∧(∃ e2:Int,(v0.set (Int.toNat k) e)[Int.toNat (k - 1)]?=some e2∧((I6 (k - 1))∧f263G3 E a m b l far n0 i (k - 1) ((v0.set (Int.toNat k) e).set (Int.toNat (k - 1)) e1)))))))))))∧(¬ (k > i)→lo=v0))):f263G3 E a m b l far n0 i k v0:=by
 rcases bft (decide (k > i)) with hc0 | hc0
 · have h:=h.1 (odt hc0)
   obtain ⟨q1_1,h⟩:=h
   obtain ⟨q2_1,h⟩:=h
   obtain ⟨h2,h⟩:=h
   obtain ⟨e,h1,h⟩:=h
   obtain ⟨h4,h⟩:=h
   obtain ⟨e1,h3,h⟩:=h
   obtain ⟨h6,h⟩:=h
   obtain ⟨e2,h5,h⟩:=h
   obtain ⟨q22_1,h⟩:=h
   refine p263_3_0 a m b l far n0 i k v0 e e1 e2 hE ⟨hc0,q1_1,q2_1,(Qj h2 h1),rfl,rfl,(rp cI 1 0 1 h1),(Qj h4 h3),rfl,rfl,(rp cI 1 0 1 h3),(Qj h4 h3),rfl,(rf cI 1 0 1 h3),rfl,(by have hx:=Qj h6 h5; simpa using hx),rfl,(by rw [(show Qu (rowI v0) (0+(Int.toNat k)*1) [.int .i64 e]=rowI (v0.set (Int.toNat k) e) from Qz cI (s:=1) (k:=0) (fun _=>rfl) h3 rfl (by first | decide | simp))]; exact rf cI 1 0 1 h5),rfl,q22_1,trivial⟩ ?_
   have h:=h
   simp only [f263G3,f263S3,List.length_set] at h
   rw [(show Qu (rowI v0) (0+(Int.toNat k)*1) [.int .i64 e]=rowI (v0.set (Int.toNat k) e) from Qz cI (s:=1) (k:=0) (fun _=>rfl) h3 rfl (by first | decide | simp))]; rw [(show Qu (rowI (v0.set (Int.toNat k) e)) (0+(Int.toNat (k - 1))*1) [.int .i64 e1]=rowI ((v0.set (Int.toNat k) e).set (Int.toNat (k - 1)) e1) from Qz cI (s:=1) (k:=0) (fun _=>rfl) h5 rfl (by first | decide | simp))]
   exact h
 · have h:=h.2 (odf hc0)
   have qe0:=h
   exact p263_3_1 a m b l far n0 i k v0 hE ⟨hc0,trivial⟩ (by try rfl) (by rw [qe0]; all_goals (first | rfl | (simp only [List.length_set]; done) | (simp only [List.length_set]; rfl) | (simp only [List.length_set,List.length_replicate]; done)))
theorem p263_4_0 (a:Int) (m:Int) (b:Int) (l far:List Int) (n0:Nat) (start:Int) (r:Int) (e:Int) (e1:Int) {E:Env} {rv:AV} {bs2:List Blk} (hE:LentE Try.prog 263 [.sl 1 0 0 0 1] rv bs2 E) (ho:AllP [(decide (start<r))=true,InR .i64 (start+r),InR .u64 (start+r),(0:Int)≤1∧1≤((IntKind.bits .u64:Nat):Int),InR .i64 ((start+r) / 2 ^ (Int.toNat 1)),InR .i64 (((((a+b) / 2 ^ (Int.toNat 1))+m) - 1) - ((start+r) / 2 ^ (Int.toNat 1))),0≤(((((a+b) / 2 ^ (Int.toNat 1))+m) - 1) - ((start+r) / 2 ^ (Int.toNat 1)))∧(((((a+b) / 2 ^ (Int.toNat 1))+m) - 1) - ((start+r) / 2 ^ (Int.toNat 1)))<(l.length:Int),n0=n0,n0=n0,((rowI l).drop (0+(Int.toNat (((((a+b) / 2 ^ (Int.toNat 1))+m) - 1) - ((start+r) / 2 ^ (Int.toNat 1))))*1)).take 1=[.int .i64 e],0≤((start+r) / 2 ^ (Int.toNat 1))∧((start+r) / 2 ^ (Int.toNat 1))<(l.length:Int),n0=n0,n0=n0,((rowI l).drop (0+(Int.toNat ((start+r) / 2 ^ (Int.toNat 1)))*1)).take 1=[.int .i64 e1],Qi Try.prog (qv far) [.int .i64 e,.int .i64 e1] (.int .i64 (cmpA far e e1)),(!(decide ((cmpA far e e1)<0)))=true,InR .i64 (((start+r) / 2 ^ (Int.toNat 1))+1)])
 (hg:G Try.prog E (Xe Try.prog) ⟨((VJ n0 l a m b)++jj 13 ([.int .i64 ((a+b) / 2 ^ (Int.toNat 1)),.int .i64 (((a+b) / 2 ^ (Int.toNat 1))+m),.int .i64 (((start+r) / 2 ^ (Int.toNat 1))+1),.int .i64 r,.int .i64 ((((a+b) / 2 ^ (Int.toNat 1))+m) - 1)]++Js 197)),(QQ n0 l far)⟩):G Try.prog E (Xe Try.prog) (Xm a m b l far n0 start r ) :=
 Qe (n:=400) (ds:=[]) (cs:=[]) (live:=[0,1,2,3,4,18,19,20,21,22]) (m:=2) (evs:=[.b true,.ld (.int .i64 e),.ld (.int .i64 e1),.v (.int .i64 (cmpA far e e1)),.b true,.stop]) (obs:=_) hE.kind (hE.nogh (by kernel_rfl)) Qg (by kernel_rfl) ho hg
theorem p263_4_1 (a:Int) (m:Int) (b:Int) (l far:List Int) (n0:Nat) (start:Int) (r:Int) (e:Int) (e1:Int) {E:Env} {rv:AV} {bs2:List Blk} (hE:LentE Try.prog 263 [.sl 1 0 0 0 1] rv bs2 E) (ho:AllP [(decide (start<r))=true,InR .i64 (start+r),InR .u64 (start+r),(0:Int)≤1∧1≤((IntKind.bits .u64:Nat):Int),InR .i64 ((start+r) / 2 ^ (Int.toNat 1)),InR .i64 (((((a+b) / 2 ^ (Int.toNat 1))+m) - 1) - ((start+r) / 2 ^ (Int.toNat 1))),0≤(((((a+b) / 2 ^ (Int.toNat 1))+m) - 1) - ((start+r) / 2 ^ (Int.toNat 1)))∧(((((a+b) / 2 ^ (Int.toNat 1))+m) - 1) - ((start+r) / 2 ^ (Int.toNat 1)))<(l.length:Int),n0=n0,n0=n0,((rowI l).drop (0+(Int.toNat (((((a+b) / 2 ^ (Int.toNat 1))+m) - 1) - ((start+r) / 2 ^ (Int.toNat 1))))*1)).take 1=[.int .i64 e],0≤((start+r) / 2 ^ (Int.toNat 1))∧((start+r) / 2 ^ (Int.toNat 1))<(l.length:Int),n0=n0,n0=n0,((rowI l).drop (0+(Int.toNat ((start+r) / 2 ^ (Int.toNat 1)))*1)).take 1=[.int .i64 e1],Qi Try.prog (qv far) [.int .i64 e,.int .i64 e1] (.int .i64 (cmpA far e e1)),(!(decide ((cmpA far e e1)<0)))=false])
 (hg:G Try.prog E (Xe Try.prog) ⟨((VJ n0 l a m b)++jj 13 ([.int .i64 ((a+b) / 2 ^ (Int.toNat 1)),.int .i64 (((a+b) / 2 ^ (Int.toNat 1))+m),.int .i64 start,.int .i64 ((start+r) / 2 ^ (Int.toNat 1)),.int .i64 ((((a+b) / 2 ^ (Int.toNat 1))+m) - 1)]++Js 197)),(QQ n0 l far)⟩):G Try.prog E (Xe Try.prog) (Xm a m b l far n0 start r ) :=
 Qe (n:=400) (ds:=[]) (cs:=[]) (live:=[0,1,2,3,4,18,19,20,21,22]) (m:=2) (evs:=[.b true,.ld (.int .i64 e),.ld (.int .i64 e1),.v (.int .i64 (cmpA far e e1)),.b false,.stop]) (obs:=_) hE.kind (hE.nogh (by kernel_rfl)) Qg (by kernel_rfl) ho hg
theorem p263_4_2 (a:Int) (m:Int) (b:Int) (l far:List Int) (n0:Nat) (start:Int) (r:Int) {E:Env} {res:AV} {bs2:List Blk} (hE:LentE Try.prog 263 [.sl 1 0 0 0 1] res bs2 E) (ho:AllP [(decide (start<r))=false,InR .i64 ((((a+b) / 2 ^ (Int.toNat 1))+m) - start),(decide (start<m))=true,(decide (m<((((a+b) / 2 ^ (Int.toNat 1))+m) - start)))=true,QO Try.prog (.clos 283 [] []) (WM n0 l start m a b) (QQ n0 l far) (.tup []) (z263_1 n0 l far start m a b),(decide (a<start))=true,(decide (start<((a+b) / 2 ^ (Int.toNat 1))))=true,QO Try.prog (.clos 263 [] []) (Vs n0 l a start b) (z263_1 n0 l far start m a b) (.tup []) (z263_5 n0 l far start m a b),(decide (((a+b) / 2 ^ (Int.toNat 1))<((((a+b) / 2 ^ (Int.toNat 1))+m) - start)))=true,(decide (((((a+b) / 2 ^ (Int.toNat 1))+m) - start)<b))=true,QO Try.prog (.clos 263 [] []) (WN n0 l a b m start) (z263_5 n0 l far start m a b) (.tup []) (z263_11 n0 l far start m a b)])
 (hr:(.tup [])=res) (hb:(z263_11 n0 l far start m a b)=bs2):G Try.prog E (Xe Try.prog) (Xm a m b l far n0 start r ) :=
 Qr (n:=400) (live:=[]) (m:=2) (evs:=[.b false,.b true,.b true,.lent [0,1] (.tup []) (z263_1 n0 l far start m a b),.b true,.b true,.lent [0,1] (.tup []) (z263_5 n0 l far start m a b),.b true,.b true,.lent [0,1] (.tup []) (z263_11 n0 l far start m a b)]) (obs:=_) hE (hE.nogh (by kernel_rfl)) Try.func263 Qg (by kernel_rfl) ho hr hb
theorem p263_4_3 (a:Int) (m:Int) (b:Int) (l far:List Int) (n0:Nat) (start:Int) (r:Int) {E:Env} {res:AV} {bs2:List Blk} (hE:LentE Try.prog 263 [.sl 1 0 0 0 1] res bs2 E) (ho:AllP [(decide (start<r))=false,InR .i64 ((((a+b) / 2 ^ (Int.toNat 1))+m) - start),(decide (start<m))=true,(decide (m<((((a+b) / 2 ^ (Int.toNat 1))+m) - start)))=true,QO Try.prog (.clos 283 [] []) (WM n0 l start m a b) (QQ n0 l far) (.tup []) (z263_1 n0 l far start m a b),(decide (a<start))=true,(decide (start<((a+b) / 2 ^ (Int.toNat 1))))=true,QO Try.prog (.clos 263 [] []) (Vs n0 l a start b) (z263_1 n0 l far start m a b) (.tup []) (z263_5 n0 l far start m a b),(decide (((a+b) / 2 ^ (Int.toNat 1))<((((a+b) / 2 ^ (Int.toNat 1))+m) - start)))=true,(decide (((((a+b) / 2 ^ (Int.toNat 1))+m) - start)<b))=false])
 (hr:(.tup [])=res) (hb:(z263_5 n0 l far start m a b)=bs2):G Try.prog E (Xe Try.prog) (Xm a m b l far n0 start r ) :=
 Qr (n:=400) (live:=[]) (m:=2) (evs:=[.b false,.b true,.b true,.lent [0,1] (.tup []) (z263_1 n0 l far start m a b),.b true,.b true,.lent [0,1] (.tup []) (z263_5 n0 l far start m a b),.b true,.b false]) (obs:=_) hE (hE.nogh (by kernel_rfl)) Try.func263 Qg (by kernel_rfl) ho hr hb
theorem p263_4_4 (a:Int) (m:Int) (b:Int) (l far:List Int) (n0:Nat) (start:Int) (r:Int) {E:Env} {res:AV} {bs2:List Blk} (hE:LentE Try.prog 263 [.sl 1 0 0 0 1] res bs2 E) (ho:AllP [(decide (start<r))=false,InR .i64 ((((a+b) / 2 ^ (Int.toNat 1))+m) - start),(decide (start<m))=true,(decide (m<((((a+b) / 2 ^ (Int.toNat 1))+m) - start)))=true,QO Try.prog (.clos 283 [] []) (WM n0 l start m a b) (QQ n0 l far) (.tup []) (z263_1 n0 l far start m a b),(decide (a<start))=true,(decide (start<((a+b) / 2 ^ (Int.toNat 1))))=true,QO Try.prog (.clos 263 [] []) (Vs n0 l a start b) (z263_1 n0 l far start m a b) (.tup []) (z263_5 n0 l far start m a b),(decide (((a+b) / 2 ^ (Int.toNat 1))<((((a+b) / 2 ^ (Int.toNat 1))+m) - start)))=false,false=false])
 (hr:(.tup [])=res) (hb:(z263_5 n0 l far start m a b)=bs2):G Try.prog E (Xe Try.prog) (Xm a m b l far n0 start r ) :=
 Qr (n:=400) (live:=[]) (m:=2) (evs:=[.b false,.b true,.b true,.lent [0,1] (.tup []) (z263_1 n0 l far start m a b),.b true,.b true,.lent [0,1] (.tup []) (z263_5 n0 l far start m a b),.b false,.b false]) (obs:=_) hE (hE.nogh (by kernel_rfl)) Try.func263 Qg (by kernel_rfl) ho hr hb
theorem p263_4_5 (a:Int) (m:Int) (b:Int) (l far:List Int) (n0:Nat) (start:Int) (r:Int) {E:Env} {res:AV} {bs2:List Blk} (hE:LentE Try.prog 263 [.sl 1 0 0 0 1] res bs2 E) (ho:AllP [(decide (start<r))=false,InR .i64 ((((a+b) / 2 ^ (Int.toNat 1))+m) - start),(decide (start<m))=true,(decide (m<((((a+b) / 2 ^ (Int.toNat 1))+m) - start)))=true,QO Try.prog (.clos 283 [] []) (WM n0 l start m a b) (QQ n0 l far) (.tup []) (z263_1 n0 l far start m a b),(decide (a<start))=true,(decide (start<((a+b) / 2 ^ (Int.toNat 1))))=false,(decide (((a+b) / 2 ^ (Int.toNat 1))<((((a+b) / 2 ^ (Int.toNat 1))+m) - start)))=true,(decide (((((a+b) / 2 ^ (Int.toNat 1))+m) - start)<b))=true,QO Try.prog (.clos 263 [] []) (WN n0 l a b m start) (z263_1 n0 l far start m a b) (.tup []) (z263_6 n0 l far start m a b)])
 (hr:(.tup [])=res) (hb:(z263_6 n0 l far start m a b)=bs2):G Try.prog E (Xe Try.prog) (Xm a m b l far n0 start r ) :=
 Qr (n:=400) (live:=[]) (m:=2) (evs:=[.b false,.b true,.b true,.lent [0,1] (.tup []) (z263_1 n0 l far start m a b),.b true,.b false,.b true,.b true,.lent [0,1] (.tup []) (z263_6 n0 l far start m a b)]) (obs:=_) hE (hE.nogh (by kernel_rfl)) Try.func263 Qg (by kernel_rfl) ho hr hb
theorem p263_4_6 (a:Int) (m:Int) (b:Int) (l far:List Int) (n0:Nat) (start:Int) (r:Int) {E:Env} {res:AV} {bs2:List Blk} (hE:LentE Try.prog 263 [.sl 1 0 0 0 1] res bs2 E) (ho:AllP [(decide (start<r))=false,InR .i64 ((((a+b) / 2 ^ (Int.toNat 1))+m) - start),(decide (start<m))=true,(decide (m<((((a+b) / 2 ^ (Int.toNat 1))+m) - start)))=true,QO Try.prog (.clos 283 [] []) (WM n0 l start m a b) (QQ n0 l far) (.tup []) (z263_1 n0 l far start m a b),(decide (a<start))=true,(decide (start<((a+b) / 2 ^ (Int.toNat 1))))=false,(decide (((a+b) / 2 ^ (Int.toNat 1))<((((a+b) / 2 ^ (Int.toNat 1))+m) - start)))=true,(decide (((((a+b) / 2 ^ (Int.toNat 1))+m) - start)<b))=false])
 (hr:(.tup [])=res) (hb:(z263_1 n0 l far start m a b)=bs2):G Try.prog E (Xe Try.prog) (Xm a m b l far n0 start r ) :=
 Qr (n:=400) (live:=[]) (m:=2) (evs:=[.b false,.b true,.b true,.lent [0,1] (.tup []) (z263_1 n0 l far start m a b),.b true,.b false,.b true,.b false]) (obs:=_) hE (hE.nogh (by kernel_rfl)) Try.func263 Qg (by kernel_rfl) ho hr hb
theorem p263_4_7 (a:Int) (m:Int) (b:Int) (l far:List Int) (n0:Nat) (start:Int) (r:Int) {E:Env} {res:AV} {bs2:List Blk} (hE:LentE Try.prog 263 [.sl 1 0 0 0 1] res bs2 E) (ho:AllP [(decide (start<r))=false,InR .i64 ((((a+b) / 2 ^ (Int.toNat 1))+m) - start),(decide (start<m))=true,(decide (m<((((a+b) / 2 ^ (Int.toNat 1))+m) - start)))=true,QO Try.prog (.clos 283 [] []) (WM n0 l start m a b) (QQ n0 l far) (.tup []) (z263_1 n0 l far start m a b),(decide (a<start))=true,(decide (start<((a+b) / 2 ^ (Int.toNat 1))))=false,(decide (((a+b) / 2 ^ (Int.toNat 1))<((((a+b) / 2 ^ (Int.toNat 1))+m) - start)))=false,false=false])
 (hr:(.tup [])=res) (hb:(z263_1 n0 l far start m a b)=bs2):G Try.prog E (Xe Try.prog) (Xm a m b l far n0 start r ) :=
 Qr (n:=400) (live:=[]) (m:=2) (evs:=[.b false,.b true,.b true,.lent [0,1] (.tup []) (z263_1 n0 l far start m a b),.b true,.b false,.b false,.b false]) (obs:=_) hE (hE.nogh (by kernel_rfl)) Try.func263 Qg (by kernel_rfl) ho hr hb
theorem p263_4_8 (a:Int) (m:Int) (b:Int) (l far:List Int) (n0:Nat) (start:Int) (r:Int) {E:Env} {res:AV} {bs2:List Blk} (hE:LentE Try.prog 263 [.sl 1 0 0 0 1] res bs2 E) (ho:AllP [(decide (start<r))=false,InR .i64 ((((a+b) / 2 ^ (Int.toNat 1))+m) - start),(decide (start<m))=true,(decide (m<((((a+b) / 2 ^ (Int.toNat 1))+m) - start)))=true,QO Try.prog (.clos 283 [] []) (WM n0 l start m a b) (QQ n0 l far) (.tup []) (z263_1 n0 l far start m a b),(decide (a<start))=false,false=false,(decide (((a+b) / 2 ^ (Int.toNat 1))<((((a+b) / 2 ^ (Int.toNat 1))+m) - start)))=true,(decide (((((a+b) / 2 ^ (Int.toNat 1))+m) - start)<b))=true,QO Try.prog (.clos 263 [] []) (WN n0 l a b m start) (z263_1 n0 l far start m a b) (.tup []) (z263_6 n0 l far start m a b)])
 (hr:(.tup [])=res) (hb:(z263_6 n0 l far start m a b)=bs2):G Try.prog E (Xe Try.prog) (Xm a m b l far n0 start r ) :=
 Qr (n:=400) (live:=[]) (m:=2) (evs:=[.b false,.b true,.b true,.lent [0,1] (.tup []) (z263_1 n0 l far start m a b),.b false,.b false,.b true,.b true,.lent [0,1] (.tup []) (z263_6 n0 l far start m a b)]) (obs:=_) hE (hE.nogh (by kernel_rfl)) Try.func263 Qg (by kernel_rfl) ho hr hb
theorem p263_4_9 (a:Int) (m:Int) (b:Int) (l far:List Int) (n0:Nat) (start:Int) (r:Int) {E:Env} {res:AV} {bs2:List Blk} (hE:LentE Try.prog 263 [.sl 1 0 0 0 1] res bs2 E) (ho:AllP [(decide (start<r))=false,InR .i64 ((((a+b) / 2 ^ (Int.toNat 1))+m) - start),(decide (start<m))=true,(decide (m<((((a+b) / 2 ^ (Int.toNat 1))+m) - start)))=true,QO Try.prog (.clos 283 [] []) (WM n0 l start m a b) (QQ n0 l far) (.tup []) (z263_1 n0 l far start m a b),(decide (a<start))=false,false=false,(decide (((a+b) / 2 ^ (Int.toNat 1))<((((a+b) / 2 ^ (Int.toNat 1))+m) - start)))=true,(decide (((((a+b) / 2 ^ (Int.toNat 1))+m) - start)<b))=false])
 (hr:(.tup [])=res) (hb:(z263_1 n0 l far start m a b)=bs2):G Try.prog E (Xe Try.prog) (Xm a m b l far n0 start r ) :=
 Qr (n:=400) (live:=[]) (m:=2) (evs:=[.b false,.b true,.b true,.lent [0,1] (.tup []) (z263_1 n0 l far start m a b),.b false,.b false,.b true,.b false]) (obs:=_) hE (hE.nogh (by kernel_rfl)) Try.func263 Qg (by kernel_rfl) ho hr hb
theorem p263_4_10 (a:Int) (m:Int) (b:Int) (l far:List Int) (n0:Nat) (start:Int) (r:Int) {E:Env} {res:AV} {bs2:List Blk} (hE:LentE Try.prog 263 [.sl 1 0 0 0 1] res bs2 E) (ho:AllP [(decide (start<r))=false,InR .i64 ((((a+b) / 2 ^ (Int.toNat 1))+m) - start),(decide (start<m))=true,(decide (m<((((a+b) / 2 ^ (Int.toNat 1))+m) - start)))=true,QO Try.prog (.clos 283 [] []) (WM n0 l start m a b) (QQ n0 l far) (.tup []) (z263_1 n0 l far start m a b),(decide (a<start))=false,false=false,(decide (((a+b) / 2 ^ (Int.toNat 1))<((((a+b) / 2 ^ (Int.toNat 1))+m) - start)))=false,false=false])
 (hr:(.tup [])=res) (hb:(z263_1 n0 l far start m a b)=bs2):G Try.prog E (Xe Try.prog) (Xm a m b l far n0 start r ) :=
 Qr (n:=400) (live:=[]) (m:=2) (evs:=[.b false,.b true,.b true,.lent [0,1] (.tup []) (z263_1 n0 l far start m a b),.b false,.b false,.b false,.b false]) (obs:=_) hE (hE.nogh (by kernel_rfl)) Try.func263 Qg (by kernel_rfl) ho hr hb
theorem p263_4_11 (a:Int) (m:Int) (b:Int) (l far:List Int) (n0:Nat) (start:Int) (r:Int) {E:Env} {res:AV} {bs2:List Blk} (hE:LentE Try.prog 263 [.sl 1 0 0 0 1] res bs2 E) (ho:AllP [(decide (start<r))=false,InR .i64 ((((a+b) / 2 ^ (Int.toNat 1))+m) - start),(decide (start<m))=true,(decide (m<((((a+b) / 2 ^ (Int.toNat 1))+m) - start)))=false,(decide (a<start))=true,(decide (start<((a+b) / 2 ^ (Int.toNat 1))))=true,QO Try.prog (.clos 263 [] []) (Vs n0 l a start b) (QQ n0 l far) (.tup []) (z263_3 n0 l far a start b),(decide (((a+b) / 2 ^ (Int.toNat 1))<((((a+b) / 2 ^ (Int.toNat 1))+m) - start)))=true,(decide (((((a+b) / 2 ^ (Int.toNat 1))+m) - start)<b))=true,QO Try.prog (.clos 263 [] []) (WN n0 l a b m start) (z263_3 n0 l far a start b) (.tup []) (z263_8 n0 l far a start b m)])
 (hr:(.tup [])=res) (hb:(z263_8 n0 l far a start b m)=bs2):G Try.prog E (Xe Try.prog) (Xm a m b l far n0 start r ) :=
 Qr (n:=400) (live:=[]) (m:=2) (evs:=[.b false,.b true,.b false,.b true,.b true,.lent [0,1] (.tup []) (z263_3 n0 l far a start b),.b true,.b true,.lent [0,1] (.tup []) (z263_8 n0 l far a start b m)]) (obs:=_) hE (hE.nogh (by kernel_rfl)) Try.func263 Qg (by kernel_rfl) ho hr hb
theorem p263_4_12 (a:Int) (m:Int) (b:Int) (l far:List Int) (n0:Nat) (start:Int) (r:Int) {E:Env} {res:AV} {bs2:List Blk} (hE:LentE Try.prog 263 [.sl 1 0 0 0 1] res bs2 E) (ho:AllP [(decide (start<r))=false,InR .i64 ((((a+b) / 2 ^ (Int.toNat 1))+m) - start),(decide (start<m))=true,(decide (m<((((a+b) / 2 ^ (Int.toNat 1))+m) - start)))=false,(decide (a<start))=true,(decide (start<((a+b) / 2 ^ (Int.toNat 1))))=true,QO Try.prog (.clos 263 [] []) (Vs n0 l a start b) (QQ n0 l far) (.tup []) (z263_3 n0 l far a start b),(decide (((a+b) / 2 ^ (Int.toNat 1))<((((a+b) / 2 ^ (Int.toNat 1))+m) - start)))=true,(decide (((((a+b) / 2 ^ (Int.toNat 1))+m) - start)<b))=false])
 (hr:(.tup [])=res) (hb:(z263_3 n0 l far a start b)=bs2):G Try.prog E (Xe Try.prog) (Xm a m b l far n0 start r ) :=
 Qr (n:=400) (live:=[]) (m:=2) (evs:=[.b false,.b true,.b false,.b true,.b true,.lent [0,1] (.tup []) (z263_3 n0 l far a start b),.b true,.b false]) (obs:=_) hE (hE.nogh (by kernel_rfl)) Try.func263 Qg (by kernel_rfl) ho hr hb
theorem p263_4_13 (a:Int) (m:Int) (b:Int) (l far:List Int) (n0:Nat) (start:Int) (r:Int) {E:Env} {res:AV} {bs2:List Blk} (hE:LentE Try.prog 263 [.sl 1 0 0 0 1] res bs2 E) (ho:AllP [(decide (start<r))=false,InR .i64 ((((a+b) / 2 ^ (Int.toNat 1))+m) - start),(decide (start<m))=true,(decide (m<((((a+b) / 2 ^ (Int.toNat 1))+m) - start)))=false,(decide (a<start))=true,(decide (start<((a+b) / 2 ^ (Int.toNat 1))))=true,QO Try.prog (.clos 263 [] []) (Vs n0 l a start b) (QQ n0 l far) (.tup []) (z263_3 n0 l far a start b),(decide (((a+b) / 2 ^ (Int.toNat 1))<((((a+b) / 2 ^ (Int.toNat 1))+m) - start)))=false,false=false])
 (hr:(.tup [])=res) (hb:(z263_3 n0 l far a start b)=bs2):G Try.prog E (Xe Try.prog) (Xm a m b l far n0 start r ) :=
 Qr (n:=400) (live:=[]) (m:=2) (evs:=[.b false,.b true,.b false,.b true,.b true,.lent [0,1] (.tup []) (z263_3 n0 l far a start b),.b false,.b false]) (obs:=_) hE (hE.nogh (by kernel_rfl)) Try.func263 Qg (by kernel_rfl) ho hr hb
theorem p263_4_14 (a:Int) (m:Int) (b:Int) (l far:List Int) (n0:Nat) (start:Int) (r:Int) {E:Env} {res:AV} {bs2:List Blk} (hE:LentE Try.prog 263 [.sl 1 0 0 0 1] res bs2 E) (ho:AllP [(decide (start<r))=false,InR .i64 ((((a+b) / 2 ^ (Int.toNat 1))+m) - start),(decide (start<m))=true,(decide (m<((((a+b) / 2 ^ (Int.toNat 1))+m) - start)))=false,(decide (a<start))=true,(decide (start<((a+b) / 2 ^ (Int.toNat 1))))=false,(decide (((a+b) / 2 ^ (Int.toNat 1))<((((a+b) / 2 ^ (Int.toNat 1))+m) - start)))=true,(decide (((((a+b) / 2 ^ (Int.toNat 1))+m) - start)<b))=true,QO Try.prog (.clos 263 [] []) (WN n0 l a b m start) (QQ n0 l far) (.tup []) (z263_4 n0 l far a b m start)])
 (hr:(.tup [])=res) (hb:(z263_4 n0 l far a b m start)=bs2):G Try.prog E (Xe Try.prog) (Xm a m b l far n0 start r ) :=
 Qr (n:=400) (live:=[]) (m:=2) (evs:=[.b false,.b true,.b false,.b true,.b false,.b true,.b true,.lent [0,1] (.tup []) (z263_4 n0 l far a b m start)]) (obs:=_) hE (hE.nogh (by kernel_rfl)) Try.func263 Qg (by kernel_rfl) ho hr hb
theorem p263_4_15 (a:Int) (m:Int) (b:Int) (l far:List Int) (n0:Nat) (start:Int) (r:Int) {E:Env} {res:AV} {bs2:List Blk} (hE:LentE Try.prog 263 [.sl 1 0 0 0 1] res bs2 E) (ho:AllP [(decide (start<r))=false,InR .i64 ((((a+b) / 2 ^ (Int.toNat 1))+m) - start),(decide (start<m))=true,(decide (m<((((a+b) / 2 ^ (Int.toNat 1))+m) - start)))=false,(decide (a<start))=true,(decide (start<((a+b) / 2 ^ (Int.toNat 1))))=false,(decide (((a+b) / 2 ^ (Int.toNat 1))<((((a+b) / 2 ^ (Int.toNat 1))+m) - start)))=true,(decide (((((a+b) / 2 ^ (Int.toNat 1))+m) - start)<b))=false])
 (hr:(.tup [])=res) (hb:(QQ n0 l far)=bs2):G Try.prog E (Xe Try.prog) (Xm a m b l far n0 start r ) :=
 Qr (n:=400) (live:=[]) (m:=2) (evs:=[.b false,.b true,.b false,.b true,.b false,.b true,.b false]) (obs:=_) hE (hE.nogh (by kernel_rfl)) Try.func263 Qg (by kernel_rfl) ho hr hb
theorem p263_4_16 (a:Int) (m:Int) (b:Int) (l far:List Int) (n0:Nat) (start:Int) (r:Int) {E:Env} {res:AV} {bs2:List Blk} (hE:LentE Try.prog 263 [.sl 1 0 0 0 1] res bs2 E) (ho:AllP [(decide (start<r))=false,InR .i64 ((((a+b) / 2 ^ (Int.toNat 1))+m) - start),(decide (start<m))=true,(decide (m<((((a+b) / 2 ^ (Int.toNat 1))+m) - start)))=false,(decide (a<start))=true,(decide (start<((a+b) / 2 ^ (Int.toNat 1))))=false,(decide (((a+b) / 2 ^ (Int.toNat 1))<((((a+b) / 2 ^ (Int.toNat 1))+m) - start)))=false,false=false])
 (hr:(.tup [])=res) (hb:(QQ n0 l far)=bs2):G Try.prog E (Xe Try.prog) (Xm a m b l far n0 start r ) :=
 Qr (n:=400) (live:=[]) (m:=2) (evs:=[.b false,.b true,.b false,.b true,.b false,.b false,.b false]) (obs:=_) hE (hE.nogh (by kernel_rfl)) Try.func263 Qg (by kernel_rfl) ho hr hb
theorem p263_4_17 (a:Int) (m:Int) (b:Int) (l far:List Int) (n0:Nat) (start:Int) (r:Int) {E:Env} {res:AV} {bs2:List Blk} (hE:LentE Try.prog 263 [.sl 1 0 0 0 1] res bs2 E) (ho:AllP [(decide (start<r))=false,InR .i64 ((((a+b) / 2 ^ (Int.toNat 1))+m) - start),(decide (start<m))=true,(decide (m<((((a+b) / 2 ^ (Int.toNat 1))+m) - start)))=false,(decide (a<start))=false,false=false,(decide (((a+b) / 2 ^ (Int.toNat 1))<((((a+b) / 2 ^ (Int.toNat 1))+m) - start)))=true,(decide (((((a+b) / 2 ^ (Int.toNat 1))+m) - start)<b))=true,QO Try.prog (.clos 263 [] []) (WN n0 l a b m start) (QQ n0 l far) (.tup []) (z263_4 n0 l far a b m start)])
 (hr:(.tup [])=res) (hb:(z263_4 n0 l far a b m start)=bs2):G Try.prog E (Xe Try.prog) (Xm a m b l far n0 start r ) :=
 Qr (n:=400) (live:=[]) (m:=2) (evs:=[.b false,.b true,.b false,.b false,.b false,.b true,.b true,.lent [0,1] (.tup []) (z263_4 n0 l far a b m start)]) (obs:=_) hE (hE.nogh (by kernel_rfl)) Try.func263 Qg (by kernel_rfl) ho hr hb
theorem p263_4_18 (a:Int) (m:Int) (b:Int) (l far:List Int) (n0:Nat) (start:Int) (r:Int) {E:Env} {res:AV} {bs2:List Blk} (hE:LentE Try.prog 263 [.sl 1 0 0 0 1] res bs2 E) (ho:AllP [(decide (start<r))=false,InR .i64 ((((a+b) / 2 ^ (Int.toNat 1))+m) - start),(decide (start<m))=true,(decide (m<((((a+b) / 2 ^ (Int.toNat 1))+m) - start)))=false,(decide (a<start))=false,false=false,(decide (((a+b) / 2 ^ (Int.toNat 1))<((((a+b) / 2 ^ (Int.toNat 1))+m) - start)))=true,(decide (((((a+b) / 2 ^ (Int.toNat 1))+m) - start)<b))=false])
 (hr:(.tup [])=res) (hb:(QQ n0 l far)=bs2):G Try.prog E (Xe Try.prog) (Xm a m b l far n0 start r ) :=
 Qr (n:=400) (live:=[]) (m:=2) (evs:=[.b false,.b true,.b false,.b false,.b false,.b true,.b false]) (obs:=_) hE (hE.nogh (by kernel_rfl)) Try.func263 Qg (by kernel_rfl) ho hr hb
theorem p263_4_19 (a:Int) (m:Int) (b:Int) (l far:List Int) (n0:Nat) (start:Int) (r:Int) {E:Env} {res:AV} {bs2:List Blk} (hE:LentE Try.prog 263 [.sl 1 0 0 0 1] res bs2 E) (ho:AllP [(decide (start<r))=false,InR .i64 ((((a+b) / 2 ^ (Int.toNat 1))+m) - start),(decide (start<m))=true,(decide (m<((((a+b) / 2 ^ (Int.toNat 1))+m) - start)))=false,(decide (a<start))=false,false=false,(decide (((a+b) / 2 ^ (Int.toNat 1))<((((a+b) / 2 ^ (Int.toNat 1))+m) - start)))=false,false=false])
 (hr:(.tup [])=res) (hb:(QQ n0 l far)=bs2):G Try.prog E (Xe Try.prog) (Xm a m b l far n0 start r ) :=
 Qr (n:=400) (live:=[]) (m:=2) (evs:=[.b false,.b true,.b false,.b false,.b false,.b false,.b false]) (obs:=_) hE (hE.nogh (by kernel_rfl)) Try.func263 Qg (by kernel_rfl) ho hr hb
theorem p263_4_20 (a:Int) (m:Int) (b:Int) (l far:List Int) (n0:Nat) (start:Int) (r:Int) {E:Env} {res:AV} {bs2:List Blk} (hE:LentE Try.prog 263 [.sl 1 0 0 0 1] res bs2 E) (ho:AllP [(decide (start<r))=false,InR .i64 ((((a+b) / 2 ^ (Int.toNat 1))+m) - start),(decide (start<m))=false,false=false,(decide (a<start))=true,(decide (start<((a+b) / 2 ^ (Int.toNat 1))))=true,QO Try.prog (.clos 263 [] []) (Vs n0 l a start b) (QQ n0 l far) (.tup []) (z263_3 n0 l far a start b),(decide (((a+b) / 2 ^ (Int.toNat 1))<((((a+b) / 2 ^ (Int.toNat 1))+m) - start)))=true,(decide (((((a+b) / 2 ^ (Int.toNat 1))+m) - start)<b))=true,QO Try.prog (.clos 263 [] []) (WN n0 l a b m start) (z263_3 n0 l far a start b) (.tup []) (z263_8 n0 l far a start b m)])
 (hr:(.tup [])=res) (hb:(z263_8 n0 l far a start b m)=bs2):G Try.prog E (Xe Try.prog) (Xm a m b l far n0 start r ) :=
 Qr (n:=400) (live:=[]) (m:=2) (evs:=[.b false,.b false,.b false,.b true,.b true,.lent [0,1] (.tup []) (z263_3 n0 l far a start b),.b true,.b true,.lent [0,1] (.tup []) (z263_8 n0 l far a start b m)]) (obs:=_) hE (hE.nogh (by kernel_rfl)) Try.func263 Qg (by kernel_rfl) ho hr hb
theorem p263_4_21 (a:Int) (m:Int) (b:Int) (l far:List Int) (n0:Nat) (start:Int) (r:Int) {E:Env} {res:AV} {bs2:List Blk} (hE:LentE Try.prog 263 [.sl 1 0 0 0 1] res bs2 E) (ho:AllP [(decide (start<r))=false,InR .i64 ((((a+b) / 2 ^ (Int.toNat 1))+m) - start),(decide (start<m))=false,false=false,(decide (a<start))=true,(decide (start<((a+b) / 2 ^ (Int.toNat 1))))=true,QO Try.prog (.clos 263 [] []) (Vs n0 l a start b) (QQ n0 l far) (.tup []) (z263_3 n0 l far a start b),(decide (((a+b) / 2 ^ (Int.toNat 1))<((((a+b) / 2 ^ (Int.toNat 1))+m) - start)))=true,(decide (((((a+b) / 2 ^ (Int.toNat 1))+m) - start)<b))=false])
 (hr:(.tup [])=res) (hb:(z263_3 n0 l far a start b)=bs2):G Try.prog E (Xe Try.prog) (Xm a m b l far n0 start r ) :=
 Qr (n:=400) (live:=[]) (m:=2) (evs:=[.b false,.b false,.b false,.b true,.b true,.lent [0,1] (.tup []) (z263_3 n0 l far a start b),.b true,.b false]) (obs:=_) hE (hE.nogh (by kernel_rfl)) Try.func263 Qg (by kernel_rfl) ho hr hb
theorem p263_4_22 (a:Int) (m:Int) (b:Int) (l far:List Int) (n0:Nat) (start:Int) (r:Int) {E:Env} {res:AV} {bs2:List Blk} (hE:LentE Try.prog 263 [.sl 1 0 0 0 1] res bs2 E) (ho:AllP [(decide (start<r))=false,InR .i64 ((((a+b) / 2 ^ (Int.toNat 1))+m) - start),(decide (start<m))=false,false=false,(decide (a<start))=true,(decide (start<((a+b) / 2 ^ (Int.toNat 1))))=true,QO Try.prog (.clos 263 [] []) (Vs n0 l a start b) (QQ n0 l far) (.tup []) (z263_3 n0 l far a start b),(decide (((a+b) / 2 ^ (Int.toNat 1))<((((a+b) / 2 ^ (Int.toNat 1))+m) - start)))=false,false=false])
 (hr:(.tup [])=res) (hb:(z263_3 n0 l far a start b)=bs2):G Try.prog E (Xe Try.prog) (Xm a m b l far n0 start r ) :=
 Qr (n:=400) (live:=[]) (m:=2) (evs:=[.b false,.b false,.b false,.b true,.b true,.lent [0,1] (.tup []) (z263_3 n0 l far a start b),.b false,.b false]) (obs:=_) hE (hE.nogh (by kernel_rfl)) Try.func263 Qg (by kernel_rfl) ho hr hb
theorem p263_4_23 (a:Int) (m:Int) (b:Int) (l far:List Int) (n0:Nat) (start:Int) (r:Int) {E:Env} {res:AV} {bs2:List Blk} (hE:LentE Try.prog 263 [.sl 1 0 0 0 1] res bs2 E) (ho:AllP [(decide (start<r))=false,InR .i64 ((((a+b) / 2 ^ (Int.toNat 1))+m) - start),(decide (start<m))=false,false=false,(decide (a<start))=true,(decide (start<((a+b) / 2 ^ (Int.toNat 1))))=false,(decide (((a+b) / 2 ^ (Int.toNat 1))<((((a+b) / 2 ^ (Int.toNat 1))+m) - start)))=true,(decide (((((a+b) / 2 ^ (Int.toNat 1))+m) - start)<b))=true,QO Try.prog (.clos 263 [] []) (WN n0 l a b m start) (QQ n0 l far) (.tup []) (z263_4 n0 l far a b m start)])
 (hr:(.tup [])=res) (hb:(z263_4 n0 l far a b m start)=bs2):G Try.prog E (Xe Try.prog) (Xm a m b l far n0 start r ) :=
 Qr (n:=400) (live:=[]) (m:=2) (evs:=[.b false,.b false,.b false,.b true,.b false,.b true,.b true,.lent [0,1] (.tup []) (z263_4 n0 l far a b m start)]) (obs:=_) hE (hE.nogh (by kernel_rfl)) Try.func263 Qg (by kernel_rfl) ho hr hb
theorem p263_4_24 (a:Int) (m:Int) (b:Int) (l far:List Int) (n0:Nat) (start:Int) (r:Int) {E:Env} {res:AV} {bs2:List Blk} (hE:LentE Try.prog 263 [.sl 1 0 0 0 1] res bs2 E) (ho:AllP [(decide (start<r))=false,InR .i64 ((((a+b) / 2 ^ (Int.toNat 1))+m) - start),(decide (start<m))=false,false=false,(decide (a<start))=true,(decide (start<((a+b) / 2 ^ (Int.toNat 1))))=false,(decide (((a+b) / 2 ^ (Int.toNat 1))<((((a+b) / 2 ^ (Int.toNat 1))+m) - start)))=true,(decide (((((a+b) / 2 ^ (Int.toNat 1))+m) - start)<b))=false])
 (hr:(.tup [])=res) (hb:(QQ n0 l far)=bs2):G Try.prog E (Xe Try.prog) (Xm a m b l far n0 start r ) :=
 Qr (n:=400) (live:=[]) (m:=2) (evs:=[.b false,.b false,.b false,.b true,.b false,.b true,.b false]) (obs:=_) hE (hE.nogh (by kernel_rfl)) Try.func263 Qg (by kernel_rfl) ho hr hb
theorem p263_4_25 (a:Int) (m:Int) (b:Int) (l far:List Int) (n0:Nat) (start:Int) (r:Int) {E:Env} {res:AV} {bs2:List Blk} (hE:LentE Try.prog 263 [.sl 1 0 0 0 1] res bs2 E) (ho:AllP [(decide (start<r))=false,InR .i64 ((((a+b) / 2 ^ (Int.toNat 1))+m) - start),(decide (start<m))=false,false=false,(decide (a<start))=true,(decide (start<((a+b) / 2 ^ (Int.toNat 1))))=false,(decide (((a+b) / 2 ^ (Int.toNat 1))<((((a+b) / 2 ^ (Int.toNat 1))+m) - start)))=false,false=false])
 (hr:(.tup [])=res) (hb:(QQ n0 l far)=bs2):G Try.prog E (Xe Try.prog) (Xm a m b l far n0 start r ) :=
 Qr (n:=400) (live:=[]) (m:=2) (evs:=[.b false,.b false,.b false,.b true,.b false,.b false,.b false]) (obs:=_) hE (hE.nogh (by kernel_rfl)) Try.func263 Qg (by kernel_rfl) ho hr hb
theorem p263_4_26 (a:Int) (m:Int) (b:Int) (l far:List Int) (n0:Nat) (start:Int) (r:Int) {E:Env} {res:AV} {bs2:List Blk} (hE:LentE Try.prog 263 [.sl 1 0 0 0 1] res bs2 E) (ho:AllP [(decide (start<r))=false,InR .i64 ((((a+b) / 2 ^ (Int.toNat 1))+m) - start),(decide (start<m))=false,false=false,(decide (a<start))=false,false=false,(decide (((a+b) / 2 ^ (Int.toNat 1))<((((a+b) / 2 ^ (Int.toNat 1))+m) - start)))=true,(decide (((((a+b) / 2 ^ (Int.toNat 1))+m) - start)<b))=true,QO Try.prog (.clos 263 [] []) (WN n0 l a b m start) (QQ n0 l far) (.tup []) (z263_4 n0 l far a b m start)])
 (hr:(.tup [])=res) (hb:(z263_4 n0 l far a b m start)=bs2):G Try.prog E (Xe Try.prog) (Xm a m b l far n0 start r ) :=
 Qr (n:=400) (live:=[]) (m:=2) (evs:=[.b false,.b false,.b false,.b false,.b false,.b true,.b true,.lent [0,1] (.tup []) (z263_4 n0 l far a b m start)]) (obs:=_) hE (hE.nogh (by kernel_rfl)) Try.func263 Qg (by kernel_rfl) ho hr hb
theorem p263_4_27 (a:Int) (m:Int) (b:Int) (l far:List Int) (n0:Nat) (start:Int) (r:Int) {E:Env} {res:AV} {bs2:List Blk} (hE:LentE Try.prog 263 [.sl 1 0 0 0 1] res bs2 E) (ho:AllP [(decide (start<r))=false,InR .i64 ((((a+b) / 2 ^ (Int.toNat 1))+m) - start),(decide (start<m))=false,false=false,(decide (a<start))=false,false=false,(decide (((a+b) / 2 ^ (Int.toNat 1))<((((a+b) / 2 ^ (Int.toNat 1))+m) - start)))=true,(decide (((((a+b) / 2 ^ (Int.toNat 1))+m) - start)<b))=false])
 (hr:(.tup [])=res) (hb:(QQ n0 l far)=bs2):G Try.prog E (Xe Try.prog) (Xm a m b l far n0 start r ) :=
 Qr (n:=400) (live:=[]) (m:=2) (evs:=[.b false,.b false,.b false,.b false,.b false,.b true,.b false]) (obs:=_) hE (hE.nogh (by kernel_rfl)) Try.func263 Qg (by kernel_rfl) ho hr hb
theorem p263_4_28 (a:Int) (m:Int) (b:Int) (l far:List Int) (n0:Nat) (start:Int) (r:Int) {E:Env} {res:AV} {bs2:List Blk} (hE:LentE Try.prog 263 [.sl 1 0 0 0 1] res bs2 E) (ho:AllP [(decide (start<r))=false,InR .i64 ((((a+b) / 2 ^ (Int.toNat 1))+m) - start),(decide (start<m))=false,false=false,(decide (a<start))=false,false=false,(decide (((a+b) / 2 ^ (Int.toNat 1))<((((a+b) / 2 ^ (Int.toNat 1))+m) - start)))=false,false=false])
 (hr:(.tup [])=res) (hb:(QQ n0 l far)=bs2):G Try.prog E (Xe Try.prog) (Xm a m b l far n0 start r ) :=
 Qr (n:=400) (live:=[]) (m:=2) (evs:=[.b false,.b false,.b false,.b false,.b false,.b false,.b false]) (obs:=_) hE (hE.nogh (by kernel_rfl)) Try.func263 Qg (by kernel_rfl) ho hr hb
theorem f263W4 (a:Int) (m:Int) (b:Int) (l far:List Int) (n0:Nat) (start:Int) (r:Int) {E:Env} {rv:Unit} {lo:List Int} (hE:LentE Try.prog 263 [.sl 1 0 0 0 1] (.tup []) [⟨true,n0,1,true,(rowI lo),true⟩,⟨true,0,1,true,[.rsl (rowI far) 0 far.length],false⟩] E)
 (h:((start<r→((I6 (start+r))∧(InR .u64 (start+r)∧((I6 (((start+r) / 2 ^ (Int.toNat 1):Int)))∧((I6 ((((((a+b) / 2 ^ (Int.toNat 1))+m) - 1) - ((start+r) / 2 ^ (Int.toNat 1)):Int)))∧(0≤(((((a+b) / 2 ^ (Int.toNat 1))+m) - 1) - ((start+r) / 2 ^ (Int.toNat 1)))∧(∃ e:Int,l[Int.toNat (((((a+b) / 2 ^ (Int.toNat 1))+m) - 1) - ((start+r) / 2 ^ (Int.toNat 1)))]?=some e∧(0≤((start+r) / 2 ^ (Int.toNat 1))∧(∃ e1:Int,l[Int.toNat ((start+r) / 2 ^ (Int.toNat 1))]?=some e1∧((AllA far [e,e1])∧((¬ ((cmpA far e e1)<0)→((I6 ((((start+r) / 2 ^ (Int.toNat 1))+1:Int)))∧WD E a m b l far n0 (((start+r) / 2 ^ (Int.toNat 1))+1) r))∧((cmpA far e e1)<0→WD E a m b l far n0 start ((start+r) / 2 ^ (Int.toNat 1))))))))))))))∧(¬ (start<r)→((I6 (((((a+b) / 2 ^ (Int.toNat 1))+m) - start:Int)))∧((start<m→((m<((((a+b) / 2 ^ (Int.toNat 1))+m) - start)→((roEx l far n0 start m ((((a+b) / 2 ^ (Int.toNat 1))+m) - start))∧((a<start→((start<((a+b) / 2 ^ (Int.toNat 1))→((syEx (roX l far n0 start m ((((a+b) / 2 ^ (Int.toNat 1))+m) - start)) far n0 a start ((a+b) / 2 ^ (Int.toNat 1)))∧((((a+b) / 2 ^ (Int.toNat 1))<((((a+b) / 2 ^ (Int.toNat 1))+m) - start)→((((((a+b) / 2 ^ (Int.toNat 1))+m) - start)<b→((syEx (syX (roX l far n0 start m ((((a+b) / 2 ^ (Int.toNat 1))+m) - start)) far n0 a start ((a+b) / 2 ^ (Int.toNat 1))) far n0 ((a+b) / 2 ^ (Int.toNat 1)) ((((a+b) / 2 ^ (Int.toNat 1))+m) - start) b)∧lo=(syX (syX (roX l far n0 start m ((((a+b) / 2 ^ (Int.toNat 1))+m) - start)) far n0 a start ((a+b) / 2 ^ (Int.toNat 1))) far n0 ((a+b) / 2 ^ (Int.toNat 1)) ((((a+b) / 2 ^ (Int.toNat 1))+m) - start) b)))∧(¬ (((((a+b) / 2 ^ (Int.toNat 1))+m) - start)<b)→lo=(syX (roX l far n0 start m ((((a+b) / 2 ^ (Int.toNat 1))+m) - start)) far n0 a start ((a+b) / 2 ^ (Int.toNat 1))))))∧(¬ (((a+b) / 2 ^ (Int.toNat 1))<((((a+b) / 2 ^ (Int.toNat 1))+m) - start))→lo=(syX (roX l far n0 start m ((((a+b) / 2 ^ (Int.toNat 1))+m) - start)) far n0 a start ((a+b) / 2 ^ (Int.toNat 1)))))))∧(¬ (start<((a+b) / 2 ^ (Int.toNat 1)))→((((a+b) / 2 ^ (Int.toNat 1))<((((a+b) / 2 ^ (Int.toNat 1))+m) - start)→((((((a+b) / 2 ^ (Int.toNat 1))+m) - start)<b→((syEx (roX l far n0 start m ((((a+b) / 2 ^ (Int.toNat 1))+m) - start)) far n0 ((a+b) / 2 ^ (Int.toNat 1)) ((((a+b) / 2 ^ (Int.toNat 1))+m) - start) b)∧lo=(syX (roX l far n0 start m ((((a+b) / 2 ^ (Int.toNat 1))+m) - start)) far n0 ((a+b) / 2 ^ (Int.toNat 1)) ((((a+b) / 2 ^ (Int.toNat 1))+m) - start) b)))∧(¬ (((((a+b) / 2 ^ (Int.toNat 1))+m) - start)<b)→lo=(roX l far n0 start m ((((a+b) / 2 ^ (Int.toNat 1))+m) - start)))))∧(¬ (((a+b) / 2 ^ (Int.toNat 1))<((((a+b) / 2 ^ (Int.toNat 1))+m) - start))→lo=(roX l far n0 start m ((((a+b) / 2 ^ (Int.toNat 1))+m) - start)))))))∧(¬ (a<start)→((((a+b) / 2 ^ (Int.toNat 1))<((((a+b) / 2 ^ (Int.toNat 1))+m) - start)→((((((a+b) / 2 ^ (Int.toNat 1))+m) - start)<b→((syEx (roX l far n0 start m ((((a+b) / 2 ^ (Int.toNat 1))+m) - start)) far n0 ((a+b) / 2 ^ (Int.toNat 1)) ((((a+b) / 2 ^ (Int.toNat 1))+m) - start) b)∧lo=(syX (roX l far n0 start m ((((a+b) / 2 ^ (Int.toNat 1))+m) - start)) far n0 ((a+b) / 2 ^ (Int.toNat 1)) ((((a+b) / 2 ^ (Int.toNat 1))+m) - start) b)))∧(¬ (((((a+b) / 2 ^ (Int.toNat 1))+m) - start)<b)→lo=(roX l far n0 start m ((((a+b) / 2 ^ (Int.toNat 1))+m) - start)))))∧(¬ (((a+b) / 2 ^ (Int.toNat 1))<((((a+b) / 2 ^ (Int.toNat 1))+m) - start))→lo=(roX l far n0 start m ((((a+b) / 2 ^ (Int.toNat 1))+m) - start))))))))∧(¬ (m<((((a+b) / 2 ^ (Int.toNat 1))+m) - start))→((a<start→((start<((a+b) / 2 ^ (Int.toNat 1))→((syEx l far n0 a start ((a+b) / 2 ^ (Int.toNat 1)))∧((((a+b) / 2 ^ (Int.toNat 1))<((((a+b) / 2 ^ (Int.toNat 1))+m) - start)→((((((a+b) / 2 ^ (Int.toNat 1))+m) - start)<b→((syEx (syX l far n0 a start ((a+b) / 2 ^ (Int.toNat 1))) far n0 ((a+b) / 2 ^ (Int.toNat 1)) ((((a+b) / 2 ^ (Int.toNat 1))+m) - start) b)∧lo=(syX (syX l far n0 a start ((a+b) / 2 ^ (Int.toNat 1))) far n0 ((a+b) / 2 ^ (Int.toNat 1)) ((((a+b) / 2 ^ (Int.toNat 1))+m) - start) b)))∧(¬ (((((a+b) / 2 ^ (Int.toNat 1))+m) - start)<b)→lo=(syX l far n0 a start ((a+b) / 2 ^ (Int.toNat 1))))))∧(¬ (((a+b) / 2 ^ (Int.toNat 1))<((((a+b) / 2 ^ (Int.toNat 1))+m) - start))→lo=(syX l far n0 a start ((a+b) / 2 ^ (Int.toNat 1)))))))∧(¬ (start<((a+b) / 2 ^ (Int.toNat 1)))→((((a+b) / 2 ^ (Int.toNat 1))<((((a+b) / 2 ^ (Int.toNat 1))+m) - start)→((((((a+b) / 2 ^ (Int.toNat 1))+m) - start)<b→((syEx l far n0 ((a+b) / 2 ^ (Int.toNat 1)) ((((a+b) / 2 ^ (Int.toNat 1))+m) - start) b)∧lo=(syX l far n0 ((a+b) / 2 ^ (Int.toNat 1)) ((((a+b) / 2 ^ (Int.toNat 1))+m) - start) b)))∧(¬ (((((a+b) / 2 ^ (Int.toNat 1))+m) - start)<b)→lo=l)))∧(¬ (((a+b) / 2 ^ (Int.toNat 1))<((((a+b) / 2 ^ (Int.toNat 1))+m) - start))→lo=l)))))∧(¬ (a<start)→((((a+b) / 2 ^ (Int.toNat 1))<((((a+b) / 2 ^ (Int.toNat 1))+m) - start)→((((((a+b) / 2 ^ (Int.toNat 1))+m) - start)<b→((syEx l far n0 ((a+b) / 2 ^ (Int.toNat 1)) ((((a+b) / 2 ^ (Int.toNat 1))+m) - start) b)∧lo=(syX l far n0 ((a+b) / 2 ^ (Int.toNat 1)) ((((a+b) / 2 ^ (Int.toNat 1))+m) - start) b)))∧(¬ (((((a+b) / 2 ^ (Int.toNat 1))+m) - start)<b)→lo=l)))∧(¬ (((a+b) / 2 ^ (Int.toNat 1))<((((a+b) / 2 ^ (Int.toNat 1))+m) - start))→lo=l)))))))∧(¬ (start<m)→((a<start→((start<((a+b) / 2 ^ (Int.toNat 1))→((syEx l far n0 a start ((a+b) / 2 ^ (Int.toNat 1)))∧((((a+b) / 2 ^ (Int.toNat 1))<((((a+b) / 2 ^ (Int.toNat 1))+m) - start)→((((((a+b) / 2 ^ (Int.toNat 1))+m) - start)<b→((syEx (syX l far n0 a start ((a+b) / 2 ^ (Int.toNat 1))) far n0 ((a+b) / 2 ^ (Int.toNat 1)) ((((a+b) / 2 ^ (Int.toNat 1))+m) - start) b)∧lo=(syX (syX l far n0 a start ((a+b) / 2 ^ (Int.toNat 1))) far n0 ((a+b) / 2 ^ (Int.toNat 1)) ((((a+b) / 2 ^ (Int.toNat 1))+m) - start) b)))∧(¬ (((((a+b) / 2 ^ (Int.toNat 1))+m) - start)<b)→lo=(syX l far n0 a start ((a+b) / 2 ^ (Int.toNat 1))))))∧(¬ (((a+b) / 2 ^ (Int.toNat 1))<((((a+b) / 2 ^ (Int.toNat 1))+m) - start))→lo=(syX l far n0 a start ((a+b) / 2 ^ (Int.toNat 1)))))))∧(¬ (start<((a+b) / 2 ^ (Int.toNat 1)))→((((a+b) / 2 ^ (Int.toNat 1))<((((a+b) / 2 ^ (Int.toNat 1))+m) - start)→((((((a+b) / 2 ^ (Int.toNat 1))+m) - start)<b→((syEx l far n0 ((a+b) / 2 ^ (Int.toNat 1)) ((((a+b) / 2 ^ (Int.toNat 1))+m) - start) b)∧lo=(syX l far n0 ((a+b) / 2 ^ (Int.toNat 1)) ((((a+b) / 2 ^ (Int.toNat 1))+m) - start) b)))∧(¬ (((((a+b) / 2 ^ (Int.toNat 1))+m) - start)<b)→lo=l)))∧(¬ (((a+b) / 2 ^ (Int.toNat 1))<((((a+b) / 2 ^ (Int.toNat 1))+m) - start))→lo=l)))))∧(¬ (a<start)→((((a+b) / 2 ^ (Int.toNat 1))<((((a+b) / 2 ^ (Int.toNat 1))+m) - start)→((((((a+b) / 2 ^ (Int.toNat 1))+m) - start)<b→((syEx l far n0 ((a+b) / 2 ^ (Int.toNat 1)) ((((a+b) / 2 ^ (Int.toNat 1))+m) - start) b)∧lo=(syX l far n0 ((a+b) / 2 ^ (Int.toNat 1)) ((((a+b) / 2 ^ (Int.toNat 1))+m) - start) b)))∧(¬ (((((a+b) / 2 ^ (Int.toNat 1))+m) - start)<b)→lo=l)))∧(¬ (((a+b) / 2 ^ (Int.toNat 1))<((((a+b) / 2 ^ (Int.toNat 1))+m) - start))→lo=l)))))))))):WD E a m b l far n0 start r:=by
 rcases bft (decide (start<r)) with hc0 | hc0
 · have h:=h.1 (odt hc0)
   obtain ⟨q1_1,h⟩:=h
   obtain ⟨q2_1,h⟩:=h
   obtain ⟨q4_1,h⟩:=h
   obtain ⟨q5_1,h⟩:=h
   obtain ⟨h2,h⟩:=h
   obtain ⟨e,h1,h⟩:=h
   obtain ⟨h4,h⟩:=h
   obtain ⟨e1,h3,h⟩:=h
   obtain ⟨h5,h⟩:=h
   rcases bft (!(decide ((cmpA far e e1)<0))) with hc1 | hc1
   · have h:=h.1 (odf (bnT hc1))
     obtain ⟨q18_2,h⟩:=h
     exact p263_4_0 a m b l far n0 start r e e1 hE ⟨hc0,q1_1,q2_1,(⟨by decide,by decide⟩),q4_1,q5_1,(Qj h2 h1),rfl,rfl,(rp cI 1 0 1 h1),(Qj h4 h3),rfl,rfl,(rp cI 1 0 1 h3),(u170 (Wf e e1 far h5)),hc1,q18_2,trivial⟩ h
   · have h:=h.2 (odt (bnF hc1))
     exact p263_4_1 a m b l far n0 start r e e1 hE ⟨hc0,q1_1,q2_1,(⟨by decide,by decide⟩),q4_1,q5_1,(Qj h2 h1),rfl,rfl,(rp cI 1 0 1 h1),(Qj h4 h3),rfl,rfl,(rp cI 1 0 1 h3),(u170 (Wf e e1 far h5)),hc1,trivial⟩ h
 · have h:=h.2 (odf hc0)
   obtain ⟨q1_1,h⟩:=h
   rcases bft (decide (start<m)) with hc1 | hc1
   · have h:=h.1 (odt hc1)
     rcases bft (decide (m<((((a+b) / 2 ^ (Int.toNat 1))+m) - start))) with hc2 | hc2
     · have h:=h.1 (odt hc2)
       obtain ⟨h1,h⟩:=h
       rcases bft (decide (a<start)) with hc3 | hc3
       · have h:=h.1 (odt hc3)
         rcases bft (decide (start<((a+b) / 2 ^ (Int.toNat 1)))) with hc4 | hc4
         · have h:=h.1 (odt hc4)
           obtain ⟨h2,h⟩:=h
           rcases bft (decide (((a+b) / 2 ^ (Int.toNat 1))<((((a+b) / 2 ^ (Int.toNat 1))+m) - start))) with hc5 | hc5
           · have h:=h.1 (odt hc5)
             rcases bft (decide (((((a+b) / 2 ^ (Int.toNat 1))+m) - start)<b)) with hc6 | hc6
             · have h:=h.1 (odt hc6)
               obtain ⟨h3,h⟩:=h
               have qe0:=h
               exact p263_4_2 a m b l far n0 start r hE ⟨hc0,q1_1,hc1,hc2,(Qt Try.func283 (by kernel_rfl) Qaq (WZ h1 (by first | rfl | (simp only [Qx,QH,QN,QG]; done)))),hc3,hc4,(Qt Try.func263 (by kernel_rfl) Ve (XT h2 (by first | rfl | (simp only [Qx,QH,QN,QG]; done)))),hc5,hc6,(Qt Try.func263 (by kernel_rfl) Ve (XT h3 (by first | rfl | (simp only [Qx,QH,QN,QG]; done)))),trivial⟩ (by try rfl) (by rw [qe0]; all_goals (first | rfl | (simp only [List.length_set]; done) | (simp only [List.length_set]; rfl) | (simp only [List.length_set,List.length_replicate]; done)))
             · have h:=h.2 (odf hc6)
               have qe0:=h
               exact p263_4_3 a m b l far n0 start r hE ⟨hc0,q1_1,hc1,hc2,(Qt Try.func283 (by kernel_rfl) Qaq (WZ h1 (by first | rfl | (simp only [Qx,QH,QN,QG]; done)))),hc3,hc4,(Qt Try.func263 (by kernel_rfl) Ve (XT h2 (by first | rfl | (simp only [Qx,QH,QN,QG]; done)))),hc5,hc6,trivial⟩ (by try rfl) (by rw [qe0]; all_goals (first | rfl | (simp only [List.length_set]; done) | (simp only [List.length_set]; rfl) | (simp only [List.length_set,List.length_replicate]; done)))
           · have h:=h.2 (odf hc5)
             have qe0:=h
             exact p263_4_4 a m b l far n0 start r hE ⟨hc0,q1_1,hc1,hc2,(Qt Try.func283 (by kernel_rfl) Qaq (WZ h1 (by first | rfl | (simp only [Qx,QH,QN,QG]; done)))),hc3,hc4,(Qt Try.func263 (by kernel_rfl) Ve (XT h2 (by first | rfl | (simp only [Qx,QH,QN,QG]; done)))),hc5,rfl,trivial⟩ (by try rfl) (by rw [qe0]; all_goals (first | rfl | (simp only [List.length_set]; done) | (simp only [List.length_set]; rfl) | (simp only [List.length_set,List.length_replicate]; done)))
         · have h:=h.2 (odf hc4)
           rcases bft (decide (((a+b) / 2 ^ (Int.toNat 1))<((((a+b) / 2 ^ (Int.toNat 1))+m) - start))) with hc5 | hc5
           · have h:=h.1 (odt hc5)
             rcases bft (decide (((((a+b) / 2 ^ (Int.toNat 1))+m) - start)<b)) with hc6 | hc6
             · have h:=h.1 (odt hc6)
               obtain ⟨h2,h⟩:=h
               have qe0:=h
               exact p263_4_5 a m b l far n0 start r hE ⟨hc0,q1_1,hc1,hc2,(Qt Try.func283 (by kernel_rfl) Qaq (WZ h1 (by first | rfl | (simp only [Qx,QH,QN,QG]; done)))),hc3,hc4,hc5,hc6,(Qt Try.func263 (by kernel_rfl) Ve (XT h2 (by first | rfl | (simp only [Qx,QH,QN,QG]; done)))),trivial⟩ (by try rfl) (by rw [qe0]; all_goals (first | rfl | (simp only [List.length_set]; done) | (simp only [List.length_set]; rfl) | (simp only [List.length_set,List.length_replicate]; done)))
             · have h:=h.2 (odf hc6)
               have qe0:=h
               exact p263_4_6 a m b l far n0 start r hE ⟨hc0,q1_1,hc1,hc2,(Qt Try.func283 (by kernel_rfl) Qaq (WZ h1 (by first | rfl | (simp only [Qx,QH,QN,QG]; done)))),hc3,hc4,hc5,hc6,trivial⟩ (by try rfl) (by rw [qe0]; all_goals (first | rfl | (simp only [List.length_set]; done) | (simp only [List.length_set]; rfl) | (simp only [List.length_set,List.length_replicate]; done)))
           · have h:=h.2 (odf hc5)
             have qe0:=h
             exact p263_4_7 a m b l far n0 start r hE ⟨hc0,q1_1,hc1,hc2,(Qt Try.func283 (by kernel_rfl) Qaq (WZ h1 (by first | rfl | (simp only [Qx,QH,QN,QG]; done)))),hc3,hc4,hc5,rfl,trivial⟩ (by try rfl) (by rw [qe0]; all_goals (first | rfl | (simp only [List.length_set]; done) | (simp only [List.length_set]; rfl) | (simp only [List.length_set,List.length_replicate]; done)))
       · have h:=h.2 (odf hc3)
         rcases bft (decide (((a+b) / 2 ^ (Int.toNat 1))<((((a+b) / 2 ^ (Int.toNat 1))+m) - start))) with hc4 | hc4
         · have h:=h.1 (odt hc4)
           rcases bft (decide (((((a+b) / 2 ^ (Int.toNat 1))+m) - start)<b)) with hc5 | hc5
           · have h:=h.1 (odt hc5)
             obtain ⟨h2,h⟩:=h
             have qe0:=h
             exact p263_4_8 a m b l far n0 start r hE ⟨hc0,q1_1,hc1,hc2,(Qt Try.func283 (by kernel_rfl) Qaq (WZ h1 (by first | rfl | (simp only [Qx,QH,QN,QG]; done)))),hc3,rfl,hc4,hc5,(Qt Try.func263 (by kernel_rfl) Ve (XT h2 (by first | rfl | (simp only [Qx,QH,QN,QG]; done)))),trivial⟩ (by try rfl) (by rw [qe0]; all_goals (first | rfl | (simp only [List.length_set]; done) | (simp only [List.length_set]; rfl) | (simp only [List.length_set,List.length_replicate]; done)))
           · have h:=h.2 (odf hc5)
             have qe0:=h
             exact p263_4_9 a m b l far n0 start r hE ⟨hc0,q1_1,hc1,hc2,(Qt Try.func283 (by kernel_rfl) Qaq (WZ h1 (by first | rfl | (simp only [Qx,QH,QN,QG]; done)))),hc3,rfl,hc4,hc5,trivial⟩ (by try rfl) (by rw [qe0]; all_goals (first | rfl | (simp only [List.length_set]; done) | (simp only [List.length_set]; rfl) | (simp only [List.length_set,List.length_replicate]; done)))
         · have h:=h.2 (odf hc4)
           have qe0:=h
           exact p263_4_10 a m b l far n0 start r hE ⟨hc0,q1_1,hc1,hc2,(Qt Try.func283 (by kernel_rfl) Qaq (WZ h1 (by first | rfl | (simp only [Qx,QH,QN,QG]; done)))),hc3,rfl,hc4,rfl,trivial⟩ (by try rfl) (by rw [qe0]; all_goals (first | rfl | (simp only [List.length_set]; done) | (simp only [List.length_set]; rfl) | (simp only [List.length_set,List.length_replicate]; done)))
     · have h:=h.2 (odf hc2)
       rcases bft (decide (a<start)) with hc3 | hc3
       · have h:=h.1 (odt hc3)
         rcases bft (decide (start<((a+b) / 2 ^ (Int.toNat 1)))) with hc4 | hc4
         · have h:=h.1 (odt hc4)
           obtain ⟨h1,h⟩:=h
           rcases bft (decide (((a+b) / 2 ^ (Int.toNat 1))<((((a+b) / 2 ^ (Int.toNat 1))+m) - start))) with hc5 | hc5
           · have h:=h.1 (odt hc5)
             rcases bft (decide (((((a+b) / 2 ^ (Int.toNat 1))+m) - start)<b)) with hc6 | hc6
             · have h:=h.1 (odt hc6)
               obtain ⟨h2,h⟩:=h
               have qe0:=h
               exact p263_4_11 a m b l far n0 start r hE ⟨hc0,q1_1,hc1,hc2,hc3,hc4,(Qt Try.func263 (by kernel_rfl) Ve (XT h1 (by first | rfl | (simp only [Qx,QH,QN,QG]; done)))),hc5,hc6,(Qt Try.func263 (by kernel_rfl) Ve (XT h2 (by first | rfl | (simp only [Qx,QH,QN,QG]; done)))),trivial⟩ (by try rfl) (by rw [qe0]; all_goals (first | rfl | (simp only [List.length_set]; done) | (simp only [List.length_set]; rfl) | (simp only [List.length_set,List.length_replicate]; done)))
             · have h:=h.2 (odf hc6)
               have qe0:=h
               exact p263_4_12 a m b l far n0 start r hE ⟨hc0,q1_1,hc1,hc2,hc3,hc4,(Qt Try.func263 (by kernel_rfl) Ve (XT h1 (by first | rfl | (simp only [Qx,QH,QN,QG]; done)))),hc5,hc6,trivial⟩ (by try rfl) (by rw [qe0]; all_goals (first | rfl | (simp only [List.length_set]; done) | (simp only [List.length_set]; rfl) | (simp only [List.length_set,List.length_replicate]; done)))
           · have h:=h.2 (odf hc5)
             have qe0:=h
             exact p263_4_13 a m b l far n0 start r hE ⟨hc0,q1_1,hc1,hc2,hc3,hc4,(Qt Try.func263 (by kernel_rfl) Ve (XT h1 (by first | rfl | (simp only [Qx,QH,QN,QG]; done)))),hc5,rfl,trivial⟩ (by try rfl) (by rw [qe0]; all_goals (first | rfl | (simp only [List.length_set]; done) | (simp only [List.length_set]; rfl) | (simp only [List.length_set,List.length_replicate]; done)))
         · have h:=h.2 (odf hc4)
           rcases bft (decide (((a+b) / 2 ^ (Int.toNat 1))<((((a+b) / 2 ^ (Int.toNat 1))+m) - start))) with hc5 | hc5
           · have h:=h.1 (odt hc5)
             rcases bft (decide (((((a+b) / 2 ^ (Int.toNat 1))+m) - start)<b)) with hc6 | hc6
             · have h:=h.1 (odt hc6)
               obtain ⟨h1,h⟩:=h
               have qe0:=h
               exact p263_4_14 a m b l far n0 start r hE ⟨hc0,q1_1,hc1,hc2,hc3,hc4,hc5,hc6,(Qt Try.func263 (by kernel_rfl) Ve (XT h1 (by first | rfl | (simp only [Qx,QH,QN,QG]; done)))),trivial⟩ (by try rfl) (by rw [qe0]; all_goals (first | rfl | (simp only [List.length_set]; done) | (simp only [List.length_set]; rfl) | (simp only [List.length_set,List.length_replicate]; done)))
             · have h:=h.2 (odf hc6)
               have qe0:=h
               exact p263_4_15 a m b l far n0 start r hE ⟨hc0,q1_1,hc1,hc2,hc3,hc4,hc5,hc6,trivial⟩ (by try rfl) (by rw [qe0]; all_goals (first | rfl | (simp only [List.length_set]; done) | (simp only [List.length_set]; rfl) | (simp only [List.length_set,List.length_replicate]; done)))
           · have h:=h.2 (odf hc5)
             have qe0:=h
             exact p263_4_16 a m b l far n0 start r hE ⟨hc0,q1_1,hc1,hc2,hc3,hc4,hc5,rfl,trivial⟩ (by try rfl) (by rw [qe0]; all_goals (first | rfl | (simp only [List.length_set]; done) | (simp only [List.length_set]; rfl) | (simp only [List.length_set,List.length_replicate]; done)))
       · have h:=h.2 (odf hc3)
         rcases bft (decide (((a+b) / 2 ^ (Int.toNat 1))<((((a+b) / 2 ^ (Int.toNat 1))+m) - start))) with hc4 | hc4
         · have h:=h.1 (odt hc4)
           rcases bft (decide (((((a+b) / 2 ^ (Int.toNat 1))+m) - start)<b)) with hc5 | hc5
           · have h:=h.1 (odt hc5)
             obtain ⟨h1,h⟩:=h
             have qe0:=h
             exact p263_4_17 a m b l far n0 start r hE ⟨hc0,q1_1,hc1,hc2,hc3,rfl,hc4,hc5,(Qt Try.func263 (by kernel_rfl) Ve (XT h1 (by first | rfl | (simp only [Qx,QH,QN,QG]; done)))),trivial⟩ (by try rfl) (by rw [qe0]; all_goals (first | rfl | (simp only [List.length_set]; done) | (simp only [List.length_set]; rfl) | (simp only [List.length_set,List.length_replicate]; done)))
           · have h:=h.2 (odf hc5)
             have qe0:=h
             exact p263_4_18 a m b l far n0 start r hE ⟨hc0,q1_1,hc1,hc2,hc3,rfl,hc4,hc5,trivial⟩ (by try rfl) (by rw [qe0]; all_goals (first | rfl | (simp only [List.length_set]; done) | (simp only [List.length_set]; rfl) | (simp only [List.length_set,List.length_replicate]; done)))
         · have h:=h.2 (odf hc4)
           have qe0:=h
           exact p263_4_19 a m b l far n0 start r hE ⟨hc0,q1_1,hc1,hc2,hc3,rfl,hc4,rfl,trivial⟩ (by try rfl) (by rw [qe0]; all_goals (first | rfl | (simp only [List.length_set]; done) | (simp only [List.length_set]; rfl) | (simp only [List.length_set,List.length_replicate]; done)))
   · have h:=h.2 (odf hc1)
     rcases bft (decide (a<start)) with hc2 | hc2
     · have h:=h.1 (odt hc2)
       rcases bft (decide (start<((a+b) / 2 ^ (Int.toNat 1)))) with hc3 | hc3
       · have h:=h.1 (odt hc3)
         obtain ⟨h1,h⟩:=h
         rcases bft (decide (((a+b) / 2 ^ (Int.toNat 1))<((((a+b) / 2 ^ (Int.toNat 1))+m) - start))) with hc4 | hc4
         · have h:=h.1 (odt hc4)
           rcases bft (decide (((((a+b) / 2 ^ (Int.toNat 1))+m) - start)<b)) with hc5 | hc5
           · have h:=h.1 (odt hc5)
             obtain ⟨h2,h⟩:=h
             have qe0:=h
             exact p263_4_20 a m b l far n0 start r hE ⟨hc0,q1_1,hc1,rfl,hc2,hc3,(Qt Try.func263 (by kernel_rfl) Ve (XT h1 (by first | rfl | (simp only [Qx,QH,QN,QG]; done)))),hc4,hc5,(Qt Try.func263 (by kernel_rfl) Ve (XT h2 (by first | rfl | (simp only [Qx,QH,QN,QG]; done)))),trivial⟩ (by try rfl) (by rw [qe0]; all_goals (first | rfl | (simp only [List.length_set]; done) | (simp only [List.length_set]; rfl) | (simp only [List.length_set,List.length_replicate]; done)))
           · have h:=h.2 (odf hc5)
             have qe0:=h
             exact p263_4_21 a m b l far n0 start r hE ⟨hc0,q1_1,hc1,rfl,hc2,hc3,(Qt Try.func263 (by kernel_rfl) Ve (XT h1 (by first | rfl | (simp only [Qx,QH,QN,QG]; done)))),hc4,hc5,trivial⟩ (by try rfl) (by rw [qe0]; all_goals (first | rfl | (simp only [List.length_set]; done) | (simp only [List.length_set]; rfl) | (simp only [List.length_set,List.length_replicate]; done)))
         · have h:=h.2 (odf hc4)
           have qe0:=h
           exact p263_4_22 a m b l far n0 start r hE ⟨hc0,q1_1,hc1,rfl,hc2,hc3,(Qt Try.func263 (by kernel_rfl) Ve (XT h1 (by first | rfl | (simp only [Qx,QH,QN,QG]; done)))),hc4,rfl,trivial⟩ (by try rfl) (by rw [qe0]; all_goals (first | rfl | (simp only [List.length_set]; done) | (simp only [List.length_set]; rfl) | (simp only [List.length_set,List.length_replicate]; done)))
       · have h:=h.2 (odf hc3)
         rcases bft (decide (((a+b) / 2 ^ (Int.toNat 1))<((((a+b) / 2 ^ (Int.toNat 1))+m) - start))) with hc4 | hc4
         · have h:=h.1 (odt hc4)
           rcases bft (decide (((((a+b) / 2 ^ (Int.toNat 1))+m) - start)<b)) with hc5 | hc5
           · have h:=h.1 (odt hc5)
             obtain ⟨h1,h⟩:=h
             have qe0:=h
             exact p263_4_23 a m b l far n0 start r hE ⟨hc0,q1_1,hc1,rfl,hc2,hc3,hc4,hc5,(Qt Try.func263 (by kernel_rfl) Ve (XT h1 (by first | rfl | (simp only [Qx,QH,QN,QG]; done)))),trivial⟩ (by try rfl) (by rw [qe0]; all_goals (first | rfl | (simp only [List.length_set]; done) | (simp only [List.length_set]; rfl) | (simp only [List.length_set,List.length_replicate]; done)))
           · have h:=h.2 (odf hc5)
             have qe0:=h
             exact p263_4_24 a m b l far n0 start r hE ⟨hc0,q1_1,hc1,rfl,hc2,hc3,hc4,hc5,trivial⟩ (by try rfl) (by rw [qe0]; all_goals (first | rfl | (simp only [List.length_set]; done) | (simp only [List.length_set]; rfl) | (simp only [List.length_set,List.length_replicate]; done)))
         · have h:=h.2 (odf hc4)
           have qe0:=h
           exact p263_4_25 a m b l far n0 start r hE ⟨hc0,q1_1,hc1,rfl,hc2,hc3,hc4,rfl,trivial⟩ (by try rfl) (by rw [qe0]; all_goals (first | rfl | (simp only [List.length_set]; done) | (simp only [List.length_set]; rfl) | (simp only [List.length_set,List.length_replicate]; done)))
     · have h:=h.2 (odf hc2)
       rcases bft (decide (((a+b) / 2 ^ (Int.toNat 1))<((((a+b) / 2 ^ (Int.toNat 1))+m) - start))) with hc3 | hc3
       · have h:=h.1 (odt hc3)
         rcases bft (decide (((((a+b) / 2 ^ (Int.toNat 1))+m) - start)<b)) with hc4 | hc4
         · have h:=h.1 (odt hc4)
           obtain ⟨h1,h⟩:=h
           have qe0:=h
           exact p263_4_26 a m b l far n0 start r hE ⟨hc0,q1_1,hc1,rfl,hc2,rfl,hc3,hc4,(Qt Try.func263 (by kernel_rfl) Ve (XT h1 (by first | rfl | (simp only [Qx,QH,QN,QG]; done)))),trivial⟩ (by try rfl) (by rw [qe0]; all_goals (first | rfl | (simp only [List.length_set]; done) | (simp only [List.length_set]; rfl) | (simp only [List.length_set,List.length_replicate]; done)))
         · have h:=h.2 (odf hc4)
           have qe0:=h
           exact p263_4_27 a m b l far n0 start r hE ⟨hc0,q1_1,hc1,rfl,hc2,rfl,hc3,hc4,trivial⟩ (by try rfl) (by rw [qe0]; all_goals (first | rfl | (simp only [List.length_set]; done) | (simp only [List.length_set]; rfl) | (simp only [List.length_set,List.length_replicate]; done)))
       · have h:=h.2 (odf hc3)
         have qe0:=h
         exact p263_4_28 a m b l far n0 start r hE ⟨hc0,q1_1,hc1,rfl,hc2,rfl,hc3,rfl,trivial⟩ (by try rfl) (by rw [qe0]; all_goals (first | rfl | (simp only [List.length_set]; done) | (simp only [List.length_set]; rfl) | (simp only [List.length_set,List.length_replicate]; done)))
theorem half_i {x:Int} (h:0≤x):(x / 2 ^ (Int.toNat 1):Int)*2≤x∧x≤(x / 2 ^ (Int.toNat 1):Int)*2+1:=by
 have:(x / 2 ^ (Int.toNat 1):Int)=x / 2:=rfl
 rw [this]; omega
theorem sy_ex (far:List Int) (n0:Nat):∀ (fuel:Nat) (l:List Int) (a m b:Int),b - a≤(fuel:Int)→(0≤a∧a<m∧m<b∧b≤(l.length:Int))→AllA far l→l.length≤100→syEx l far n0 a m b:=by
 intro fuel
 induction fuel with
 | zero=>intro l a m b hf h hA hl; omega
 | succ fuel IH =>
  intro l a m b hf h hA hl
  have hab:=half_i (x:=a+b) (by omega)
  obtain ⟨mid,hmid⟩:∃ mid,((a+b) / 2 ^ (Int.toNat 1):Int)=mid:=⟨_,rfl⟩
  rw [hmid] at hab
  -- the last loop of the first case
  have one:∀ (d:Nat) (i k:Int) (v:List Int),i - 1 - k≤(d:Int)→a≤k→i≤b→0≤i→v.length=l.length→∃ lo:List Int,lo.Perm v∧∀ E,LentE Try.prog 263 [.sl 1 0 0 0 1] (.tup []) (Xs lo far n0) E→f263G1 E a m b l far n0 i k v:=by
   intro d
   induction d with
   | zero =>
    intro i k v hd h1 h2 h3 hv
    exact ⟨v,List.Perm.refl _,fun E hE=>f263W1 a m b l far n0 i k v (rv:=()) hE ⟨⟨by omega,by omega⟩,fun h=>by omega,fun _=>rfl⟩⟩
   | succ d ih =>
    intro i k v hd h1 h2 h3 hv
    by_cases c:k<i - 1
    · obtain ⟨e,g1,-⟩:=YY (l:=v) (i:=k+1) (by omega) (by omega)
      obtain ⟨e1,g2,-⟩:=YY (l:=v) (i:=k) (by omega) (by omega)
      obtain ⟨e2,g3⟩:=Qbr g1 g2
      have sp:((v.set (Int.toNat k) e).set (Int.toNat (k+1)) e1).Perm v:=WV g1 g2
      obtain ⟨lo,p,q⟩:=ih i (k+1) _ (by omega) (by omega) h2 h3 (sp.length_eq.trans hv)
      exact ⟨lo,p.trans sp,fun E hE=>f263W1 a m b l far n0 i k v (rv:=()) hE ⟨⟨by omega,by omega⟩,fun _=>⟨⟨by omega,by omega⟩,⟨by omega,by omega⟩,by omega,e,g1,by omega,e1,g2,by omega,e2,g3,⟨by omega,by omega⟩,q E hE⟩,fun h=>absurd c h⟩⟩
    · exact ⟨v,List.Perm.refl _,fun E hE=>f263W1 a m b l far n0 i k v (rv:=()) hE ⟨⟨by omega,by omega⟩,fun h=>absurd h c,fun _=>rfl⟩⟩
  have zero:∀ (d:Nat) (i j:Int),j - i≤(d:Int)→a<i→i≤b→j≤b→∃ lo:List Int,lo.Perm l∧∀ E,LentE Try.prog 263 [.sl 1 0 0 0 1] (.tup []) (Xs lo far n0) E→f263G0 E a m b l far n0 i j:=by
   intro d
   induction d with
   | zero =>
    intro i j hd h1 h2 h3
    obtain ⟨lo,p,q⟩:=one 200 i a l (by omega) (by omega) h2 (by omega) rfl
    exact ⟨lo,p,fun E hE=>f263W0 a m b l far n0 i j (rv:=()) hE ⟨fun h=>by omega,fun _=>q E hE⟩⟩
   | succ d ih =>
    intro i j hd h1 h2 h3
    by_cases c:i<j
    · have hh:=half_i (x:=i+j) (by omega)
      obtain ⟨e,g1,m1⟩:=YY (l:=l) (i:=((i+j) / 2 ^ (Int.toNat 1):Int)) (by omega) (by omega)
      obtain ⟨e1,g2,m2⟩:=YY (l:=l) (i:=a) (by omega) (by omega)
      by_cases cc:cmpA far e e1<0
      · obtain ⟨lo,p,q⟩:=ih (((i+j) / 2 ^ (Int.toNat 1):Int)+1) j (by omega) (by omega) (by omega) h3
        exact ⟨lo,p,fun E hE=>f263W0 a m b l far n0 i j (rv:=()) hE ⟨fun _=>⟨⟨by omega,by omega⟩,inU (by omega),⟨by omega,by omega⟩,by omega,e,g1,by omega,e1,g2,hA.two m1 m2,fun _=>⟨⟨by omega,by omega⟩,q E hE⟩,fun h=>absurd cc h⟩,fun h=>absurd c h⟩⟩
      · obtain ⟨lo,p,q⟩:=ih i ((i+j) / 2 ^ (Int.toNat 1):Int) (by omega) h1 h2 (by omega)
        exact ⟨lo,p,fun E hE=>f263W0 a m b l far n0 i j (rv:=()) hE ⟨fun _=>⟨⟨by omega,by omega⟩,inU (by omega),⟨by omega,by omega⟩,by omega,e,g1,by omega,e1,g2,hA.two m1 m2,fun h=>absurd h cc,fun _=>q E hE⟩,fun h=>absurd c h⟩⟩
    · obtain ⟨lo,p,q⟩:=one 200 i a l (by omega) (by omega) h2 (by omega) rfl
      exact ⟨lo,p,fun E hE=>f263W0 a m b l far n0 i j (rv:=()) hE ⟨fun h=>absurd h c,fun _=>q E hE⟩⟩
  -- the second case
  have three:∀ (d:Nat) (i k:Int) (v:List Int),k - i≤(d:Int)→a≤i→k≤m→v.length=l.length→∃ lo:List Int,lo.Perm v∧∀ E,LentE Try.prog 263 [.sl 1 0 0 0 1] (.tup []) (Xs lo far n0) E→f263G3 E a m b l far n0 i k v:=by
   intro d
   induction d with
   | zero =>
    intro i k v hd h1 h2 hv
    exact ⟨v,List.Perm.refl _,fun E hE=>f263W3 a m b l far n0 i k v (rv:=()) hE ⟨fun h=>by omega,fun _=>rfl⟩⟩
   | succ d ih =>
    intro i k v hd h1 h2 hv
    by_cases c:k > i
    · obtain ⟨e,g1,-⟩:=YY (l:=v) (i:=k - 1) (by omega) (by omega)
      obtain ⟨e1,g2,-⟩:=YY (l:=v) (i:=k) (by omega) (by omega)
      obtain ⟨e2,g3⟩:=Qbr g1 g2
      have sp:((v.set (Int.toNat k) e).set (Int.toNat (k - 1)) e1).Perm v:=WV g1 g2
      obtain ⟨lo,p,q⟩:=ih i (k - 1) _ (by omega) h1 (by omega) (sp.length_eq.trans hv)
      exact ⟨lo,p.trans sp,fun E hE=>f263W3 a m b l far n0 i k v (rv:=()) hE ⟨fun _=>⟨⟨by omega,by omega⟩,⟨by omega,by omega⟩,by omega,e,g1,by omega,e1,g2,by omega,e2,g3,⟨by omega,by omega⟩,q E hE⟩,fun h=>absurd c h⟩⟩
    · exact ⟨v,List.Perm.refl _,fun E hE=>f263W3 a m b l far n0 i k v (rv:=()) hE ⟨fun h=>absurd h c,fun _=>rfl⟩⟩
  have two:∀ (d:Nat) (i j:Int),j - i≤(d:Int)→a≤i→i≤m→j≤m→∃ lo:List Int,lo.Perm l∧∀ E,LentE Try.prog 263 [.sl 1 0 0 0 1] (.tup []) (Xs lo far n0) E→f263G2 E a m b l far n0 i j:=by
   intro d
   induction d with
   | zero =>
    intro i j hd h1 h2 h3
    obtain ⟨lo,p,q⟩:=three 200 i m l (by omega) h1 (by omega) rfl
    exact ⟨lo,p,fun E hE=>f263W2 a m b l far n0 i j (rv:=()) hE ⟨fun h=>by omega,fun _=>q E hE⟩⟩
   | succ d ih =>
    intro i j hd h1 h2 h3
    by_cases c:i<j
    · have hh:=half_i (x:=i+j) (by omega)
      obtain ⟨e,g1,m1⟩:=YY (l:=l) (i:=m) (by omega) (by omega)
      obtain ⟨e1,g2,m2⟩:=YY (l:=l) (i:=((i+j) / 2 ^ (Int.toNat 1):Int)) (by omega) (by omega)
      by_cases cc:cmpA far e e1<0
      · obtain ⟨lo,p,q⟩:=ih i ((i+j) / 2 ^ (Int.toNat 1):Int) (by omega) h1 h2 (by omega)
        exact ⟨lo,p,fun E hE=>f263W2 a m b l far n0 i j (rv:=()) hE ⟨fun _=>⟨⟨by omega,by omega⟩,inU (by omega),⟨by omega,by omega⟩,by omega,e,g1,by omega,e1,g2,hA.two m1 m2,fun h=>absurd cc h,fun _=>q E hE⟩,fun h=>absurd c h⟩⟩
      · obtain ⟨lo,p,q⟩:=ih (((i+j) / 2 ^ (Int.toNat 1):Int)+1) j (by omega) (by omega) (by omega) h3
        exact ⟨lo,p,fun E hE=>f263W2 a m b l far n0 i j (rv:=()) hE ⟨fun _=>⟨⟨by omega,by omega⟩,inU (by omega),⟨by omega,by omega⟩,by omega,e,g1,by omega,e1,g2,hA.two m1 m2,fun _=>⟨⟨by omega,by omega⟩,q E hE⟩,fun h=>absurd h cc⟩,fun h=>absurd c h⟩⟩
    · obtain ⟨lo,p,q⟩:=three 200 i m l (by omega) h1 (by omega) rfl
      exact ⟨lo,p,fun E hE=>f263W2 a m b l far n0 i j (rv:=()) hE ⟨fun h=>absurd h c,fun _=>q E hE⟩⟩
  -- the third case
  have four:∀ (s0 r0:Int),(∀ c,s0≤c→c<r0→(0≤c∧c<b)∧0≤mid+m - 1 - c∧mid+m - 1 - c<b)→a≤s0→r0≤b→mid+m - s0≤b→a<mid→mid<b→∀ (d:Nat) (st r:Int),r - st≤(d:Int)→s0≤st→st≤r→r≤r0→∃ lo:List Int,lo.Perm l∧∀ E,LentE Try.prog 263 [.sl 1 0 0 0 1] (.tup []) (Xs lo far n0) E→WD E a m b l far n0 st r:=by
   intro s0 r0 hin hs0 hr0 hend hm1 hm2 d
   have fin:∀ (st r:Int),¬ st<r→s0≤st→st≤b→∃ lo:List Int,lo.Perm l∧∀ E,LentE Try.prog 263 [.sl 1 0 0 0 1] (.tup []) (Xs lo far n0) E→WD E a m b l far n0 st r:=by
    intro st r hsr hs1 hs2
    obtain ⟨en,hen⟩:∃ en,mid+m - st=en:=⟨_,rfl⟩
    have gen:∀ (l1:List Int),l1.Perm l→(st<m∧m<en→roEx l far n0 st m en∧l1=roX l far n0 st m en)→(¬ (st<m∧m<en)→l1=l)→∃ lo:List Int,lo.Perm l∧∀ E,LentE Try.prog 263 [.sl 1 0 0 0 1] (.tup []) (Xs lo far n0) E→WD E a m b l far n0 st r:=by
     intro l1 p1 t1 f1
     have gen2:∀ (l2:List Int),l2.Perm l→(a<st∧st<mid→syEx l1 far n0 a st mid∧l2=syX l1 far n0 a st mid)→(¬ (a<st∧st<mid)→l2=l1)→∃ lo:List Int,lo.Perm l∧∀ E,LentE Try.prog 263 [.sl 1 0 0 0 1] (.tup []) (Xs lo far n0) E→WD E a m b l far n0 st r:=by
      intro l2 p2 t2 f2
      have gen3:∀ (l3:List Int),l3.Perm l→(mid<en∧en<b→syEx l2 far n0 mid en b∧l3=syX l2 far n0 mid en b)→(¬ (mid<en∧en<b)→l3=l2)→∃ lo:List Int,lo.Perm l∧∀ E,LentE Try.prog 263 [.sl 1 0 0 0 1] (.tup []) (Xs lo far n0) E→WD E a m b l far n0 st r:=by
       intro l3 p3 t3 f3
       refine ⟨l3,p3,fun E hE=>f263W4 a m b l far n0 st r (rv:=()) hE ⟨fun h=>absurd h hsr,fun _=>?_⟩⟩
       simp only [hmid,hen]
       refine ⟨⟨by omega,by omega⟩,?_,?_⟩
       all_goals (intro q1)
       · refine ⟨fun q2=>?_,fun q2=>?_⟩
         · obtain ⟨x1,rfl⟩:=t1 ⟨q1,q2⟩
           refine ⟨x1,?_,?_⟩
           · intro q3
             refine ⟨fun q4=>?_,fun q4=>?_⟩
             · obtain ⟨x2,rfl⟩:=t2 ⟨q3,q4⟩
               exact ⟨x2,fun q5=>⟨fun q6=>t3 ⟨q5,q6⟩,fun q6=>f3 (fun h=>q6 h.2)⟩,fun q5=>f3 (fun h=>q5 h.1)⟩
             · have:=f2 (fun h=>q4 h.2); subst this
               exact ⟨fun q5=>⟨fun q6=>t3 ⟨q5,q6⟩,fun q6=>f3 (fun h=>q6 h.2)⟩,fun q5=>f3 (fun h=>q5 h.1)⟩
           · intro q3
             have:=f2 (fun h=>q3 h.1); subst this
             exact ⟨fun q5=>⟨fun q6=>t3 ⟨q5,q6⟩,fun q6=>f3 (fun h=>q6 h.2)⟩,fun q5=>f3 (fun h=>q5 h.1)⟩
         · have:=f1 (fun h=>q2 h.2); subst this
           refine ⟨?_,?_⟩
           · intro q3
             refine ⟨fun q4=>?_,fun q4=>?_⟩
             · obtain ⟨x2,rfl⟩:=t2 ⟨q3,q4⟩
               exact ⟨x2,fun q5=>⟨fun q6=>t3 ⟨q5,q6⟩,fun q6=>f3 (fun h=>q6 h.2)⟩,fun q5=>f3 (fun h=>q5 h.1)⟩
             · have:=f2 (fun h=>q4 h.2); subst this
               exact ⟨fun q5=>⟨fun q6=>t3 ⟨q5,q6⟩,fun q6=>f3 (fun h=>q6 h.2)⟩,fun q5=>f3 (fun h=>q5 h.1)⟩
           · intro q3
             have:=f2 (fun h=>q3 h.1); subst this
             exact ⟨fun q5=>⟨fun q6=>t3 ⟨q5,q6⟩,fun q6=>f3 (fun h=>q6 h.2)⟩,fun q5=>f3 (fun h=>q5 h.1)⟩
       · have:=f1 (fun h=>q1 h.1); subst this
         refine ⟨?_,?_⟩
         · intro q3
           refine ⟨fun q4=>?_,fun q4=>?_⟩
           · obtain ⟨x2,rfl⟩:=t2 ⟨q3,q4⟩
             exact ⟨x2,fun q5=>⟨fun q6=>t3 ⟨q5,q6⟩,fun q6=>f3 (fun h=>q6 h.2)⟩,fun q5=>f3 (fun h=>q5 h.1)⟩
           · have:=f2 (fun h=>q4 h.2); subst this
             exact ⟨fun q5=>⟨fun q6=>t3 ⟨q5,q6⟩,fun q6=>f3 (fun h=>q6 h.2)⟩,fun q5=>f3 (fun h=>q5 h.1)⟩
         · intro q3
           have:=f2 (fun h=>q3 h.1); subst this
           exact ⟨fun q5=>⟨fun q6=>t3 ⟨q5,q6⟩,fun q6=>f3 (fun h=>q6 h.2)⟩,fun q5=>f3 (fun h=>q5 h.1)⟩
      by_cases c:mid<en∧en<b
      · exact gen3 (syX l2 far n0 mid en b) ((YV ..).trans p2) (fun _=>⟨IH l2 mid en b (by omega) ⟨by omega,by omega,by omega,by rw [p2.length_eq]; omega⟩ (hA.perm p2) (by rw [p2.length_eq]; omega),rfl⟩) (fun h=>absurd c h)
      · exact gen3 l2 p2 (fun h=>absurd h c) (fun _=>rfl)
     by_cases c:a<st∧st<mid
     · exact gen2 (syX l1 far n0 a st mid) ((YV ..).trans p1) (fun _=>⟨IH l1 a st mid (by omega) ⟨by omega,by omega,by omega,by rw [p1.length_eq]; omega⟩ (hA.perm p1) (by rw [p1.length_eq]; omega),rfl⟩) (fun h=>absurd c h)
     · exact gen2 l1 p1 (fun h=>absurd h c) (fun _=>rfl)
    by_cases c:st<m∧m<en
    · exact gen (roX l far n0 st m en) (roX_perm ..) (fun _=>⟨ro_ex _ _ _ _ _ _ ⟨by omega,by omega,by omega,by omega⟩ hl,rfl⟩) (fun h=>absurd c h)
    · exact gen l (List.Perm.refl _) (fun h=>absurd h c) (fun _=>rfl)
   induction d with
   | zero =>
    intro st r hd h1 h2 h3
    exact fin st r (by omega) h1 (by omega)
   | succ d ih =>
    intro st r hd h1 h2 h3
    by_cases c:st<r
    · have hh:=half_i (x:=st+r) (by omega)
      obtain ⟨cc,hcc⟩:∃ cc,((st+r) / 2 ^ (Int.toNat 1):Int)=cc:=⟨_,rfl⟩
      rw [hcc] at hh
      obtain ⟨⟨i1,i2⟩,i3,i4⟩:=hin cc (by omega) (by omega)
      obtain ⟨e,g1,m1⟩:=YY (l:=l) (i:=mid+m - 1 - cc) (by omega) (by omega)
      obtain ⟨e1,g2,m2⟩:=YY (l:=l) (i:=cc) (by omega) (by omega)
      by_cases cm:cmpA far e e1<0
      · obtain ⟨lo,p,q⟩:=ih st cc (by omega) h1 (by omega) (by omega)
        refine ⟨lo,p,fun E hE=>f263W4 a m b l far n0 st r (rv:=()) hE ⟨fun _=>?_,fun h=>absurd c h⟩⟩
        simp only [hmid,hcc]
        exact ⟨⟨by omega,by omega⟩,inU (by omega),⟨by omega,by omega⟩,⟨by omega,by omega⟩,by omega,e,g1,by omega,e1,g2,hA.two m1 m2,fun h=>absurd cm h,fun _=>q E hE⟩
      · obtain ⟨lo,p,q⟩:=ih (cc+1) r (by omega) (by omega) (by omega) (by omega)
        refine ⟨lo,p,fun E hE=>f263W4 a m b l far n0 st r (rv:=()) hE ⟨fun _=>?_,fun h=>absurd c h⟩⟩
        simp only [hmid,hcc]
        exact ⟨⟨by omega,by omega⟩,inU (by omega),⟨by omega,by omega⟩,⟨by omega,by omega⟩,by omega,e,g1,by omega,e1,g2,hA.two m1 m2,fun _=>⟨⟨by omega,by omega⟩,q E hE⟩,fun h=>absurd h cm⟩
    · exact fin st r c h1 (by omega)
  have done:∃ lo:List Int,lo.Perm l∧∀ E,LentE Try.prog 263 [.sl 1 0 0 0 1] (.tup []) (Xs lo far n0) E→G Try.prog E [.code (Qd Try.prog 263)] ⟨[.sl 0 n0 0 l.length 1,.int .i64 a,.int .i64 m,.int .i64 b,.clos 170 [] [.ptr 1 0 0]]++unds (Try.f263.ntmps - 5),Xs l far n0⟩:=by
   by_cases c1:m - a=1
   · obtain ⟨lo,p,q⟩:=zero 200 m b (by omega) (by omega) (by omega) (by omega)
     exact ⟨lo,p,fun E hE=>f263W a m b l far n0 (rv:=()) hE ⟨⟨by omega,by omega⟩,fun _=>q E hE,fun h=>absurd c1 h⟩⟩
   · by_cases c2:b - m=1
     · obtain ⟨lo,p,q⟩:=two 200 a m (by omega) (by omega) (by omega) (by omega)
       exact ⟨lo,p,fun E hE=>f263W a m b l far n0 (rv:=()) hE ⟨⟨by omega,by omega⟩,fun h=>absurd h c1,fun _=>⟨⟨by omega,by omega⟩,fun _=>q E hE,fun h=>absurd c2 h⟩⟩⟩
     · by_cases c3:m > mid
       · obtain ⟨lo,p,q⟩:=four (mid+m - b) mid (fun c h1 h2=>by omega) (by omega) (by omega) (by omega) (by omega) (by omega) 200 (mid+m - b) mid (by omega) (by omega) (by omega) (by omega)
         refine ⟨lo,p,fun E hE=>f263W a m b l far n0 (rv:=()) hE ?_⟩
         simp only [hmid]
         exact ⟨⟨by omega,by omega⟩,fun h=>absurd h c1,fun _=>⟨⟨by omega,by omega⟩,fun h=>absurd h c2,fun _=>⟨⟨by omega,by omega⟩,inU (by omega),⟨by omega,by omega⟩,⟨by omega,by omega⟩,fun _=>⟨⟨by omega,by omega⟩,⟨by omega,by omega⟩,q E hE⟩,fun h=>absurd c3 h⟩⟩⟩
       · obtain ⟨lo,p,q⟩:=four a m (fun c h1 h2=>by omega) (by omega) (by omega) (by omega) (by omega) (by omega) 200 a m (by omega) (by omega) (by omega) (by omega)
         refine ⟨lo,p,fun E hE=>f263W a m b l far n0 (rv:=()) hE ?_⟩
         simp only [hmid]
         exact ⟨⟨by omega,by omega⟩,fun h=>absurd h c1,fun _=>⟨⟨by omega,by omega⟩,fun h=>absurd h c2,fun _=>⟨⟨by omega,by omega⟩,inU (by omega),⟨by omega,by omega⟩,⟨by omega,by omega⟩,fun h=>absurd h c3,fun _=>⟨⟨by omega,by omega⟩,q E hE⟩⟩⟩⟩
  obtain ⟨lo,p,q⟩:=done
  exact ⟨lo,p,WF _ Try.func263 Ve rfl rfl fun E hE=>q E hE⟩
end Go.Proofs.Ytemklbioijmjiaa
namespace Go.Proofs.Ytemklbioijmjiaa
open Go Ax
open Go.Proofs
theorem f219b:Try.f219.body=some (Qd Try.prog 219):=by kernel_rfl
def f219K0 (P:Program):List Item:=kAt 400 [.code (Qd P 219)] [.stop]
def f219S0 (n:Int) (l far:List Int) (n0:Nat) (a:Nat) (b:Nat) (v0:List Int):St:=⟨([.sl 0 n0 0 v0.length 1,.int .i64 n,.clos 170 [] [.ptr 1 0 0],J,J,J,.int .i64 20,.int .i64 (a:Int),.int .i64 (b:Int)]++Js 54),[⟨true,n0,1,true,(rowI v0),true⟩,⟨true,0,1,true,[.rsl (rowI far) 0 far.length],false⟩]⟩
def Qbb (E:Env) (n:Int) (l far:List Int) (n0:Nat) (a:Nat) (b:Nat) (v0:List Int):Prop:=G Try.prog E (f219K0 Try.prog) (f219S0 n l far n0 a b v0 )
def QaZ (P:Program):List Item:=kAt 400 [.code (Qd P 219)] [.b false,.stop]
def f219S1 (n:Int) (l far:List Int) (n0:Nat) (v0:List Int) (blockSize:Int):St:=⟨([.sl 0 n0 0 v0.length 1,.int .i64 n,.clos 170 [] [.ptr 1 0 0],J,J,J,.int .i64 blockSize]++Js 56),[⟨true,n0,1,true,(rowI v0),true⟩,⟨true,0,1,true,[.rsl (rowI far) 0 far.length],false⟩]⟩
def KP (E:Env) (n:Int) (l far:List Int) (n0:Nat) (v0:List Int) (blockSize:Int):Prop:=G Try.prog E (QaZ Try.prog) (f219S1 n l far n0 v0 blockSize )
def QaY (P:Program):List Item:=kAt 400 [.code (Qd P 219)] [.b false,.b true,.stop]
def f219S2 (n:Int) (l far:List Int) (n0:Nat) (v0:List Int) (a:Int) (b:Int) (blockSize:Int):St:=⟨([.sl 0 n0 0 v0.length 1,.int .i64 n,.clos 170 [] [.ptr 1 0 0],J,J,J,.int .i64 blockSize,.int .i64 a,.int .i64 b]++Js 54),[⟨true,n0,1,true,(rowI v0),true⟩,⟨true,0,1,true,[.rsl (rowI far) 0 far.length],false⟩]⟩
def Qba (E:Env) (n:Int) (l far:List Int) (n0:Nat) (v0:List Int) (a:Int) (b:Int) (blockSize:Int):Prop:=G Try.prog E (QaY Try.prog) (f219S2 n l far n0 v0 a b blockSize )
abbrev yS (n0:Nat) (v0:List Int) (far:List Int):List Blk:=[⟨true,n0,1,true,(rowI v0),true⟩,⟨true,0,1,true,[.rsl (rowI far) 0 far.length],false⟩]
theorem p219_start_0 (n:Int) (l far:List Int) (n0:Nat) {E:Env} {rv:AV} {bs2:List Blk} (hE:LentE Try.prog 219 [.sl 1 0 0 0 1] rv bs2 E) (ho:AllP [])
 (hg:G Try.prog E (f219K0 Try.prog) ⟨([.sl 0 n0 0 l.length 1,.int .i64 n,.clos 170 [] [.ptr 1 0 0],J,J,J,.int .i64 20,.int .i64 0,.int .i64 20]++Js 54),[⟨true,n0,1,true,(rowI l),true⟩,⟨true,0,1,true,[.rsl (rowI far) 0 far.length],false⟩]⟩):G Try.prog E [.code (Qd Try.prog 219)] ⟨[.sl 0 n0 0 l.length 1,.int .i64 n,.clos 170 [] [.ptr 1 0 0]]++unds (Try.f219.ntmps - 3),[⟨true,n0,1,true,(rowI l),true⟩,⟨true,0,1,true,[.rsl (rowI far) 0 far.length],false⟩]⟩ :=
 Qe (n:=400) (ds:=[]) (cs:=[]) (live:=[0,1,2,6,7,8]) (m:=2) (evs:=[.stop]) (obs:=_) hE.kind (hE.nogh (by kernel_rfl)) Qg (by kernel_rfl) ho hg
theorem f219W (n:Int) (l far:List Int) (n0:Nat) {E:Env} {rv:Unit} {lo:List Int} (hE:LentE Try.prog 219 [.sl 1 0 0 0 1] (.tup []) [⟨true,n0,1,true,(rowI lo),true⟩,⟨true,0,1,true,[.rsl (rowI far) 0 far.length],false⟩] E)
 (h:Qbb E n l far n0 0 20 l):G Try.prog E [.code (Qd Try.prog 219)] ⟨[.sl 0 n0 0 l.length 1,.int .i64 n,.clos 170 [] [.ptr 1 0 0]]++unds (Try.f219.ntmps - 3),[⟨true,n0,1,true,(rowI l),true⟩,⟨true,0,1,true,[.rsl (rowI far) 0 far.length],false⟩]⟩:=by
 exact p219_start_0 n l far n0 hE trivial h
theorem p219_0_0 (n:Int) (l far:List Int) (n0:Nat) (a:Nat) (b:Nat) (v0:List Int) {E:Env} {rv:AV} {bs2:List Blk} (hE:LentE Try.prog 219 [.sl 1 0 0 0 1] rv bs2 E) (ho:AllP [(decide ((b:Int)≤n))=true,QO Try.prog (.clos 262 [] []) [.sl 0 n0 0 v0.length 1,.int .i64 (a:Int),.int .i64 (b:Int),.clos 170 [] [.ptr 1 0 0]] (yS n0 v0 far) (.tup []) [⟨true,n0,1,true,(rowI (in_X v0 far n0 (a:Int) (b:Int))),true⟩,⟨true,0,1,true,[.rsl (rowI far) 0 far.length],false⟩],InR .i64 ((b:Int)+20)])
 (hg:G Try.prog E (f219K0 Try.prog) ⟨([.sl 0 n0 0 v0.length 1,.int .i64 n,.clos 170 [] [.ptr 1 0 0],J,J,J,.int .i64 20,.int .i64 (b:Int),.int .i64 ((b:Int)+20)]++Js 54),[⟨true,n0,1,true,(rowI (in_X v0 far n0 (a:Int) (b:Int))),true⟩,⟨true,0,1,true,[.rsl (rowI far) 0 far.length],false⟩]⟩):G Try.prog E (f219K0 Try.prog) (f219S0 n l far n0 a b v0 ) :=
 Qe (n:=400) (ds:=[]) (cs:=[]) (live:=[0,1,2,6,7,8]) (m:=2) (evs:=[.b true,.lent [0,1] (.tup []) [⟨true,n0,1,true,(rowI (in_X v0 far n0 (a:Int) (b:Int))),true⟩,⟨true,0,1,true,[.rsl (rowI far) 0 far.length],false⟩],.stop]) (obs:=_) hE.kind (hE.nogh (by kernel_rfl)) Qg (by kernel_rfl) ho hg
theorem p219_0_1 (n:Int) (l far:List Int) (n0:Nat) (a:Nat) (b:Nat) (v0:List Int) {E:Env} {rv:AV} {bs2:List Blk} (hE:LentE Try.prog 219 [.sl 1 0 0 0 1] rv bs2 E) (ho:AllP [(decide ((b:Int)≤n))=false,QO Try.prog (.clos 262 [] []) [.sl 0 n0 0 v0.length 1,.int .i64 (a:Int),.int .i64 n,.clos 170 [] [.ptr 1 0 0]] (yS n0 v0 far) (.tup []) [⟨true,n0,1,true,(rowI (in_X v0 far n0 (a:Int) n)),true⟩,⟨true,0,1,true,[.rsl (rowI far) 0 far.length],false⟩]])
 (hg:G Try.prog E (QaZ Try.prog) ⟨([.sl 0 n0 0 v0.length 1,.int .i64 n,.clos 170 [] [.ptr 1 0 0],J,J,J,.int .i64 20]++Js 56),[⟨true,n0,1,true,(rowI (in_X v0 far n0 (a:Int) n)),true⟩,⟨true,0,1,true,[.rsl (rowI far) 0 far.length],false⟩]⟩):G Try.prog E (f219K0 Try.prog) (f219S0 n l far n0 a b v0 ) :=
 Qe (n:=400) (ds:=[]) (cs:=[]) (live:=[0,1,2,6]) (m:=2) (evs:=[.b false,.lent [0,1] (.tup []) [⟨true,n0,1,true,(rowI (in_X v0 far n0 (a:Int) n)),true⟩,⟨true,0,1,true,[.rsl (rowI far) 0 far.length],false⟩],.stop]) (obs:=_) hE.kind (hE.nogh (by kernel_rfl)) Qg (by kernel_rfl) ho hg
theorem f219W0 (n:Int) (l far:List Int) (n0:Nat) (a:Nat) (b:Nat) (v0:List Int) {E:Env} {rv:Unit} {lo:List Int} (hE:LentE Try.prog 219 [.sl 1 0 0 0 1] (.tup []) [⟨true,n0,1,true,(rowI lo),true⟩,⟨true,0,1,true,[.rsl (rowI far) 0 far.length],false⟩] E)
 (h:(((b:Int)≤n→((in_Ex v0 far n0 (a:Int) (b:Int))∧((I6 ((b:Int)+20))∧Qbb E n l far n0 b (b+20) (in_X v0 far n0 (a:Int) (b:Int)))))∧(¬ ((b:Int)≤n)→((in_Ex v0 far n0 (a:Int) n)∧KP E n l far n0 (in_X v0 far n0 (a:Int) n) 20)))):Qbb E n l far n0 a b v0:=by
 rcases bft (decide ((b:Int)≤n)) with hc0 | hc0
 · have h:=h.1 (odt hc0)
   obtain ⟨h1,h⟩:=h
   obtain ⟨q2_1,h⟩:=h
   refine p219_0_0 n l far n0 a b v0 hE ⟨hc0,(Qt Try.func262 (by kernel_rfl) f262b (in_X_ok h1 (by first | rfl | (simp only [Qx,QH,QN,QG]; done)))),q2_1,trivial⟩ ?_
   have h:=h
   simp only [Qbb,f219S0,List.length_set,Qx] at h
   skip
   exact h
 · have h:=h.2 (odf hc0)
   obtain ⟨h1,h⟩:=h
   refine p219_0_1 n l far n0 a b v0 hE ⟨hc0,(Qt Try.func262 (by kernel_rfl) f262b (in_X_ok h1 (by first | rfl | (simp only [Qx,QH,QN,QG]; done)))),trivial⟩ ?_
   have h:=h
   simp only [KP,f219S1,List.length_set,Qx] at h
   skip
   exact h
theorem p219_1_0 (n:Int) (l far:List Int) (n0:Nat) (v0:List Int) (blockSize:Int) {E:Env} {rv:AV} {bs2:List Blk} (hE:LentE Try.prog 219 [.sl 1 0 0 0 1] rv bs2 E) (ho:AllP [(decide (blockSize<n))=true,InR .i64 (2*blockSize)])
 (hg:G Try.prog E (QaY Try.prog) ⟨([.sl 0 n0 0 v0.length 1,.int .i64 n,.clos 170 [] [.ptr 1 0 0],J,J,J,.int .i64 blockSize,.int .i64 0,.int .i64 (2*blockSize)]++Js 54),(yS n0 v0 far)⟩):G Try.prog E (QaZ Try.prog) (f219S1 n l far n0 v0 blockSize ) :=
 Qe (n:=400) (ds:=[]) (cs:=[]) (live:=[0,1,2,6,7,8]) (m:=2) (evs:=[.b true,.stop]) (obs:=_) hE.kind (hE.nogh (by kernel_rfl)) Qg (by kernel_rfl) ho hg
theorem p219_1_1 (n:Int) (l far:List Int) (n0:Nat) (v0:List Int) (blockSize:Int) {E:Env} {res:AV} {bs2:List Blk} (hE:LentE Try.prog 219 [.sl 1 0 0 0 1] res bs2 E) (ho:AllP [(decide (blockSize<n))=false])
 (hr:(.tup [])=res) (hb:(yS n0 v0 far)=bs2):G Try.prog E (QaZ Try.prog) (f219S1 n l far n0 v0 blockSize ) :=
 Qr (n:=400) (live:=[]) (m:=2) (evs:=[.b false]) (obs:=_) hE (hE.nogh (by kernel_rfl)) Try.func219 Qg (by kernel_rfl) ho hr hb
theorem f219W1 (n:Int) (l far:List Int) (n0:Nat) (v0:List Int) (blockSize:Int) {E:Env} {rv:Unit} {lo:List Int} (hE:LentE Try.prog 219 [.sl 1 0 0 0 1] (.tup []) [⟨true,n0,1,true,(rowI lo),true⟩,⟨true,0,1,true,[.rsl (rowI far) 0 far.length],false⟩] E)
 (h:((blockSize<n→((I6 (2*blockSize))∧Qba E n l far n0 v0 0 (2*blockSize) blockSize))∧(¬ (blockSize<n)→lo=v0))):KP E n l far n0 v0 blockSize:=by
 rcases bft (decide (blockSize<n)) with hc0 | hc0
 · have h:=h.1 (odt hc0)
   obtain ⟨q1_1,h⟩:=h
   exact p219_1_0 n l far n0 v0 blockSize hE ⟨hc0,q1_1,trivial⟩ h
 · have h:=h.2 (odf hc0)
   have qe0:=h
   exact p219_1_1 n l far n0 v0 blockSize hE ⟨hc0,trivial⟩ (by try rfl) (by rw [qe0]; all_goals (first | rfl | (simp only [List.length_set]; done) | (simp only [List.length_set]; rfl) | (simp only [List.length_set,List.length_replicate]; done)))
theorem p219_2_0 (n:Int) (l far:List Int) (n0:Nat) (v0:List Int) (a:Int) (b:Int) (blockSize:Int) {E:Env} {rv:AV} {bs2:List Blk} (hE:LentE Try.prog 219 [.sl 1 0 0 0 1] rv bs2 E) (ho:AllP [(decide (b≤n))=true,InR .i64 (a+blockSize),QO Try.prog (.clos 263 [] []) [.sl 0 n0 0 v0.length 1,.int .i64 a,.int .i64 (a+blockSize),.int .i64 b,.clos 170 [] [.ptr 1 0 0]] (yS n0 v0 far) (.tup []) [⟨true,n0,1,true,(rowI (syX v0 far n0 a (a+blockSize) b)),true⟩,⟨true,0,1,true,[.rsl (rowI far) 0 far.length],false⟩],InR .i64 (2*blockSize),InR .i64 (b+(2*blockSize))])
 (hg:G Try.prog E (QaY Try.prog) ⟨([.sl 0 n0 0 v0.length 1,.int .i64 n,.clos 170 [] [.ptr 1 0 0],J,J,J,.int .i64 blockSize,.int .i64 b,.int .i64 (b+(2*blockSize))]++Js 54),[⟨true,n0,1,true,(rowI (syX v0 far n0 a (a+blockSize) b)),true⟩,⟨true,0,1,true,[.rsl (rowI far) 0 far.length],false⟩]⟩):G Try.prog E (QaY Try.prog) (f219S2 n l far n0 v0 a b blockSize ) :=
 Qe (n:=400) (ds:=[]) (cs:=[]) (live:=[0,1,2,6,7,8]) (m:=2) (evs:=[.b true,.lent [0,1] (.tup []) [⟨true,n0,1,true,(rowI (syX v0 far n0 a (a+blockSize) b)),true⟩,⟨true,0,1,true,[.rsl (rowI far) 0 far.length],false⟩],.stop]) (obs:=_) hE.kind (hE.nogh (by kernel_rfl)) Qg (by kernel_rfl) ho hg
theorem p219_2_1 (n:Int) (l far:List Int) (n0:Nat) (v0:List Int) (a:Int) (b:Int) (blockSize:Int) {E:Env} {rv:AV} {bs2:List Blk} (hE:LentE Try.prog 219 [.sl 1 0 0 0 1] rv bs2 E) (ho:AllP [(decide (b≤n))=false,InR .i64 (a+blockSize),(decide ((a+blockSize)<n))=true,QO Try.prog (.clos 263 [] []) [.sl 0 n0 0 v0.length 1,.int .i64 a,.int .i64 (a+blockSize),.int .i64 n,.clos 170 [] [.ptr 1 0 0]] (yS n0 v0 far) (.tup []) [⟨true,n0,1,true,(rowI (syX v0 far n0 a (a+blockSize) n)),true⟩,⟨true,0,1,true,[.rsl (rowI far) 0 far.length],false⟩],InR .i64 (blockSize*2)])
 (hg:G Try.prog E (QaZ Try.prog) ⟨([.sl 0 n0 0 v0.length 1,.int .i64 n,.clos 170 [] [.ptr 1 0 0],J,J,J,.int .i64 (blockSize*2)]++Js 56),[⟨true,n0,1,true,(rowI (syX v0 far n0 a (a+blockSize) n)),true⟩,⟨true,0,1,true,[.rsl (rowI far) 0 far.length],false⟩]⟩):G Try.prog E (QaY Try.prog) (f219S2 n l far n0 v0 a b blockSize ) :=
 Qe (n:=400) (ds:=[]) (cs:=[]) (live:=[0,1,2,6]) (m:=2) (evs:=[.b false,.b true,.lent [0,1] (.tup []) [⟨true,n0,1,true,(rowI (syX v0 far n0 a (a+blockSize) n)),true⟩,⟨true,0,1,true,[.rsl (rowI far) 0 far.length],false⟩],.stop]) (obs:=_) hE.kind (hE.nogh (by kernel_rfl)) Qg (by kernel_rfl) ho hg
theorem p219_2_2 (n:Int) (l far:List Int) (n0:Nat) (v0:List Int) (a:Int) (b:Int) (blockSize:Int) {E:Env} {rv:AV} {bs2:List Blk} (hE:LentE Try.prog 219 [.sl 1 0 0 0 1] rv bs2 E) (ho:AllP [(decide (b≤n))=false,InR .i64 (a+blockSize),(decide ((a+blockSize)<n))=false,InR .i64 (blockSize*2)])
 (hg:G Try.prog E (QaZ Try.prog) ⟨([.sl 0 n0 0 v0.length 1,.int .i64 n,.clos 170 [] [.ptr 1 0 0],J,J,J,.int .i64 (blockSize*2)]++Js 56),(yS n0 v0 far)⟩):G Try.prog E (QaY Try.prog) (f219S2 n l far n0 v0 a b blockSize ) :=
 Qe (n:=400) (ds:=[]) (cs:=[]) (live:=[0,1,2,6]) (m:=2) (evs:=[.b false,.b false,.stop]) (obs:=_) hE.kind (hE.nogh (by kernel_rfl)) Qg (by kernel_rfl) ho hg
theorem f219W2 (n:Int) (l far:List Int) (n0:Nat) (v0:List Int) (a:Int) (b:Int) (blockSize:Int) {E:Env} {rv:Unit} {lo:List Int} (hE:LentE Try.prog 219 [.sl 1 0 0 0 1] (.tup []) [⟨true,n0,1,true,(rowI lo),true⟩,⟨true,0,1,true,[.rsl (rowI far) 0 far.length],false⟩] E)
 (h:((b≤n→((I6 (a+blockSize))∧((syEx v0 far n0 a (a+blockSize) b)∧((I6 (2*blockSize))∧((I6 (b+(2*blockSize)))∧Qba E n l far n0 (syX v0 far n0 a (a+blockSize) b) b (b+(2*blockSize)) blockSize)))))∧(¬ (b≤n)→((I6 (a+blockSize))∧(((a+blockSize)<n→((syEx v0 far n0 a (a+blockSize) n)∧((I6 (blockSize*2))∧KP E n l far n0 (syX v0 far n0 a (a+blockSize) n) (blockSize*2))))∧(¬ ((a+blockSize)<n)→((I6 (blockSize*2))∧KP E n l far n0 v0 (blockSize*2)))))))):Qba E n l far n0 v0 a b blockSize:=by
 rcases bft (decide (b≤n)) with hc0 | hc0
 · have h:=h.1 (odt hc0)
   obtain ⟨q1_1,h⟩:=h
   obtain ⟨h1,h⟩:=h
   obtain ⟨q3_1,h⟩:=h
   obtain ⟨q4_1,h⟩:=h
   refine p219_2_0 n l far n0 v0 a b blockSize hE ⟨hc0,q1_1,(Qt Try.func263 (by kernel_rfl) Ve (XT h1 (by first | rfl | (simp only [Qx,QH,QN,QG]; done)))),q3_1,q4_1,trivial⟩ ?_
   have h:=h
   simp only [Qba,f219S2,List.length_set,QG] at h
   skip
   exact h
 · have h:=h.2 (odf hc0)
   obtain ⟨q1_1,h⟩:=h
   rcases bft (decide ((a+blockSize)<n)) with hc1 | hc1
   · have h:=h.1 (odt hc1)
     obtain ⟨h1,h⟩:=h
     obtain ⟨q4_2,h⟩:=h
     refine p219_2_1 n l far n0 v0 a b blockSize hE ⟨hc0,q1_1,hc1,(Qt Try.func263 (by kernel_rfl) Ve (XT h1 (by first | rfl | (simp only [Qx,QH,QN,QG]; done)))),q4_2,trivial⟩ ?_
     have h:=h
     simp only [KP,f219S1,List.length_set,QG] at h
     skip
     exact h
   · have h:=h.2 (odf hc1)
     obtain ⟨q3_2,h⟩:=h
     exact p219_2_2 n l far n0 v0 a b blockSize hE ⟨hc0,q1_1,hc1,q3_2,trivial⟩ h
theorem f160b:Try.f160.body=some (Qd Try.prog 160):=by kernel_rfl
noncomputable abbrev z160_1 (n0:Nat) (l:List Int) (far:List Int):List Blk:=[⟨true,n0,1,true,(rowI (stX l far n0 (l.length:Int))),true⟩,⟨true,0,1,true,[.rsl (rowI far) 0 far.length],false⟩]
theorem p160_start_0 (l far:List Int) (n0:Nat) {E:Env} {res:AV} {bs2:List Blk} (hE:LentE Try.prog 160 [.sl 1 0 0 0 1] res bs2 E) (ho:AllP [n0=n0,QO Try.prog (.clos 219 [] []) [.sl 0 n0 0 l.length 1,.int .i64 (l.length:Int),.clos 170 [] [.ptr 1 0 0]] [⟨true,n0,1,true,(rowI l),true⟩,⟨true,0,1,true,[.rsl (rowI far) 0 far.length],false⟩] (.tup []) (z160_1 n0 l far)])
 (hr:(.tup [])=res) (hb:(z160_1 n0 l far)=bs2):G Try.prog E [.code (Qd Try.prog 160)] ⟨[.sl 0 n0 0 l.length 1,.clos 170 [] [.ptr 1 0 0]]++unds (Try.f160.ntmps - 2),[⟨true,n0,1,true,(rowI l),true⟩,⟨true,0,1,true,[.rsl (rowI far) 0 far.length],false⟩]⟩ :=
 Qr (n:=400) (live:=[]) (m:=2) (evs:=[.lent [0,1] (.tup []) (z160_1 n0 l far)]) (obs:=_) hE (hE.nogh (by kernel_rfl)) Try.func160 Qg (by kernel_rfl) ho hr hb
theorem f160W (l far:List Int) (n0:Nat) {E:Env} {rv:Unit} {lo:List Int} (hE:LentE Try.prog 160 [.sl 1 0 0 0 1] (.tup []) [⟨true,n0,1,true,(rowI lo),true⟩,⟨true,0,1,true,[.rsl (rowI far) 0 far.length],false⟩] E)
 (h:((stEx l far n0 (l.length:Int))∧lo=(stX l far n0 (l.length:Int)))):G Try.prog E [.code (Qd Try.prog 160)] ⟨[.sl 0 n0 0 l.length 1,.clos 170 [] [.ptr 1 0 0]]++unds (Try.f160.ntmps - 2),[⟨true,n0,1,true,(rowI l),true⟩,⟨true,0,1,true,[.rsl (rowI far) 0 far.length],false⟩]⟩:=by
 obtain ⟨h1,h⟩:=h
 have qe0:=h
 exact p160_start_0 l far n0 hE ⟨rfl,(Qt Try.func219 (by kernel_rfl) f219b (stX_ok h1 (by first | rfl | (simp only [Qx,QH,QN,QG]; done)))),trivial⟩ (by try rfl) (by rw [qe0]; all_goals (first | rfl | (simp only [List.length_set]; done) | (simp only [List.length_set]; rfl) | (simp only [List.length_set,List.length_replicate]; done)))
theorem st_ex (l far:List Int) (n0:Nat) (n:Int) (hn:n=(l.length:Int)) (hA:AllA far l) (hl:l.length≤100):stEx l far n0 n:=by
 have one:∀ (d:Nat) (v:List Int) (bs:Int),200 - bs≤(d:Int)→20≤bs→bs≤400→AllA far v→v.length=l.length→∃ lo:List Int,lo.Perm v∧∀ E,LentE Try.prog 219 [.sl 1 0 0 0 1] (.tup []) (Xs lo far n0) E→KP E n l far n0 v bs:=by
  intro d
  induction d with
  | zero =>
   intro v bs hd h1 h2 hv hlen
   exact ⟨v,List.Perm.refl _,fun E hE=>f219W1 n l far n0 v bs (rv:=()) hE ⟨fun h=>by omega,fun _=>rfl⟩⟩
  | succ d ih =>
   intro v bs hd h1 h2 hv hlen
   by_cases hb:bs<n
   · have two:∀ (e:Nat) (v:List Int) (a b:Int),n - b≤(e:Int)→0≤a→a+2*bs=b→a≤n→AllA far v→v.length=l.length→∃ lo:List Int,lo.Perm v∧∀ E,LentE Try.prog 219 [.sl 1 0 0 0 1] (.tup []) (Xs lo far n0) E→Qba E n l far n0 v a b bs:=by
      have fin:∀ (v:List Int) (a b:Int),¬ b≤n→0≤a→a+2*bs=b→a≤n→AllA far v→v.length=l.length→∃ lo:List Int,lo.Perm v∧∀ E,LentE Try.prog 219 [.sl 1 0 0 0 1] (.tup []) (Xs lo far n0) E→Qba E n l far n0 v a b bs:=by
       intro v a b hbn h0 hab han hv hlen
       by_cases c:a+bs<n
       · obtain ⟨lo,p,q⟩:=ih (syX v far n0 a (a+bs) n) (bs*2) (by omega) (by omega) (by omega) (hv.perm (YV ..)) (by rw [QG]; exact hlen)
         exact ⟨lo,p.trans (YV ..),fun E hE=>f219W2 n l far n0 v a b bs (rv:=()) hE ⟨fun h=>absurd h hbn,fun _=>⟨⟨by omega,by omega⟩,fun _=>⟨sy_ex far n0 100 v a (a+bs) n (by omega) ⟨h0,by omega,c,by omega⟩ hv (by omega),⟨by omega,by omega⟩,q E hE⟩,fun h=>absurd c h⟩⟩⟩
       · obtain ⟨lo,p,q⟩:=ih v (bs*2) (by omega) (by omega) (by omega) hv hlen
         exact ⟨lo,p,fun E hE=>f219W2 n l far n0 v a b bs (rv:=()) hE ⟨fun h=>absurd h hbn,fun _=>⟨⟨by omega,by omega⟩,fun h=>absurd h c,fun _=>⟨⟨by omega,by omega⟩,q E hE⟩⟩⟩⟩
      intro e
      induction e with
      | zero =>
       intro v a b he h0 hab han hv hlen
       by_cases c:b≤n
       · have hb0:b=n:=by omega
         obtain ⟨lo,p,q⟩:=fin (syX v far n0 a (a+bs) b) b (b+2*bs) (by omega) (by omega) rfl (by omega) (hv.perm (YV ..)) (by rw [QG]; exact hlen)
         exact ⟨lo,p.trans (YV ..),fun E hE=>f219W2 n l far n0 v a b bs (rv:=()) hE ⟨fun _=>⟨⟨by omega,by omega⟩,sy_ex far n0 100 v a (a+bs) b (by omega) ⟨h0,by omega,by omega,by omega⟩ hv (by omega),⟨by omega,by omega⟩,⟨by omega,by omega⟩,q E hE⟩,fun h=>absurd c h⟩⟩
       · exact fin v a b c h0 hab han hv hlen
      | succ e ie =>
       intro v a b he h0 hab han hv hlen
       by_cases c:b≤n
       · obtain ⟨lo,p,q⟩:=ie (syX v far n0 a (a+bs) b) b (b+2*bs) (by omega) (by omega) rfl c (hv.perm (YV ..)) (by rw [QG]; exact hlen)
         exact ⟨lo,p.trans (YV ..),fun E hE=>f219W2 n l far n0 v a b bs (rv:=()) hE ⟨fun _=>⟨⟨by omega,by omega⟩,sy_ex far n0 100 v a (a+bs) b (by omega) ⟨h0,by omega,by omega,by omega⟩ hv (by omega),⟨by omega,by omega⟩,⟨by omega,by omega⟩,q E hE⟩,fun h=>absurd c h⟩⟩
       · exact fin v a b c h0 hab han hv hlen
     obtain ⟨lo,p,q⟩:=two 100 v 0 (2*bs) (by omega) (by omega) (by omega) (by omega) hv hlen
     exact ⟨lo,p,fun E hE=>f219W1 n l far n0 v bs (rv:=()) hE ⟨fun _=>⟨⟨by omega,by omega⟩,q E hE⟩,fun h=>absurd hb h⟩⟩
   · exact ⟨v,List.Perm.refl _,fun E hE=>f219W1 n l far n0 v bs (rv:=()) hE ⟨fun h=>absurd h hb,fun _=>rfl⟩⟩
 have zero:∀ (d:Nat) (v:List Int) (a b:Nat),n - (b:Int)≤(d:Int)→a+20=b→(a:Int)≤n→AllA far v→v.length=l.length→∃ lo:List Int,lo.Perm v∧∀ E,LentE Try.prog 219 [.sl 1 0 0 0 1] (.tup []) (Xs lo far n0) E→Qbb E n l far n0 a b v:=by
  have fin:∀ (v:List Int) (a b:Nat),¬ (b:Int)≤n→(a:Int)≤n→AllA far v→v.length=l.length→∃ lo:List Int,lo.Perm v∧∀ E,LentE Try.prog 219 [.sl 1 0 0 0 1] (.tup []) (Xs lo far n0) E→Qbb E n l far n0 a b v:=by
   intro v a b hbn han hv hlen
   obtain ⟨lo,p,q⟩:=one 200 (in_X v far n0 (a:Int) n) 20 (by omega) (by omega) (by omega) (hv.perm (Vk ..)) (by rw [Qx]; exact hlen)
   exact ⟨lo,p.trans (Vk ..),fun E hE=>f219W0 n l far n0 a b v (rv:=()) hE ⟨fun h=>absurd h hbn,fun _=>⟨in_ex v far n0 _ _ hv (by omega) (by omega) (by omega) (by omega),q E hE⟩⟩⟩
  intro d
  induction d with
  | zero =>
   intro v a b hd hab han hv hlen
   by_cases c:(b:Int)≤n
   · obtain ⟨lo,p,q⟩:=fin (in_X v far n0 (a:Int) (b:Int)) b (b+20) (by omega) c (hv.perm (Vk ..)) (by rw [Qx]; exact hlen)
     exact ⟨lo,p.trans (Vk ..),fun E hE=>f219W0 n l far n0 a b v (rv:=()) hE ⟨fun _=>⟨in_ex v far n0 _ _ hv (by omega) (by omega) (by omega) (by omega),⟨by omega,by omega⟩,q E hE⟩,fun h=>absurd c h⟩⟩
   · exact fin v a b c han hv hlen
  | succ d ih =>
   intro v a b hd hab han hv hlen
   by_cases c:(b:Int)≤n
   · obtain ⟨lo,p,q⟩:=ih (in_X v far n0 (a:Int) (b:Int)) b (b+20) (by omega) rfl c (hv.perm (Vk ..)) (by rw [Qx]; exact hlen)
     exact ⟨lo,p.trans (Vk ..),fun E hE=>f219W0 n l far n0 a b v (rv:=()) hE ⟨fun _=>⟨in_ex v far n0 _ _ hv (by omega) (by omega) (by omega) (by omega),⟨by omega,by omega⟩,q E hE⟩,fun h=>absurd c h⟩⟩
   · exact fin v a b c han hv hlen
 obtain ⟨lo,p,q⟩:=zero 100 l 0 20 (by omega) rfl (by omega) hA rfl
 exact ⟨lo,p,WF _ Try.func219 f219b rfl rfl fun E hE=>f219W n l far n0 (rv:=()) hE (q E hE)⟩
/-- The sort changes nothing but the order. -/
noncomputable def ordX (l far:List Int) (n0:Nat):List Int:=stX l far n0 (l.length:Int)
theorem ordX_perm (l far:List Int) (n0:Nat):(ordX l far n0).Perm l:=stX_perm ..
theorem Qca (l far:List Int) (n0:Nat):(ordX l far n0).length=l.length:=stX_len ..
theorem ord_ok {l far:List Int} {n0 ln:Nat} (h:AllA far l∧l.length≤100) (hn:ln=l.length):Lent Try.prog 160 [.sl 0 n0 0 ln 1,.clos 170 [] [.ptr 1 0 0]] (Xs l far n0) (.tup []) (Xs (ordX l far n0) far n0):=by
 subst hn
 exact WF _ Try.func160 f160b rfl rfl fun E hE=>f160W l far n0 (rv:=()) hE ⟨st_ex l far n0 _ rfl h.1 h.2,rfl⟩
end Go.Proofs.Ytemklbioijmjiaa
namespace Go.Proofs.Ytemklbioijmjiaa
open Go Ax
open Go.Proofs
def outA (far:List Int) (c:Int):Bool:=decide (atI far c≥0)
/-- Whether somebody on c goes on to k. -/
def Xy (far now:List Int) (c k:Int):Bool:=decide (atI far k=atI far c - 1) && decide (atI now k<4)
theorem f169b:Try.f169.body=some (Qd Try.prog 169):=by kernel_rfl
theorem u169 {a c k:List AV} {r:AV} (h:Pure Try.prog 169 (a++c++k) r):Qi Try.prog (.clos 169 a k) c r:=Qk Try.func169 (by kernel_rfl) f169b h
theorem p169_start_0 (c:Int) (far:List Int) (e:Int) {E:Env} {res:AV} (hE:Qh Try.prog 169 res E) (ho:AllP [0≤c∧c<(far.length:Int),((rowI far).drop (0+(Int.toNat c)*1)).take 1=[.int .i64 e]])
 (hr:AvLe (.bool (decide (e≥0))) res):G Try.prog E [.code (Qd Try.prog 169)] ⟨[.int .i64 c,.rptr [.rsl (rowI far) 0 far.length] 0]++unds (Try.f169.ntmps - 2),[]⟩ :=
 Qf (n:=400) (evs:=[.auto,.ld (.int .i64 e)]) (obs:=_) hE Try.func169 Qg (by kernel_rfl) ho hr
theorem f169W (c:Int) (far:List Int) {E:Env} {rv:Bool} (hE:Qh Try.prog 169 (.bool rv) E)
 (h:(0≤c∧(∃ e:Int,far[Int.toNat c]?=some e∧rv=(decide (e≥0))))):G Try.prog E [.code (Qd Try.prog 169)] ⟨[.int .i64 c,.rptr [.rsl (rowI far) 0 far.length] 0]++unds (Try.f169.ntmps - 2),[]⟩:=by
 obtain ⟨h2,h⟩:=h
 obtain ⟨e,h1,h⟩:=h
 exact p169_start_0 c far e hE ⟨(Qj h2 h1),(rp cI 1 0 1 h1),trivial⟩ (AvLe.of_eq (by rw [h]; try rfl))
theorem outA_ok (c:Int) (far:List Int) (h:InA far c):Pure Try.prog 169 [.int .i64 c,.rptr [.rsl (rowI far) 0 far.length] 0] (.bool (outA far c)):=Qy Try.func169 f169b fun E hE =>
 f169W c far (rv:=outA far c) hE ⟨h.1,_,XE h.1 h.2,rfl⟩
theorem f167ob:Try.f167.body=some (Qd Try.prog 167):=by kernel_rfl
def WJ (P:Program):List Item:=kAt 400 [.code (Qd P 167)] [.stop]
def QcE (f:Fld) (far:List Int) (v0:List Int) (i:Nat) (g0:Nat):St:=⟨([J,.clos 169 [] [.rptr [.rsl (rowI far) 0 far.length] 0],J,J,.sl 0 g0 0 v0.length 1]++jj 6 ([.int .i64 (f.g.cells.length:Int),.int .i64 (i:Int)]++Js 11)),[⟨true,g0,1,true,(rowI v0),true⟩]⟩
def KT (E:Env) (f:Fld) (far:List Int) (v0:List Int) (i:Nat):Prop:=∀ g0:Nat,G Try.prog E (WJ Try.prog) (QcE f far v0 i g0)
theorem QbT (f:Fld) (far:List Int) {E:Env} {rv:(List Int)} (hE:PureOE Try.prog 167 rv.length 1 (rowI rv) E) (ho:AllP [])
 (hg:G Try.prog E (WJ Try.prog) ⟨([J,.clos 169 [] [.rptr [.rsl (rowI far) 0 far.length] 0],J,J,.sl 0 0 0 0 1]++jj 6 ([.int .i64 (f.g.cells.length:Int),.int .i64 0]++Js 11)),[⟨true,0,1,true,[],true⟩]⟩):G Try.prog E [.code (Qd Try.prog 167)] ⟨[.rptr [.int .i64 f.g.w,.int .i64 f.g.h,.rsl (rowI f.g.cells) 0 f.g.cells.length,.rsl (rowI f.g.hts) 0 f.g.hts.length,.rsl (Qc f.ps) 0 f.ps.length,.rsl (Qb f.ss) 0 f.ss.length,.rsl (rowI f.tk) 0 f.tk.length] 0,.clos 169 [] [.rptr [.rsl (rowI far) 0 far.length] 0]]++unds (Try.f167.ntmps - 2),[]⟩ :=
 Qe (n:=400) (ds:=[(4,1)]) (cs:=[]) (live:=[1,4,11,12]) (m:=1) (evs:=[.stop]) (obs:=_) hE.kind (hE.nogh _) Qg (by kernel_rfl) ho hg
theorem f167oW (f:Fld) (far:List Int) {E:Env} {rv:(List Int)} (hE:PureOE Try.prog 167 rv.length 1 (rowI rv) E)
 (h:KT E f far ([]) 0):G Try.prog E [.code (Qd Try.prog 167)] ⟨[.rptr [.int .i64 f.g.w,.int .i64 f.g.h,.rsl (rowI f.g.cells) 0 f.g.cells.length,.rsl (rowI f.g.hts) 0 f.g.hts.length,.rsl (Qc f.ps) 0 f.ps.length,.rsl (Qb f.ss) 0 f.ss.length,.rsl (rowI f.tk) 0 f.tk.length] 0,.clos 169 [] [.rptr [.rsl (rowI far) 0 far.length] 0]]++unds (Try.f167.ntmps - 2),[]⟩:=by
 exact QbT f far hE trivial (h 0)
theorem p167o_0_0 (f:Fld) (far:List Int) (v0:List Int) (i:Nat) (g0:Nat) {E:Env} {rv:(List Int)} (hE:PureOE Try.prog 167 rv.length 1 (rowI rv) E) (ho:AllP [(decide ((i:Int)<(f.g.cells.length:Int)))=true,Qi Try.prog (.clos 169 [] [.rptr [.rsl (rowI far) 0 far.length] 0]) [.int .i64 (i:Int)] (.bool (outA far (i:Int))),(outA far (i:Int))=true,g0=g0,(0+(v0.length*1))=(rowI v0).length,(v0.length+1)≤2147483648,0=0,InR .i64 ((i:Int)+1)])
 (hg:G Try.prog E (WJ Try.prog) ⟨([J,.clos 169 [] [.rptr [.rsl (rowI far) 0 far.length] 0],J,J,.sl 0 (g0+1) 0 (v0.length+1) 1]++jj 6 ([.int .i64 (f.g.cells.length:Int),.int .i64 ((i:Int)+1)]++Js 11)),[⟨true,(g0+1),1,true,((rowI v0)++[.int .i64 (i:Int)]),true⟩]⟩):G Try.prog E (WJ Try.prog) (QcE f far v0 i g0) :=
 Qe (n:=400) (ds:=[]) (cs:=[]) (live:=[1,4,11,12]) (m:=1) (evs:=[.b true,.v (.bool (outA far (i:Int))),.b true,.stop]) (obs:=_) hE.kind (hE.nogh _) Qg (by kernel_rfl) ho hg
theorem p167o_0_1 (f:Fld) (far:List Int) (v0:List Int) (i:Nat) (g0:Nat) {E:Env} {rv:(List Int)} (hE:PureOE Try.prog 167 rv.length 1 (rowI rv) E) (ho:AllP [(decide ((i:Int)<(f.g.cells.length:Int)))=true,Qi Try.prog (.clos 169 [] [.rptr [.rsl (rowI far) 0 far.length] 0]) [.int .i64 (i:Int)] (.bool (outA far (i:Int))),(outA far (i:Int))=false,InR .i64 ((i:Int)+1)])
 (hg:G Try.prog E (WJ Try.prog) ⟨([J,.clos 169 [] [.rptr [.rsl (rowI far) 0 far.length] 0],J,J,.sl 0 g0 0 v0.length 1]++jj 6 ([.int .i64 (f.g.cells.length:Int),.int .i64 ((i:Int)+1)]++Js 11)),[⟨true,g0,1,true,(rowI v0),true⟩]⟩):G Try.prog E (WJ Try.prog) (QcE f far v0 i g0) :=
 Qe (n:=400) (ds:=[]) (cs:=[]) (live:=[1,4,11,12]) (m:=1) (evs:=[.b true,.v (.bool (outA far (i:Int))),.b false,.stop]) (obs:=_) hE.kind (hE.nogh _) Qg (by kernel_rfl) ho hg
theorem p167o_0_2 (f:Fld) (far:List Int) (v0:List Int) (i:Nat) (g0:Nat) {E:Env} {len:Nat} {cells:List AV} (hE:PureOE Try.prog 167 len 1 cells E) (ho:AllP [(decide ((i:Int)<(f.g.cells.length:Int)))=false,g0=g0,∀ x ∈ (rowI v0),Xt x=true])
 (hl:v0.length=len) (hc:(rowI v0)=cells):G Try.prog E (WJ Try.prog) (QcE f far v0 i g0) :=
 KZ (n:=400) (evs:=[.b false]) (obs:=_) hE Try.func167 Qg (by kernel_rfl) ho hl hc
theorem f167oW0 (f:Fld) (far:List Int) (v0:List Int) (i:Nat) {E:Env} {rv:(List Int)} (hE:PureOE Try.prog 167 rv.length 1 (rowI rv) E)
 (h:(((i:Int)<(f.g.cells.length:Int)→((InA far (i:Int))∧(((outA far (i:Int))=true→((v0.length+1)≤2147483648∧((I6 ((i:Int)+1))∧KT E f far (v0++[(i:Int)]) (i+1))))∧((outA far (i:Int))=false→((I6 ((i:Int)+1))∧KT E f far v0 (i+1))))))∧(¬ ((i:Int)<(f.g.cells.length:Int))→rv=v0))):KT E f far v0 i:=by
 intro g0
 rcases bft (decide ((i:Int)<(f.g.cells.length:Int))) with hc0 | hc0
 · have h:=h.1 (odt hc0)
   obtain ⟨h1,h⟩:=h
   rcases bft (outA far (i:Int)) with hc1 | hc1
   · have h:=h.1 hc1
     obtain ⟨h2,h⟩:=h
     obtain ⟨q7_2,h⟩:=h
     refine p167o_0_0 f far v0 i g0 hE ⟨hc0,(u169 (outA_ok (i:Int) far h1)),hc1,rfl,(by have hx:=QC cI (s:=1) (fun _=>rfl) v0; simp only [rowI] at hx ⊢; rw [hx]; simp),h2,rfl,q7_2,trivial⟩ ?_
     rw [(show rowI v0++[.int .i64 (i:Int)]=rowI (v0++[(i:Int)]) from (XD cI v0 [(i:Int)]).symm)]; (try rw [(show (v0.length+1)=(v0++[(i:Int)]).length from by simp)]); exact (h (g0+1))
   · have h:=h.2 hc1
     obtain ⟨q3_2,h⟩:=h
     exact p167o_0_1 f far v0 i g0 hE ⟨hc0,(u169 (outA_ok (i:Int) far h1)),hc1,q3_2,trivial⟩ (h g0)
 · have h:=h.2 (odf hc0)
   exact p167o_0_2 f far v0 i g0 hE ⟨hc0,rfl,(Yw _),trivial⟩ (by rw [h]; try rfl) (by rw [h]; try rfl)
theorem f172b:Try.f172.body=some (Qd Try.prog 172):=by kernel_rfl
theorem u172 {a c k:List AV} {r:AV} (h:Pure Try.prog 172 (a++c++k) r):Qi Try.prog (.clos 172 a k) c r:=Qk Try.func172 (by kernel_rfl) f172b h
theorem p172_start_0 (k:Int) (far:List Int) (c:Int) (now:List Int) (e:Int) (e1:Int) (e2:Int) {E:Env} {res:AV} (hE:Qh Try.prog 172 res E) (ho:AllP [0≤k∧k<(far.length:Int),((rowI far).drop (0+(Int.toNat k)*1)).take 1=[.int .i64 e],0≤c∧c<(far.length:Int),((rowI far).drop (0+(Int.toNat c)*1)).take 1=[.int .i64 e1],InR .i64 (e1 - 1),(e == (e1 - 1))=true,0≤k∧k<(now.length:Int),((rowI now).drop (0+(Int.toNat k)*1)).take 1=[.int .i64 e2]])
 (hr:AvLe (.bool (decide (e2<4))) res):G Try.prog E [.code (Qd Try.prog 172)] ⟨[.int .i64 k,.rptr [.rsl (rowI far) 0 far.length] 0,.rptr [.int .i64 c] 0,.rptr [.rsl (rowI now) 0 now.length] 0]++unds (Try.f172.ntmps - 4),[]⟩ :=
 Qf (n:=400) (evs:=[.auto,.ld (.int .i64 e),.auto,.auto,.ld (.int .i64 e1),.b true,.auto,.ld (.int .i64 e2)]) (obs:=_) hE Try.func172 Qg (by kernel_rfl) ho hr
theorem p172_start_1 (k:Int) (far:List Int) (c:Int) (now:List Int) (e:Int) (e1:Int) {E:Env} {res:AV} (hE:Qh Try.prog 172 res E) (ho:AllP [0≤k∧k<(far.length:Int),((rowI far).drop (0+(Int.toNat k)*1)).take 1=[.int .i64 e],0≤c∧c<(far.length:Int),((rowI far).drop (0+(Int.toNat c)*1)).take 1=[.int .i64 e1],InR .i64 (e1 - 1),(e == (e1 - 1))=false])
 (hr:AvLe (.bool false) res):G Try.prog E [.code (Qd Try.prog 172)] ⟨[.int .i64 k,.rptr [.rsl (rowI far) 0 far.length] 0,.rptr [.int .i64 c] 0,.rptr [.rsl (rowI now) 0 now.length] 0]++unds (Try.f172.ntmps - 4),[]⟩ :=
 Qf (n:=400) (evs:=[.auto,.ld (.int .i64 e),.auto,.auto,.ld (.int .i64 e1),.b false]) (obs:=_) hE Try.func172 Qg (by kernel_rfl) ho hr
theorem f172W (k:Int) (far:List Int) (c:Int) (now:List Int) {E:Env} {rv:Bool} (hE:Qh Try.prog 172 (.bool rv) E)
 (h:(0≤k∧(∃ e:Int,far[Int.toNat k]?=some e∧(0≤c∧(∃ e1:Int,far[Int.toNat c]?=some e1∧((I6 (e1 - 1))∧((e=(e1 - 1)→(0≤k∧(∃ e2:Int,now[Int.toNat k]?=some e2∧rv=(decide (e2<4)))))∧(¬ (e=(e1 - 1))→rv=false)))))))):G Try.prog E [.code (Qd Try.prog 172)] ⟨[.int .i64 k,.rptr [.rsl (rowI far) 0 far.length] 0,.rptr [.int .i64 c] 0,.rptr [.rsl (rowI now) 0 now.length] 0]++unds (Try.f172.ntmps - 4),[]⟩:=by
 obtain ⟨h2,h⟩:=h
 obtain ⟨e,h1,h⟩:=h
 obtain ⟨h4,h⟩:=h
 obtain ⟨e1,h3,h⟩:=h
 obtain ⟨q6_0,h⟩:=h
 rcases bft (e == (e1 - 1)) with hc0 | hc0
 · have h:=h.1 (eq_of_beq hc0)
   obtain ⟨h6,h⟩:=h
   obtain ⟨e2,h5,h⟩:=h
   exact p172_start_0 k far c now e e1 e2 hE ⟨(Qj h2 h1),(rp cI 1 0 1 h1),(Qj h4 h3),(rp cI 1 0 1 h3),q6_0,hc0,(Qj h6 h5),(rp cI 1 0 1 h5),trivial⟩ (AvLe.of_eq (by rw [h]; try rfl))
 · have h:=h.2 (ne_of_beq_false hc0)
   exact p172_start_1 k far c now e e1 hE ⟨(Qj h2 h1),(rp cI 1 0 1 h1),(Qj h4 h3),(rp cI 1 0 1 h3),q6_0,hc0,trivial⟩ (AvLe.of_eq (by rw [h]; try rfl))
theorem nextA_ok (k:Int) (far:List Int) (c:Int) (now:List Int) (h:InA far k∧InA far c∧now.length=far.length∧-1≤atI far c∧atI far c≤1000):Pure Try.prog 172 [.int .i64 k,.rptr [.rsl (rowI far) 0 far.length] 0,.rptr [.int .i64 c] 0,.rptr [.rsl (rowI now) 0 now.length] 0] (.bool (Xy far now c k)):=Qy Try.func172 f172b fun E hE=>by
 obtain ⟨hk,hc,hl,h1,h2⟩:=h
 refine f172W k far c now (rv:=Xy far now c k) hE ⟨hk.1,_,XE hk.1 hk.2,hc.1,_,XE hc.1 hc.2,⟨by omega,by omega⟩,fun q=>⟨hk.1,_,XE hk.1 (by rw [hl]; exact hk.2),?_⟩,fun q=>?_⟩
 · unfold Xy; rw [decide_eq_true q]; rfl
 · unfold Xy; rw [decide_eq_false q]; rfl
theorem f59lvb:Try.f59.body=some (Qd Try.prog 59):=by kernel_rfl
def qL (P:Program):List Item:=kAt 400 [.code (Qd P 59)] [.stop]
def Qcv (l:(List Int)) (far:List Int) (c:Int) (now:List Int) (i:Nat):St:=⟨([.rsl (rowI l) 0 l.length,.clos 172 [] [.rptr [.rsl (rowI far) 0 far.length] 0,.rptr [.int .i64 c] 0,.rptr [.rsl (rowI now) 0 now.length] 0]]++jj 5 ([.int .i64 (l.length:Int),.int .i64 (i:Int)]++Js 10)),[]⟩
def Qcw (E:Env) (l:(List Int)) (far:List Int) (c:Int) (now:List Int) (i:Nat):Prop:=G Try.prog E (qL Try.prog) (Qcv l far c now i )
abbrev yP (far:List Int) (c:Int) (now:List Int):List AV:=[.rptr [.rsl (rowI far) 0 far.length] 0,.rptr [.int .i64 c] 0,.rptr [.rsl (rowI now) 0 now.length] 0]
theorem QbF (l:(List Int)) (far:List Int) (c:Int) (now:List Int) {E:Env} {rv:AV} (hE:Qh Try.prog 59 rv E) (ho:AllP [])
 (hg:G Try.prog E (qL Try.prog) ⟨([.rsl (rowI l) 0 l.length,.clos 172 [] (yP far c now)]++jj 5 ([.int .i64 (l.length:Int),.int .i64 0]++Js 10)),[]⟩):G Try.prog E [.code (Qd Try.prog 59)] ⟨[.rsl (rowI l) 0 l.length,.clos 172 [] (yP far c now)]++unds (Try.f59.ntmps - 2),[]⟩ :=
 Qe (n:=400) (ds:=[]) (cs:=[]) (live:=[0,1,7,8]) (m:=0) (evs:=[.stop]) (obs:=_) hE.2.1 (hE.nogh _) Qg (by kernel_rfl) ho hg
theorem f59lvW (l:(List Int)) (far:List Int) (c:Int) (now:List Int) {E:Env} {rv:Int} (hE:Qh Try.prog 59 (.int .i64 rv) E)
 (h:Qcw E l far c now 0):G Try.prog E [.code (Qd Try.prog 59)] ⟨[.rsl (rowI l) 0 l.length,.clos 172 [] [.rptr [.rsl (rowI far) 0 far.length] 0,.rptr [.int .i64 c] 0,.rptr [.rsl (rowI now) 0 now.length] 0]]++unds (Try.f59.ntmps - 2),[]⟩:=by
 exact QbF l far c now hE trivial h
theorem p59lv_0_0 (l:(List Int)) (far:List Int) (c:Int) (now:List Int) (i:Nat) (e:Int) {E:Env} {res:AV} (hE:Qh Try.prog 59 res E) (ho:AllP [(decide ((i:Int)<(l.length:Int)))=true,0≤(i:Int)∧(i:Int)<(l.length:Int),((rowI l).drop (0+(Int.toNat (i:Int))*1)).take 1=[.int .i64 e],Qi Try.prog (.clos 172 [] (yP far c now)) [.int .i64 e] (.bool (Xy far now c e)),(Xy far now c e)=true])
 (hr:AvLe (.int .i64 (i:Int)) res):G Try.prog E (qL Try.prog) (Qcv l far c now i ) :=
 Qf (n:=400) (evs:=[.b true,.ld (.int .i64 e),.v (.bool (Xy far now c e)),.b true]) (obs:=_) hE Try.func59 Qg (by kernel_rfl) ho hr
theorem p59lv_0_1 (l:(List Int)) (far:List Int) (c:Int) (now:List Int) (i:Nat) (e:Int) {E:Env} {rv:AV} (hE:Qh Try.prog 59 rv E) (ho:AllP [(decide ((i:Int)<(l.length:Int)))=true,0≤(i:Int)∧(i:Int)<(l.length:Int),((rowI l).drop (0+(Int.toNat (i:Int))*1)).take 1=[.int .i64 e],Qi Try.prog (.clos 172 [] (yP far c now)) [.int .i64 e] (.bool (Xy far now c e)),(Xy far now c e)=false,InR .i64 ((i:Int)+1)])
 (hg:G Try.prog E (qL Try.prog) ⟨([.rsl (rowI l) 0 l.length,.clos 172 [] (yP far c now)]++jj 5 ([.int .i64 (l.length:Int),.int .i64 ((i:Int)+1)]++Js 10)),[]⟩):G Try.prog E (qL Try.prog) (Qcv l far c now i ) :=
 Qe (n:=400) (ds:=[]) (cs:=[]) (live:=[0,1,7,8]) (m:=0) (evs:=[.b true,.ld (.int .i64 e),.v (.bool (Xy far now c e)),.b false,.stop]) (obs:=_) hE.2.1 (hE.nogh _) Qg (by kernel_rfl) ho hg
theorem p59lv_0_2 (l:(List Int)) (far:List Int) (c:Int) (now:List Int) (i:Nat) {E:Env} {res:AV} (hE:Qh Try.prog 59 res E) (ho:AllP [(decide ((i:Int)<(l.length:Int)))=false])
 (hr:AvLe (.int .i64 (-1)) res):G Try.prog E (qL Try.prog) (Qcv l far c now i ) :=
 Qf (n:=400) (evs:=[.b false]) (obs:=_) hE Try.func59 Qg (by kernel_rfl) ho hr
theorem f59lvW0 (l:(List Int)) (far:List Int) (c:Int) (now:List Int) (i:Nat) {E:Env} {rv:Int} (hE:Qh Try.prog 59 (.int .i64 rv) E)
 (h:(((i:Int)<(l.length:Int)→(∃ e:Int,l[i]?=some e∧((InA far e∧InA far c∧now.length=far.length∧-1≤atI far c∧atI far c≤1000)∧(((Xy far now c e)=true→rv=(i:Int))∧((Xy far now c e)=false→((I6 ((i:Int)+1))∧Qcw E l far c now (i+1)))))))∧(¬ ((i:Int)<(l.length:Int))→rv=(-1)))):Qcw E l far c now i:=by
 rcases bft (decide ((i:Int)<(l.length:Int))) with hc0 | hc0
 · have h:=h.1 (odt hc0)
   obtain ⟨e,h1,h⟩:=h
   obtain ⟨h2,h⟩:=h
   rcases bft (Xy far now c e) with hc1 | hc1
   · have h:=h.1 hc1
     exact p59lv_0_0 l far c now i e hE ⟨hc0,(Qs h1),(rp cI 1 0 1 h1),(u172 (nextA_ok e far c now h2)),hc1,trivial⟩ (AvLe.of_eq (by rw [h]; try rfl))
   · have h:=h.2 hc1
     obtain ⟨q6_2,h⟩:=h
     exact p59lv_0_1 l far c now i e hE ⟨hc0,(Qs h1),(rp cI 1 0 1 h1),(u172 (nextA_ok e far c now h2)),hc1,q6_2,trivial⟩ h
 · have h:=h.2 (odf hc0)
   exact p59lv_0_2 l far c now i hE ⟨hc0,trivial⟩ (AvLe.of_eq (by rw [h]; try rfl))
theorem KA (l:List Int) (far:List Int) (c:Int) (now:List Int) (h:(∀ x ∈ l,InA far x∧InA far c∧now.length=far.length∧-1≤atI far c∧atI far c≤1000)∧l.length≤9223372036854775807):Pure Try.prog 59 [.rsl (rowI l) 0 l.length,.clos 172 [] [.rptr [.rsl (rowI far) 0 far.length] 0,.rptr [.int .i64 c] 0,.rptr [.rsl (rowI now) 0 now.length] 0]] (.int .i64 (idxG (Xy far now c) l)):=Qy Try.func59 f59lvb fun E hE=>by
 have hl:=h.2
 refine f59lvW l far c now (rv:=idxG (Xy far now c) l) hE (YJ (Xy far now c) l l.length 0 (by omega) (fun j x hj=>by omega) (fun i=>Qcw E l far c now i) (fun i hi' h1 h2=>?_) (fun _ h2=>?_))
 · have hx:l[i]?=some l[i]:=List.getElem?_eq_getElem hi'
   have hm:=List.mem_of_getElem? hx
   exact f59lvW0 l far c now i (rv:=idxG (Xy far now c) l) hE ⟨fun _=>⟨_,hx,h.1 _ hm,fun hp=>h1 _ hx (by simpa using hp),fun hp=>⟨by omega,h2 _ hx (by simpa using hp)⟩⟩,fun h=>by omega⟩
 · exact f59lvW0 l far c now _ (rv:=idxG (Xy far now c) l) hE ⟨fun h=>by omega,fun _=>h2⟩
theorem some2_ok (f:Fld) (far:List Int) (h:FldOk f∧far.length=f.g.cells.length):PureO0 Try.prog 167 [.rptr [.int .i64 f.g.w,.int .i64 f.g.h,.rsl (rowI f.g.cells) 0 f.g.cells.length,.rsl (rowI f.g.hts) 0 f.g.hts.length,.rsl (Qc f.ps) 0 f.ps.length,.rsl (Qb f.ss) 0 f.ss.length,.rsl (rowI f.tk) 0 f.tk.length] 0,.clos 169 [] [.rptr [.rsl (rowI far) 0 far.length] 0]] (XA (outA far) f.g.cells.length).length 1 (rowI (XA (outA far) f.g.cells.length)):=QbA Try.func167 f167ob fun E hE=>by
 have hg:=XF h.1.g
 have key:∀ (d i:Nat) (v:List Int),i+d=f.g.cells.length→v.length≤i→v++XV (outA far) d i=XA (outA far) f.g.cells.length→KT E f far v i:=by
  intro d
  induction d with
  | zero =>
   intro i v hd hv hr
   exact f167oW0 f far v i (rv:=XA (outA far) f.g.cells.length) hE ⟨fun q=>by omega,fun _=>by simpa [XV] using hr.symm⟩
  | succ d ih =>
   intro i v hd hv hr
   unfold XV at hr
   refine f167oW0 f far v i (rv:=XA (outA far) f.g.cells.length) hE ⟨fun _=>⟨⟨by omega,by rw [h.2]; omega⟩,fun q=>⟨by omega,⟨by omega,by omega⟩,?_⟩,fun q=>⟨⟨by omega,by omega⟩,?_⟩⟩,fun q=>by omega⟩
   · rw [if_pos q] at hr
     exact ih (i+1) _ (by omega) (by simp; omega) (by rw [List.append_assoc]; exact hr)
   · rw [if_neg (by rw [q]; exact Bool.false_ne_true)] at hr
     exact ih (i+1) v (by omega) (by omega) hr
 exact f167oW f far (rv:=XA (outA far) f.g.cells.length) hE (key f.g.cells.length 0 [] (by omega) (by simp) rfl)
theorem f91b:Try.f91.body=some (Qd Try.prog 91):=by kernel_rfl
theorem u91 {a c k:List AV} {r:AV} (h:Pure Try.prog 91 (a++c++k) r):Qi Try.prog (.clos 91 a k) c r:=Qk Try.func91 (by kernel_rfl) f91b h
def Qcs (P:Program):List Item:=kAt 400 [.code (Qd P 91)] [.b false,.b false,.stop]
def f91S0 (g:Gd) (l:(List Ptc)) (t:(List Sit)) (crowd:(List Int)) (most:Int) (people:Int) (i:Nat):St:=⟨([J,J,J,.rsl (rowI crowd) 0 crowd.length,.int .i64 most]++jj 5 ([.nilSl,J,.rptr [.int .i64 ((((newF g l t).1).g).w),.int .i64 ((((newF g l t).1).g).h),.rsl (rowI ((((newF g l t).1).g).cells)) 0 (((((newF g l t).1).g).cells).length),.rsl (rowI ((((newF g l t).1).g).hts)) 0 (((((newF g l t).1).g).hts).length),.rsl (Qc (((newF g l t).1).ps)) 0 ((((newF g l t).1).ps).length),.rsl (Qb (((newF g l t).1).ss)) 0 ((((newF g l t).1).ss).length),.rsl (rowI (((newF g l t).1).tk)) 0 ((((newF g l t).1).tk).length)] 0,J,.int .i64 people]++jj 31 ([.rsl (rowI crowd) 0 crowd.length,.int .i64 (crowd.length:Int),.int .i64 (i:Int)]++Js 92))),[⟨true,0,1,true,[.int .i64 g.w,.int .i64 g.h,.rsl (rowI g.cells) 0 g.cells.length,.rsl (rowI g.hts) 0 g.hts.length],false⟩]⟩
def f91G0 (E:Env) (g:Gd) (l:(List Ptc)) (t:(List Sit)) (crowd:(List Int)) (most:Int) (people:Int) (i:Nat):Prop:=G Try.prog E (Qcs Try.prog) (f91S0 g l t crowd most people i )
def f91K1 (P:Program):List Item:=kAt 400 [.code (Qd P 91)] [.b false,.b false,.b false,.stop]
def f91S1 (g:Gd) (l:(List Ptc)) (t:(List Sit)) (crowd:(List Int)) (most:Int) (people:Int) (v2:List Int) (v5:List Int) (v3:List Int) (g2:Nat) (g5:Nat) (g3:Nat):St:=⟨([J,J,J,J,.int .i64 most]++jj 5 ([.sl 5 g5 0 v5.length 1,J,.rptr [.int .i64 ((((newF g l t).1).g).w),.int .i64 ((((newF g l t).1).g).h),.rsl (rowI ((((newF g l t).1).g).cells)) 0 (((((newF g l t).1).g).cells).length),.rsl (rowI ((((newF g l t).1).g).hts)) 0 (((((newF g l t).1).g).hts).length),.rsl (Qc (((newF g l t).1).ps)) 0 ((((newF g l t).1).ps).length),.rsl (Qb (((newF g l t).1).ss)) 0 ((((newF g l t).1).ss).length),.rsl (rowI (((newF g l t).1).tk)) 0 ((((newF g l t).1).tk).length)] 0,J,.int .i64 people,J,J,.ptr 1 0 0,.sl 2 g2 0 v2.length 1,.ptr 4 0 0]++Js 121)),[⟨true,0,1,true,[.int .i64 g.w,.int .i64 g.h,.rsl (rowI g.cells) 0 g.cells.length,.rsl (rowI g.hts) 0 g.hts.length],false⟩,⟨true,0,1,true,[.rsl (rowI (farK ((newF g l t).1) (-1))) 0 ((farK ((newF g l t).1) (-1)).length)],false⟩,⟨true,g2,1,true,(rowI v2),true⟩,⟨true,g3,1,true,(rowI v3),true⟩,⟨true,0,1,false,[.sl 3 g3 0 v3.length 1],false⟩,⟨true,g5,1,true,(rowI v5),true⟩]⟩
def f91G1 (E:Env) (g:Gd) (l:(List Ptc)) (t:(List Sit)) (crowd:(List Int)) (most:Int) (people:Int) (v2:List Int) (v5:List Int) (v3:List Int):Prop:=∀ g2 g5 g3:Nat,G Try.prog E (f91K1 Try.prog) (f91S1 g l t crowd most people v2 v5 v3 g2 g5 g3)
def KH (P:Program):List Item:=kAt 400 [.code (Qd P 91)] [.b false,.b false,.b false,.b true,.stop]
def f91S2 (g:Gd) (l:(List Ptc)) (t:(List Sit)) (crowd:(List Int)) (most:Int) (people:Int) (j:Nat) (v2:List Int) (j1:Nat) (v3:List Int) (v5:List Int) (g2:Nat) (g3:Nat) (g5:Nat):St:=⟨([J,J,J,J,.int .i64 most]++jj 5 ([.sl 5 g5 0 v5.length 1,J,.rptr [.int .i64 ((((newF g l t).1).g).w),.int .i64 ((((newF g l t).1).g).h),.rsl (rowI ((((newF g l t).1).g).cells)) 0 (((((newF g l t).1).g).cells).length),.rsl (rowI ((((newF g l t).1).g).hts)) 0 (((((newF g l t).1).g).hts).length),.rsl (Qc (((newF g l t).1).ps)) 0 ((((newF g l t).1).ps).length),.rsl (Qb (((newF g l t).1).ss)) 0 ((((newF g l t).1).ss).length),.rsl (rowI (((newF g l t).1).tk)) 0 ((((newF g l t).1).tk).length)] 0,J,.int .i64 people,J,J,.ptr 1 0 0,.sl 2 g2 0 v2.length 1,.ptr 4 0 0]++jj 68 ([.sl 2 g2 0 v2.length 1,.int .i64 (j:Int),.int .i64 (j1:Int)]++Js 50))),[⟨true,0,1,true,[.int .i64 g.w,.int .i64 g.h,.rsl (rowI g.cells) 0 g.cells.length,.rsl (rowI g.hts) 0 g.hts.length],false⟩,⟨true,0,1,true,[.rsl (rowI (farK ((newF g l t).1) (-1))) 0 ((farK ((newF g l t).1) (-1)).length)],false⟩,⟨true,g2,1,true,(rowI v2),true⟩,⟨true,g3,1,true,(rowI v3),true⟩,⟨true,0,1,false,[.sl 3 g3 0 v3.length 1],false⟩,⟨true,g5,1,true,(rowI v5),true⟩]⟩
def f91G2 (E:Env) (g:Gd) (l:(List Ptc)) (t:(List Sit)) (crowd:(List Int)) (most:Int) (people:Int) (j:Nat) (v2:List Int) (j1:Nat) (v3:List Int) (v5:List Int):Prop:=∀ g2 g3 g5:Nat,G Try.prog E (KH Try.prog) (f91S2 g l t crowd most people j v2 j1 v3 v5 g2 g3 g5)
abbrev WL (g:Gd) (l:(List Ptc)) (t:(List Sit)):List AV:=[.int .i64 ((((newF g l t).1).g).w),.int .i64 ((((newF g l t).1).g).h),.rsl (rowI ((((newF g l t).1).g).cells)) 0 (((((newF g l t).1).g).cells).length),.rsl (rowI ((((newF g l t).1).g).hts)) 0 (((((newF g l t).1).g).hts).length),.rsl (Qc (((newF g l t).1).ps)) 0 ((((newF g l t).1).ps).length),.rsl (Qb (((newF g l t).1).ss)) 0 ((((newF g l t).1).ss).length),.rsl (rowI (((newF g l t).1).tk)) 0 ((((newF g l t).1).tk).length)]
abbrev z91_2 (g:Gd):List AV:=[.int .i64 g.w,.int .i64 g.h,.rsl (rowI g.cells) 0 g.cells.length,.rsl (rowI g.hts) 0 g.hts.length]
abbrev Qam (g:Gd) (l:(List Ptc)) (t:(List Sit)):List AV:=[.rsl (rowI (farK ((newF g l t).1) (-1))) 0 ((farK ((newF g l t).1) (-1)).length)]
abbrev Qal (g:Gd) (l:(List Ptc)) (t:(List Sit)):=XA (outA (farK ((newF g l t).1) (-1))) ((newF g l t).1).g.cells.length
abbrev z91_5 (g:Gd) (l:(List Ptc)) (t:(List Sit)) (g2:Nat) (v2:List Int) (g3:Nat) (v3:List Int) (g5:Nat) (v5:List Int):List Blk:=[⟨true,0,1,true,(z91_2 g),false⟩,⟨true,0,1,true,(Qam g l t),false⟩,⟨true,g2,1,true,(rowI v2),true⟩,⟨true,g3,1,true,(rowI v3),true⟩,⟨true,0,1,false,[.sl 3 g3 0 v3.length 1],false⟩,⟨true,g5,1,true,(rowI v5),true⟩]
abbrev z91_6 (g:Gd) (l:(List Ptc)) (t:(List Sit)) (crowd:(List Int)) (most:Int):List AV:=[.agg (z91_2 g),.rsl (Qc l) 0 l.length,.rsl (Qb t) 0 t.length,.rsl (rowI crowd) 0 crowd.length,.int .i64 most]
abbrev z91_7 (g:Gd) (l:(List Ptc)) (t:(List Sit)):AV:=.tup [.rptr (WL g l t) 0,.int .i64 0,.int .i64 0]
abbrev z91_8 (g:Gd) (l:(List Ptc)) (t:(List Sit)):List AV:=[.agg (z91_2 g),.rsl (Qc l) 0 l.length,.rsl (Qb t) 0 t.length]
theorem p91_start_0 (g:Gd) (l:(List Ptc)) (t:(List Sit)) (crowd:(List Int)) (most:Int) {E:Env} {res:AV} (hE:Qh Try.prog 91 res E) (ho:AllP [Qi Try.prog (.clos 89 [] []) (z91_8 g l t) (z91_7 g l t),false=false,((crowd.length:Int) != (g.cells.length:Int))=true,true=true])
 (hr:AvLe (.tup [.nilSl,.int .i64 1]) res):G Try.prog E [.code (Qd Try.prog 91)] ⟨(z91_6 g l t crowd most)++unds (Try.f91.ntmps - 5),[]⟩ :=
 Qf (n:=400) (evs:=[.v (z91_7 g l t),.b false,.b true,.b true]) (obs:=_) hE Try.func91 Qg (by kernel_rfl) ho hr
theorem p91_start_1 (g:Gd) (l:(List Ptc)) (t:(List Sit)) (crowd:(List Int)) (most:Int) {E:Env} {res:AV} (hE:Qh Try.prog 91 res E) (ho:AllP [Qi Try.prog (.clos 89 [] []) (z91_8 g l t) (z91_7 g l t),false=false,((crowd.length:Int) != (g.cells.length:Int))=false,Qi Try.prog (.clos 129 [] []) [.int .i64 most,.int .i64 0,.int .i64 500] (.bool (Qa most 0 500)),(!(Qa most 0 500))=true])
 (hr:AvLe (.tup [.nilSl,.int .i64 1]) res):G Try.prog E [.code (Qd Try.prog 91)] ⟨(z91_6 g l t crowd most)++unds (Try.f91.ntmps - 5),[]⟩ :=
 Qf (n:=400) (evs:=[.v (z91_7 g l t),.b false,.b false,.v (.bool (Qa most 0 500)),.b true]) (obs:=_) hE Try.func91 Qg (by kernel_rfl) ho hr
theorem p91_start_2 (g:Gd) (l:(List Ptc)) (t:(List Sit)) (crowd:(List Int)) (most:Int) {E:Env} {rv:AV} (hE:Qh Try.prog 91 rv E) (ho:AllP [Qi Try.prog (.clos 89 [] []) (z91_8 g l t) (z91_7 g l t),false=false,((crowd.length:Int) != (g.cells.length:Int))=false,Qi Try.prog (.clos 129 [] []) [.int .i64 most,.int .i64 0,.int .i64 500] (.bool (Qa most 0 500)),(!(Qa most 0 500))=false])
 (hg:G Try.prog E (Qcs Try.prog) ⟨([J,J,J,.rsl (rowI crowd) 0 crowd.length,.int .i64 most]++jj 5 ([.nilSl,J,.rptr (WL g l t) 0,J,.int .i64 0]++jj 31 ([.rsl (rowI crowd) 0 crowd.length,.int .i64 (crowd.length:Int),.int .i64 0]++Js 92))),[⟨true,0,1,true,(z91_2 g),false⟩]⟩):G Try.prog E [.code (Qd Try.prog 91)] ⟨(z91_6 g l t crowd most)++unds (Try.f91.ntmps - 5),[]⟩ :=
 Qe (n:=400) (ds:=[]) (cs:=[]) (live:=[3,4,10,12,14,46,47,48]) (m:=1) (evs:=[.v (z91_7 g l t),.b false,.b false,.v (.bool (Qa most 0 500)),.b false,.stop]) (obs:=_) hE.2.1 (hE.nogh _) Qg (by kernel_rfl) ho hg
theorem p91_start_3 (g:Gd) (l:(List Ptc)) (t:(List Sit)) (crowd:(List Int)) (most:Int) {E:Env} {res:AV} (hE:Qh Try.prog 91 res E) (ho:AllP [Qi Try.prog (.clos 89 [] []) (z91_8 g l t) (.tup [.nilPtr,.int .i64 ((newF g l t).2.1),.int .i64 ((newF g l t).2.2)]),((newF g l t).2.2 != 0)=true])
 (hr:AvLe (.tup [.nilSl,.int .i64 ((newF g l t).2.2)]) res):G Try.prog E [.code (Qd Try.prog 91)] ⟨(z91_6 g l t crowd most)++unds (Try.f91.ntmps - 5),[]⟩ :=
 Qf (n:=400) (evs:=[.v (.tup [.nilPtr,.int .i64 ((newF g l t).2.1),.int .i64 ((newF g l t).2.2)]),.b true]) (obs:=_) hE Try.func91 Qg (by kernel_rfl) ho hr
theorem f91W (g:Gd) (l:(List Ptc)) (t:(List Sit)) (crowd:(List Int)) (most:Int) {E:Env} {rv:((List Int) × Int)} (hE:Qh Try.prog 91 (.tup [.rsl (rowI rv.1) 0 rv.1.length,.int .i64 rv.2]) E)
 (h:(((newF g l t).2.2=0→((GdSmall g∧l.length≤1000∧t.length≤1000)∧((¬ ((crowd.length:Int)=(g.cells.length:Int))→rv=(([]:List Int),1))∧((crowd.length:Int)=(g.cells.length:Int)→(((Qa most 0 500)=false→rv=(([]:List Int),1))∧((Qa most 0 500)=true→f91G0 E g l t crowd most 0 0))))))∧(¬ ((newF g l t).2.2=0)→((GdSmall g∧l.length≤1000∧t.length≤1000)∧rv=(([]:List Int),(newF g l t).2.2))))):G Try.prog E [.code (Qd Try.prog 91)] ⟨[.agg [.int .i64 g.w,.int .i64 g.h,.rsl (rowI g.cells) 0 g.cells.length,.rsl (rowI g.hts) 0 g.hts.length],.rsl (Qc l) 0 l.length,.rsl (Qb t) 0 t.length,.rsl (rowI crowd) 0 crowd.length,.int .i64 most]++unds (Try.f91.ntmps - 5),[]⟩:=by
 rcases bft (decide ((newF g l t).2.2=0)) with hc0 | hc0
 · have h:=h.1 (odt hc0)
   obtain ⟨h1,h⟩:=h
   rcases bft ((crowd.length:Int) != (g.cells.length:Int)) with hc1 | hc1
   · have h:=h.1 (bneT hc1)
     exact p91_start_0 g l t crowd most hE ⟨(Qk Try.func89 (by kernel_rfl) Qap (qG g l t h1 hc0)),rfl,hc1,rfl,trivial⟩ (by rw [h]; exact (yc ⟨qe,⟨AvLe.of_eq rfl,trivial⟩⟩))
   · have h:=h.2 (bneF hc1)
     rcases bft (!(Qa most 0 500)) with hc2 | hc2
     · have h:=h.1 (bnT hc2)
       exact p91_start_1 g l t crowd most hE ⟨(Qk Try.func89 (by kernel_rfl) Qap (qG g l t h1 hc0)),rfl,hc1,(u129 (Qq most 0 500)),hc2,trivial⟩ (by rw [h]; exact (yc ⟨qe,⟨AvLe.of_eq rfl,trivial⟩⟩))
     · have h:=h.2 (bnF hc2)
       exact p91_start_2 g l t crowd most hE ⟨(Qk Try.func89 (by kernel_rfl) Qap (qG g l t h1 hc0)),rfl,hc1,(u129 (Qq most 0 500)),hc2,trivial⟩ h
 · have h:=h.2 (odf hc0)
   obtain ⟨h1,h⟩:=h
   exact p91_start_3 g l t crowd most hE ⟨(Qk Try.func89 (by kernel_rfl) Qap (Qce g l t h1 hc0)),(by have hq:=hc0; simpa using hq),trivial⟩ (by rw [h]; exact (yc ⟨qe,⟨AvLe.of_eq rfl,trivial⟩⟩))
theorem p91_0_0 (g:Gd) (l:(List Ptc)) (t:(List Sit)) (crowd:(List Int)) (most:Int) (people:Int) (i:Nat) (e:Int) {E:Env} {res:AV} (hE:Qh Try.prog 91 res E) (ho:AllP [(decide ((i:Int)<(crowd.length:Int)))=true,0≤(i:Int)∧(i:Int)<(crowd.length:Int),((rowI crowd).drop (0+(Int.toNat (i:Int))*1)).take 1=[.int .i64 e],Qi Try.prog (.clos 129 [] []) [.int .i64 e,.int .i64 0,.int .i64 20] (.bool (Qa e 0 20)),(!(Qa e 0 20))=true,true=true])
 (hr:AvLe (.tup [.nilSl,.int .i64 1]) res):G Try.prog E (Qcs Try.prog) (f91S0 g l t crowd most people i ) :=
 Qf (n:=400) (evs:=[.b true,.ld (.int .i64 e),.v (.bool (Qa e 0 20)),.b true,.b true]) (obs:=_) hE Try.func91 Qg (by kernel_rfl) ho hr
theorem p91_0_1 (g:Gd) (l:(List Ptc)) (t:(List Sit)) (crowd:(List Int)) (most:Int) (people:Int) (i:Nat) (e:Int) {E:Env} {res:AV} (hE:Qh Try.prog 91 res E) (ho:AllP [(decide ((i:Int)<(crowd.length:Int)))=true,0≤(i:Int)∧(i:Int)<(crowd.length:Int),((rowI crowd).drop (0+(Int.toNat (i:Int))*1)).take 1=[.int .i64 e],Qi Try.prog (.clos 129 [] []) [.int .i64 e,.int .i64 0,.int .i64 20] (.bool (Qa e 0 20)),(!(Qa e 0 20))=false,(decide (e > 0))=true,Qi Try.prog (.clos 54 [] []) [.rptr (WL g l t) 0,.int .i64 (i:Int)] (.bool (QF ((newF g l t).1) (i:Int))),(!(QF ((newF g l t).1) (i:Int)))=true])
 (hr:AvLe (.tup [.nilSl,.int .i64 1]) res):G Try.prog E (Qcs Try.prog) (f91S0 g l t crowd most people i ) :=
 Qf (n:=400) (evs:=[.b true,.ld (.int .i64 e),.v (.bool (Qa e 0 20)),.b false,.b true,.v (.bool (QF ((newF g l t).1) (i:Int))),.b true]) (obs:=_) hE Try.func91 Qg (by kernel_rfl) ho hr
theorem p91_0_2 (g:Gd) (l:(List Ptc)) (t:(List Sit)) (crowd:(List Int)) (most:Int) (people:Int) (i:Nat) (e:Int) {E:Env} {rv:AV} (hE:Qh Try.prog 91 rv E) (ho:AllP [(decide ((i:Int)<(crowd.length:Int)))=true,0≤(i:Int)∧(i:Int)<(crowd.length:Int),((rowI crowd).drop (0+(Int.toNat (i:Int))*1)).take 1=[.int .i64 e],Qi Try.prog (.clos 129 [] []) [.int .i64 e,.int .i64 0,.int .i64 20] (.bool (Qa e 0 20)),(!(Qa e 0 20))=false,(decide (e > 0))=true,Qi Try.prog (.clos 54 [] []) [.rptr (WL g l t) 0,.int .i64 (i:Int)] (.bool (QF ((newF g l t).1) (i:Int))),(!(QF ((newF g l t).1) (i:Int)))=false,InR .i64 (people+e),InR .i64 ((i:Int)+1)])
 (hg:G Try.prog E (Qcs Try.prog) ⟨([J,J,J,.rsl (rowI crowd) 0 crowd.length,.int .i64 most]++jj 5 ([.nilSl,J,.rptr (WL g l t) 0,J,.int .i64 (people+e)]++jj 31 ([.rsl (rowI crowd) 0 crowd.length,.int .i64 (crowd.length:Int),.int .i64 ((i:Int)+1)]++Js 92))),[⟨true,0,1,true,(z91_2 g),false⟩]⟩):G Try.prog E (Qcs Try.prog) (f91S0 g l t crowd most people i ) :=
 Qe (n:=400) (ds:=[]) (cs:=[]) (live:=[3,4,10,12,14,46,47,48]) (m:=1) (evs:=[.b true,.ld (.int .i64 e),.v (.bool (Qa e 0 20)),.b false,.b true,.v (.bool (QF ((newF g l t).1) (i:Int))),.b false,.stop]) (obs:=_) hE.2.1 (hE.nogh _) Qg (by kernel_rfl) ho hg
theorem p91_0_3 (g:Gd) (l:(List Ptc)) (t:(List Sit)) (crowd:(List Int)) (most:Int) (people:Int) (i:Nat) (e:Int) {E:Env} {rv:AV} (hE:Qh Try.prog 91 rv E) (ho:AllP [(decide ((i:Int)<(crowd.length:Int)))=true,0≤(i:Int)∧(i:Int)<(crowd.length:Int),((rowI crowd).drop (0+(Int.toNat (i:Int))*1)).take 1=[.int .i64 e],Qi Try.prog (.clos 129 [] []) [.int .i64 e,.int .i64 0,.int .i64 20] (.bool (Qa e 0 20)),(!(Qa e 0 20))=false,(decide (e > 0))=false,false=false,InR .i64 (people+e),InR .i64 ((i:Int)+1)])
 (hg:G Try.prog E (Qcs Try.prog) ⟨([J,J,J,.rsl (rowI crowd) 0 crowd.length,.int .i64 most]++jj 5 ([.nilSl,J,.rptr (WL g l t) 0,J,.int .i64 (people+e)]++jj 31 ([.rsl (rowI crowd) 0 crowd.length,.int .i64 (crowd.length:Int),.int .i64 ((i:Int)+1)]++Js 92))),[⟨true,0,1,true,(z91_2 g),false⟩]⟩):G Try.prog E (Qcs Try.prog) (f91S0 g l t crowd most people i ) :=
 Qe (n:=400) (ds:=[]) (cs:=[]) (live:=[3,4,10,12,14,46,47,48]) (m:=1) (evs:=[.b true,.ld (.int .i64 e),.v (.bool (Qa e 0 20)),.b false,.b false,.b false,.stop]) (obs:=_) hE.2.1 (hE.nogh _) Qg (by kernel_rfl) ho hg
theorem p91_0_4 (g:Gd) (l:(List Ptc)) (t:(List Sit)) (crowd:(List Int)) (most:Int) (people:Int) (i:Nat) {E:Env} {rv:AV} (hE:Qh Try.prog 91 rv E) (ho:AllP [(decide ((i:Int)<(crowd.length:Int)))=false,Qi Try.prog (.clos 166 [] []) [.rptr (WL g l t) 0,.int .i64 (-1)] (.rsl (rowI (farK ((newF g l t).1) (-1))) 0 ((farK ((newF g l t).1) (-1)).length)),1≤1,QO Try.prog (.clos 167 [] []) [.rptr (WL g l t) 0,.clos 169 [] [.ptr 0 0 0]] [⟨true,0,1,true,(Qam g l t),false⟩] (.sl 1 0 0 ((Qal g l t).length) 1) [⟨true,0,1,true,(Qam g l t),false⟩,⟨true,0,1,true,(rowI (Qal g l t)),true⟩],QO Try.prog (.clos 160 [] []) [.sl 0 0 0 ((Qal g l t).length) 1,.clos 170 [] [.ptr 1 0 0]] [⟨true,0,1,true,(rowI (Qal g l t)),true⟩,⟨true,0,1,true,(Qam g l t),false⟩] (.tup []) [⟨true,0,1,true,(rowI (ordX (Qal g l t) (farK ((newF g l t).1) (-1)) 0)),true⟩,⟨true,0,1,true,(Qam g l t),false⟩],QO Try.prog (.clos 171 [] []) [.rsl (rowI crowd) 0 crowd.length] [] (.sl 0 0 0 crowd.length 1) [⟨true,0,1,true,(rowI crowd),true⟩],1≤1])
 (hg:G Try.prog E (f91K1 Try.prog) ⟨([J,J,J,J,.int .i64 most]++jj 5 ([.sl 5 0 0 0 1,J,.rptr (WL g l t) 0,J,.int .i64 people,J,J,.ptr 1 0 0,.sl 2 0 0 ((Qal g l t).length) 1,.ptr 4 0 0]++Js 121)),[⟨true,0,1,true,(z91_2 g),false⟩,⟨true,0,1,true,(Qam g l t),false⟩,⟨true,0,1,true,(rowI (ordX (Qal g l t) (farK ((newF g l t).1) (-1)) 0)),true⟩,⟨true,0,1,true,(rowI crowd),true⟩,⟨true,0,1,false,[.sl 3 0 0 crowd.length 1],false⟩,⟨true,0,1,true,[],true⟩]⟩):G Try.prog E (Qcs Try.prog) (f91S0 g l t crowd most people i ) :=
 Qe (n:=400) (ds:=[(10,1)]) (cs:=[]) (live:=[4,10,12,14,17,18,19]) (m:=6) (evs:=[.b false,.v (.rsl (rowI (farK ((newF g l t).1) (-1))) 0 ((farK ((newF g l t).1) (-1)).length)),.lent [1] (.sl 1 0 0 ((Qal g l t).length) 1) [⟨true,0,1,true,(Qam g l t),false⟩,⟨true,0,1,true,(rowI (Qal g l t)),true⟩],.lent [2,1] (.tup []) [⟨true,0,1,true,(rowI (ordX (Qal g l t) (farK ((newF g l t).1) (-1)) 0)),true⟩,⟨true,0,1,true,(Qam g l t),false⟩],.lent [] (.sl 0 0 0 crowd.length 1) [⟨true,0,1,true,(rowI crowd),true⟩],.stop]) (obs:=_) hE.2.1 (hE.nogh _) Qg (by kernel_rfl) ho hg
theorem f91W0 (g:Gd) (l:(List Ptc)) (t:(List Sit)) (crowd:(List Int)) (most:Int) (people:Int) (i:Nat) {E:Env} {rv:((List Int) × Int)} (hE:Qh Try.prog 91 (.tup [.rsl (rowI rv.1) 0 rv.1.length,.int .i64 rv.2]) E)
 (h:(((i:Int)<(crowd.length:Int)→(∃ e:Int,crowd[i]?=some e∧(((Qa e 0 20)=false→rv=(([]:List Int),1))∧((Qa e 0 20)=true→((e > 0→((OnF ((newF g l t).1) (i:Int))∧(((QF ((newF g l t).1) (i:Int))=false→rv=(([]:List Int),1))∧((QF ((newF g l t).1) (i:Int))=true→((I6 (people+e))∧((I6 ((i:Int)+1))∧f91G0 E g l t crowd most (people+e) (i+1)))))))∧(¬ (e > 0)→((I6 (people+e))∧((I6 ((i:Int)+1))∧f91G0 E g l t crowd most (people+e) (i+1)))))))))∧(¬ ((i:Int)<(crowd.length:Int))→((FldOk ((newF g l t).1))∧((FldOk ((newF g l t).1)∧(farK ((newF g l t).1) (-1)).length=((newF g l t).1).g.cells.length)∧((AllA (farK ((newF g l t).1) (-1)) (XA (outA (farK ((newF g l t).1) (-1))) ((newF g l t).1).g.cells.length)∧(XA (outA (farK ((newF g l t).1) (-1))) ((newF g l t).1).g.cells.length).length≤100)∧((crowd ≠ []∧crowd.length≤2147483648)∧f91G1 E g l t crowd most people (ordX (XA (outA (farK ((newF g l t).1) (-1))) ((newF g l t).1).g.cells.length) (farK ((newF g l t).1) (-1)) 0) ([]) crowd))))))):f91G0 E g l t crowd most people i:=by
 rcases bft (decide ((i:Int)<(crowd.length:Int))) with hc0 | hc0
 · have h:=h.1 (odt hc0)
   obtain ⟨e,h1,h⟩:=h
   rcases bft (!(Qa e 0 20)) with hc1 | hc1
   · have h:=h.1 (bnT hc1)
     exact p91_0_0 g l t crowd most people i e hE ⟨hc0,(Qs h1),(rp cI 1 0 1 h1),(u129 (Qq e 0 20)),hc1,rfl,trivial⟩ (by rw [h]; exact (yc ⟨qe,⟨AvLe.of_eq rfl,trivial⟩⟩))
   · have h:=h.2 (bnF hc1)
     rcases bft (decide (e > 0)) with hc2 | hc2
     · have h:=h.1 (odt hc2)
       obtain ⟨h2,h⟩:=h
       rcases bft (!(QF ((newF g l t).1) (i:Int))) with hc3 | hc3
       · have h:=h.1 (bnT hc3)
         exact p91_0_1 g l t crowd most people i e hE ⟨hc0,(Qs h1),(rp cI 1 0 1 h1),(u129 (Qq e 0 20)),hc1,hc2,(Qk Try.func54 (by kernel_rfl) VI (Xp ((newF g l t).1) (i:Int) h2)),hc3,trivial⟩ (by rw [h]; exact (yc ⟨qe,⟨AvLe.of_eq rfl,trivial⟩⟩))
       · have h:=h.2 (bnF hc3)
         obtain ⟨q9_4,h⟩:=h
         obtain ⟨q10_4,h⟩:=h
         exact p91_0_2 g l t crowd most people i e hE ⟨hc0,(Qs h1),(rp cI 1 0 1 h1),(u129 (Qq e 0 20)),hc1,hc2,(Qk Try.func54 (by kernel_rfl) VI (Xp ((newF g l t).1) (i:Int) h2)),hc3,q9_4,q10_4,trivial⟩ h
     · have h:=h.2 (odf hc2)
       obtain ⟨q8_3,h⟩:=h
       obtain ⟨q9_3,h⟩:=h
       exact p91_0_3 g l t crowd most people i e hE ⟨hc0,(Qs h1),(rp cI 1 0 1 h1),(u129 (Qq e 0 20)),hc1,hc2,rfl,q8_3,q9_3,trivial⟩ h
 · have h:=h.2 (odf hc0)
   obtain ⟨h1,h⟩:=h
   obtain ⟨h2,h⟩:=h
   obtain ⟨h3,h⟩:=h
   obtain ⟨h4,h⟩:=h
   refine p91_0_4 g l t crowd most people i hE ⟨hc0,(u166 (far_ok2 ((newF g l t).1) (-1) h1)),(by decide),(VW (fv':=.clos 167 [] []) (args':=[.rptr [.int .i64 ((((newF g l t).1).g).w),.int .i64 ((((newF g l t).1).g).h),.rsl (rowI ((((newF g l t).1).g).cells)) 0 (((((newF g l t).1).g).cells).length),.rsl (rowI ((((newF g l t).1).g).hts)) 0 (((((newF g l t).1).g).hts).length),.rsl (Qc (((newF g l t).1).ps)) 0 ((((newF g l t).1).ps).length),.rsl (Qb (((newF g l t).1).ss)) 0 ((((newF g l t).1).ss).length),.rsl (rowI (((newF g l t).1).tk)) 0 ((((newF g l t).1).tk).length)] 0,.clos 169 [] [.rptr [.rsl (rowI (farK ((newF g l t).1) (-1))) 0 ((farK ((newF g l t).1) (-1)).length)] 0]]) (o1:=[]) (o2:=[]) (by kernel_rfl) trivial (by kernel_rfl) trivial (Kd Try.func167 (by kernel_rfl) f167ob (some2_ok ((newF g l t).1) (farK ((newF g l t).1) (-1)) h2)) (by decide)),(Qt Try.func160 (by kernel_rfl) f160b (ord_ok h3 (by first | rfl | (simp only [Qca]; done)))),(WC (Vv Try.func171 (by kernel_rfl) f171b (clone_ok crowd h4) (by decide) (Yw crowd)) rfl rfl (by decide)),(by decide),trivial⟩ ?_
   have h:=(h 0 0 0)
   simp only [f91G1,f91S1,List.length_set,Qca] at h
   skip
   exact h
theorem p91_1_0 (g:Gd) (l:(List Ptc)) (t:(List Sit)) (crowd:(List Int)) (most:Int) (people:Int) (v2:List Int) (v5:List Int) (v3:List Int) (g2:Nat) (g5:Nat) (g3:Nat) {E:Env} {rv:AV} (hE:Qh Try.prog 91 rv E) (ho:AllP [g5=g5,(decide ((v5.length:Int)<most))=true,(decide (people > 0))=true,g2=g2])
 (hg:G Try.prog E (KH Try.prog) ⟨([J,J,J,J,.int .i64 most]++jj 5 ([.sl 5 g5 0 v5.length 1,J,.rptr (WL g l t) 0,J,.int .i64 people,J,J,.ptr 1 0 0,.sl 2 g2 0 v2.length 1,.ptr 4 0 0]++jj 68 ([.sl 2 g2 0 v2.length 1,.int .i64 (v2.length:Int),.int .i64 0]++Js 50))),(z91_5 g l t g2 v2 g3 v3 g5 v5)⟩):G Try.prog E (f91K1 Try.prog) (f91S1 g l t crowd most people v2 v5 v3 g2 g5 g3) :=
 Qe (n:=400) (ds:=[]) (cs:=[]) (live:=[4,10,12,14,17,18,19,88,89,90]) (m:=6) (evs:=[.b true,.b true,.stop]) (obs:=_) hE.2.1 (hE.nogh _) Qg (by kernel_rfl) ho hg
theorem p91_1_1 (g:Gd) (l:(List Ptc)) (t:(List Sit)) (crowd:(List Int)) (most:Int) (people:Int) (v2:List Int) (v5:List Int) (v3:List Int) (g2:Nat) (g5:Nat) (g3:Nat) {E:Env} {res:AV} (hE:Qh Try.prog 91 res E) (ho:AllP [g5=g5,(decide ((v5.length:Int)<most))=true,(decide (people > 0))=false,g5=g5])
 (hr:AvLe (.tup [.rsl (rowI v5) 0 v5.length,.int .i64 0]) res):G Try.prog E (f91K1 Try.prog) (f91S1 g l t crowd most people v2 v5 v3 g2 g5 g3) :=
 Qf (n:=400) (evs:=[.b true,.b false]) (obs:=_) hE Try.func91 Qg (by kernel_rfl) ho hr
theorem p91_1_2 (g:Gd) (l:(List Ptc)) (t:(List Sit)) (crowd:(List Int)) (most:Int) (people:Int) (v2:List Int) (v5:List Int) (v3:List Int) (g2:Nat) (g5:Nat) (g3:Nat) {E:Env} {res:AV} (hE:Qh Try.prog 91 res E) (ho:AllP [g5=g5,(decide ((v5.length:Int)<most))=false,false=false,g5=g5])
 (hr:AvLe (.tup [.rsl (rowI v5) 0 v5.length,.int .i64 0]) res):G Try.prog E (f91K1 Try.prog) (f91S1 g l t crowd most people v2 v5 v3 g2 g5 g3) :=
 Qf (n:=400) (evs:=[.b false,.b false]) (obs:=_) hE Try.func91 Qg (by kernel_rfl) ho hr
theorem f91W1 (g:Gd) (l:(List Ptc)) (t:(List Sit)) (crowd:(List Int)) (most:Int) (people:Int) (v2:List Int) (v5:List Int) (v3:List Int) {E:Env} {rv:((List Int) × Int)} (hE:Qh Try.prog 91 (.tup [.rsl (rowI rv.1) 0 rv.1.length,.int .i64 rv.2]) E)
 (h:(((v5.length:Int)<most→((people > 0→f91G2 E g l t crowd most people v2.length v2 0 v3 v5)∧(¬ (people > 0)→rv=(v5,0))))∧(¬ ((v5.length:Int)<most)→rv=(v5,0)))):f91G1 E g l t crowd most people v2 v5 v3:=by
 intro g2 g5 g3
 rcases bft (decide ((v5.length:Int)<most)) with hc0 | hc0
 · have h:=h.1 (odt hc0)
   rcases bft (decide (people > 0)) with hc1 | hc1
   · have h:=h.1 (odt hc1)
     exact p91_1_0 g l t crowd most people v2 v5 v3 g2 g5 g3 hE ⟨rfl,hc0,hc1,rfl,trivial⟩ (h g2 g3 g5)
   · have h:=h.2 (odf hc1)
     exact p91_1_1 g l t crowd most people v2 v5 v3 g2 g5 g3 hE ⟨rfl,hc0,hc1,rfl,trivial⟩ (AvLe.of_eq (by rw [h]; try rfl))
 · have h:=h.2 (odf hc0)
   exact p91_1_2 g l t crowd most people v2 v5 v3 g2 g5 g3 hE ⟨rfl,hc0,rfl,rfl,trivial⟩ (AvLe.of_eq (by rw [h]; try rfl))
theorem p91_2_0 (g:Gd) (l:(List Ptc)) (t:(List Sit)) (crowd:(List Int)) (most:Int) (people:Int) (j:Nat) (v2:List Int) (j1:Nat) (v3:List Int) (v5:List Int) (g2:Nat) (g3:Nat) (g5:Nat) (e:Int) (e1:Int) {E:Env} {rv:AV} (hE:Qh Try.prog 91 rv E) (ho:AllP [(decide ((j1:Int)<(j:Int)))=true,0≤(j1:Int)∧(j1:Int)<(v2.length:Int),g2=g2,g2=g2,((rowI v2).drop (0+(Int.toNat (j1:Int))*1)).take 1=[.int .i64 e],1≤1,0≤e∧e<(v3.length:Int),g3=g3,g3=g3,((rowI v3).drop (0+(Int.toNat e)*1)).take 1=[.int .i64 e1],(e1 == 0)=true,InR .i64 ((j1:Int)+1)])
 (hg:G Try.prog E (KH Try.prog) ⟨([J,J,J,J,.int .i64 most]++jj 5 ([.sl 5 g5 0 v5.length 1,J,.rptr (WL g l t) 0,J,.int .i64 people,J,J,.ptr 1 0 0,.sl 2 g2 0 v2.length 1,.ptr 4 0 0]++jj 68 ([.sl 2 g2 0 v2.length 1,.int .i64 (j:Int),.int .i64 ((j1:Int)+1)]++Js 50))),(z91_5 g l t g2 v2 g3 v3 g5 v5)⟩):G Try.prog E (KH Try.prog) (f91S2 g l t crowd most people j v2 j1 v3 v5 g2 g3 g5) :=
 Qe (n:=400) (ds:=[]) (cs:=[]) (live:=[4,10,12,14,17,18,19,88,89,90]) (m:=6) (evs:=[.b true,.ld (.int .i64 e),.auto,.auto,.ld (.int .i64 e1),.b true,.stop]) (obs:=_) hE.2.1 (hE.nogh _) Qg (by kernel_rfl) ho hg
theorem p91_2_1 (g:Gd) (l:(List Ptc)) (t:(List Sit)) (crowd:(List Int)) (most:Int) (people:Int) (j:Nat) (v2:List Int) (j1:Nat) (v3:List Int) (v5:List Int) (g2:Nat) (g3:Nat) (g5:Nat) (e:Int) (e1:Int) (e2:Int) {E:Env} {rv:AV} (hE:Qh Try.prog 91 rv E) (ho:AllP [(decide ((j1:Int)<(j:Int)))=true,0≤(j1:Int)∧(j1:Int)<(v2.length:Int),g2=g2,g2=g2,((rowI v2).drop (0+(Int.toNat (j1:Int))*1)).take 1=[.int .i64 e],1≤1,0≤e∧e<(v3.length:Int),g3=g3,g3=g3,((rowI v3).drop (0+(Int.toNat e)*1)).take 1=[.int .i64 e1],(e1 == 0)=false,0≤e∧e<(((farK ((newF g l t).1) (-1)).length:Nat):Int),((rowI (farK ((newF g l t).1) (-1))).drop (0+(Int.toNat e)*1)).take 1=[.int .i64 e2],(e2 == 0)=true,0≤e∧e<(v3.length:Int),g3=g3,g3=g3,((rowI v3).drop (0+(Int.toNat e)*1)).take 1=[.int .i64 e1],InR .i64 (e1 - 1),0≤e∧e<(v3.length:Int),g3=g3,((0+(Int.toNat e)*1)+1)≤(rowI v3).length,g3=g3,InR .i64 (people - 1),InR .i64 ((j1:Int)+1)])
 (hg:G Try.prog E (KH Try.prog) ⟨([J,J,J,J,.int .i64 most]++jj 5 ([.sl 5 g5 0 v5.length 1,J,.rptr (WL g l t) 0,J,.int .i64 (people - 1),J,J,.ptr 1 0 0,.sl 2 g2 0 v2.length 1,.ptr 4 0 0]++jj 68 ([.sl 2 g2 0 v2.length 1,.int .i64 (j:Int),.int .i64 ((j1:Int)+1)]++Js 50))),[⟨true,0,1,true,(z91_2 g),false⟩,⟨true,0,1,true,(Qam g l t),false⟩,⟨true,g2,1,true,(rowI v2),true⟩,⟨true,g3,1,true,(Qu (rowI v3) (0+(Int.toNat e)*1) [.int .i64 (e1 - 1)]),true⟩,⟨true,0,1,false,[.sl 3 g3 0 v3.length 1],false⟩,⟨true,g5,1,true,(rowI v5),true⟩]⟩):G Try.prog E (KH Try.prog) (f91S2 g l t crowd most people j v2 j1 v3 v5 g2 g3 g5) :=
 Qe (n:=400) (ds:=[]) (cs:=[]) (live:=[4,10,12,14,17,18,19,88,89,90]) (m:=6) (evs:=[.b true,.ld (.int .i64 e),.auto,.auto,.ld (.int .i64 e1),.b false,.auto,.auto,.ld (.int .i64 e2),.b true,.auto,.auto,.ld (.int .i64 e1),.stop]) (obs:=_) hE.2.1 (hE.nogh _) Qg (by kernel_rfl) ho hg
theorem p91_2_2 (g:Gd) (l:(List Ptc)) (t:(List Sit)) (crowd:(List Int)) (most:Int) (people:Int) (j:Nat) (v2:List Int) (j1:Nat) (v3:List Int) (v5:List Int) (g2:Nat) (g3:Nat) (g5:Nat) (e:Int) (e1:Int) (e2:Int) (e3:Int) (e4:Int) {E:Env} {rv:AV} (hE:Qh Try.prog 91 rv E) (ho:AllP [(decide ((j1:Int)<(j:Int)))=true,0≤(j1:Int)∧(j1:Int)<(v2.length:Int),g2=g2,g2=g2,((rowI v2).drop (0+(Int.toNat (j1:Int))*1)).take 1=[.int .i64 e],1≤1,0≤e∧e<(v3.length:Int),g3=g3,g3=g3,((rowI v3).drop (0+(Int.toNat e)*1)).take 1=[.int .i64 e1],(e1 == 0)=false,0≤e∧e<(((farK ((newF g l t).1) (-1)).length:Nat):Int),((rowI (farK ((newF g l t).1) (-1))).drop (0+(Int.toNat e)*1)).take 1=[.int .i64 e2],(e2 == 0)=false,Qi Try.prog (.clos 57 [] []) [.rptr [.int .i64 ((((newF g l t).1).g).w),.int .i64 ((((newF g l t).1).g).h),.rsl (rowI ((((newF g l t).1).g).cells)) 0 (((((newF g l t).1).g).cells).length),.rsl (rowI ((((newF g l t).1).g).hts)) 0 (((((newF g l t).1).g).hts).length),.rsl (Qc (((newF g l t).1).ps)) 0 ((((newF g l t).1).ps).length),.rsl (Qb (((newF g l t).1).ss)) 0 ((((newF g l t).1).ss).length),.rsl (rowI (((newF g l t).1).tk)) 0 ((((newF g l t).1).tk).length)] 0,.int .i64 e] (.rsl (rowI (Ql ((newF g l t).1).g e)) 0 ((Ql ((newF g l t).1).g e).length)),Qi Try.prog (.clos 59 [] []) [.rsl (rowI (Ql ((newF g l t).1).g e)) 0 ((Ql ((newF g l t).1).g e).length),.clos 172 [] [.rptr [.rsl (rowI (farK ((newF g l t).1) (-1))) 0 ((farK ((newF g l t).1) (-1)).length)] 0,.rptr [.int .i64 e] 0,.rptr [.rsl (rowI v3) 0 v3.length] 0]] (.int .i64 (idxG (Xy (farK ((newF g l t).1) (-1)) v3 e) (Ql ((newF g l t).1).g e))),g3=g3,(decide ((idxG (Xy (farK ((newF g l t).1) (-1)) v3 e) (Ql ((newF g l t).1).g e))≥0))=true,0≤e∧e<(v3.length:Int),g3=g3,g3=g3,((rowI v3).drop (0+(Int.toNat e)*1)).take 1=[.int .i64 e1],InR .i64 (e1 - 1),0≤e∧e<(v3.length:Int),g3=g3,((0+(Int.toNat e)*1)+1)≤(rowI v3).length,g3=g3,0≤(idxG (Xy (farK ((newF g l t).1) (-1)) v3 e) (Ql ((newF g l t).1).g e))∧(idxG (Xy (farK ((newF g l t).1) (-1)) v3 e) (Ql ((newF g l t).1).g e))<(((Ql ((newF g l t).1).g e).length:Nat):Int),((rowI (Ql ((newF g l t).1).g e)).drop (0+(Int.toNat (idxG (Xy (farK ((newF g l t).1) (-1)) v3 e) (Ql ((newF g l t).1).g e)))*1)).take 1=[.int .i64 e3],0≤e3∧e3<(v3.length:Int),g3=g3,g3=g3,((Qu (rowI v3) (0+(Int.toNat e)*1) [.int .i64 (e1 - 1)]).drop (0+(Int.toNat e3)*1)).take 1=[.int .i64 e4],InR .i64 (e4+1),0≤e3∧e3<(v3.length:Int),g3=g3,((0+(Int.toNat e3)*1)+1)≤(Qu (rowI v3) (0+(Int.toNat e)*1) [.int .i64 (e1 - 1)]).length,g3=g3,InR .i64 ((j1:Int)+1)])
 (hg:G Try.prog E (KH Try.prog) ⟨([J,J,J,J,.int .i64 most]++jj 5 ([.sl 5 g5 0 v5.length 1,J,.rptr [.int .i64 ((((newF g l t).1).g).w),.int .i64 ((((newF g l t).1).g).h),.rsl (rowI ((((newF g l t).1).g).cells)) 0 (((((newF g l t).1).g).cells).length),.rsl (rowI ((((newF g l t).1).g).hts)) 0 (((((newF g l t).1).g).hts).length),.rsl (Qc (((newF g l t).1).ps)) 0 ((((newF g l t).1).ps).length),.rsl (Qb (((newF g l t).1).ss)) 0 ((((newF g l t).1).ss).length),.rsl (rowI (((newF g l t).1).tk)) 0 ((((newF g l t).1).tk).length)] 0,J,.int .i64 people,J,J,.ptr 1 0 0,.sl 2 g2 0 v2.length 1,.ptr 4 0 0]++jj 68 ([.sl 2 g2 0 v2.length 1,.int .i64 (j:Int),.int .i64 ((j1:Int)+1)]++Js 50))),[⟨true,0,1,true,[.int .i64 g.w,.int .i64 g.h,.rsl (rowI g.cells) 0 g.cells.length,.rsl (rowI g.hts) 0 g.hts.length],false⟩,⟨true,0,1,true,[.rsl (rowI (farK ((newF g l t).1) (-1))) 0 ((farK ((newF g l t).1) (-1)).length)],false⟩,⟨true,g2,1,true,(rowI v2),true⟩,⟨true,g3,1,true,(Qu (Qu (rowI v3) (0+(Int.toNat e)*1) [.int .i64 (e1 - 1)]) (0+(Int.toNat e3)*1) [.int .i64 (e4+1)]),true⟩,⟨true,0,1,false,[.sl 3 g3 0 v3.length 1],false⟩,⟨true,g5,1,true,(rowI v5),true⟩]⟩):G Try.prog E (KH Try.prog) (f91S2 g l t crowd most people j v2 j1 v3 v5 g2 g3 g5) :=
 Qe (n:=400) (ds:=[]) (cs:=[]) (live:=[4,10,12,14,17,18,19,88,89,90]) (m:=6) (evs:=[.b true,.ld (.int .i64 e),.auto,.auto,.ld (.int .i64 e1),.b false,.auto,.auto,.ld (.int .i64 e2),.b false,.v (.rsl (rowI (Ql ((newF g l t).1).g e)) 0 ((Ql ((newF g l t).1).g e).length)),.v (.int .i64 (idxG (Xy (farK ((newF g l t).1) (-1)) v3 e) (Ql ((newF g l t).1).g e))),.b true,.auto,.auto,.ld (.int .i64 e1),.auto,.ld (.int .i64 e3),.ld (.int .i64 e4),.stop]) (obs:=_) hE.2.1 (hE.nogh _) Qg (by kernel_rfl) ho hg
theorem p91_2_3 (g:Gd) (l:(List Ptc)) (t:(List Sit)) (crowd:(List Int)) (most:Int) (people:Int) (j:Nat) (v2:List Int) (j1:Nat) (v3:List Int) (v5:List Int) (g2:Nat) (g3:Nat) (g5:Nat) (e:Int) (e1:Int) (e2:Int) {E:Env} {rv:AV} (hE:Qh Try.prog 91 rv E) (ho:AllP [(decide ((j1:Int)<(j:Int)))=true,0≤(j1:Int)∧(j1:Int)<(v2.length:Int),g2=g2,g2=g2,((rowI v2).drop (0+(Int.toNat (j1:Int))*1)).take 1=[.int .i64 e],1≤1,0≤e∧e<(v3.length:Int),g3=g3,g3=g3,((rowI v3).drop (0+(Int.toNat e)*1)).take 1=[.int .i64 e1],(e1 == 0)=false,0≤e∧e<(((farK ((newF g l t).1) (-1)).length:Nat):Int),((rowI (farK ((newF g l t).1) (-1))).drop (0+(Int.toNat e)*1)).take 1=[.int .i64 e2],(e2 == 0)=false,Qi Try.prog (.clos 57 [] []) [.rptr (WL g l t) 0,.int .i64 e] (.rsl (rowI (Ql ((newF g l t).1).g e)) 0 ((Ql ((newF g l t).1).g e).length)),Qi Try.prog (.clos 59 [] []) [.rsl (rowI (Ql ((newF g l t).1).g e)) 0 ((Ql ((newF g l t).1).g e).length),.clos 172 [] [.rptr (Qam g l t) 0,.rptr [.int .i64 e] 0,.rptr [.rsl (rowI v3) 0 v3.length] 0]] (.int .i64 (idxG (Xy (farK ((newF g l t).1) (-1)) v3 e) (Ql ((newF g l t).1).g e))),g3=g3,(decide ((idxG (Xy (farK ((newF g l t).1) (-1)) v3 e) (Ql ((newF g l t).1).g e))≥0))=false,InR .i64 ((j1:Int)+1)])
 (hg:G Try.prog E (KH Try.prog) ⟨([J,J,J,J,.int .i64 most]++jj 5 ([.sl 5 g5 0 v5.length 1,J,.rptr (WL g l t) 0,J,.int .i64 people,J,J,.ptr 1 0 0,.sl 2 g2 0 v2.length 1,.ptr 4 0 0]++jj 68 ([.sl 2 g2 0 v2.length 1,.int .i64 (j:Int),.int .i64 ((j1:Int)+1)]++Js 50))),(z91_5 g l t g2 v2 g3 v3 g5 v5)⟩):G Try.prog E (KH Try.prog) (f91S2 g l t crowd most people j v2 j1 v3 v5 g2 g3 g5) :=
 Qe (n:=400) (ds:=[]) (cs:=[]) (live:=[4,10,12,14,17,18,19,88,89,90]) (m:=6) (evs:=[.b true,.ld (.int .i64 e),.auto,.auto,.ld (.int .i64 e1),.b false,.auto,.auto,.ld (.int .i64 e2),.b false,.v (.rsl (rowI (Ql ((newF g l t).1).g e)) 0 ((Ql ((newF g l t).1).g e).length)),.v (.int .i64 (idxG (Xy (farK ((newF g l t).1) (-1)) v3 e) (Ql ((newF g l t).1).g e))),.b false,.stop]) (obs:=_) hE.2.1 (hE.nogh _) Qg (by kernel_rfl) ho hg
theorem p91_2_4 (g:Gd) (l:(List Ptc)) (t:(List Sit)) (crowd:(List Int)) (most:Int) (people:Int) (j:Nat) (v2:List Int) (j1:Nat) (v3:List Int) (v5:List Int) (g2:Nat) (g3:Nat) (g5:Nat) {E:Env} {rv:AV} (hE:Qh Try.prog 91 rv E) (ho:AllP [(decide ((j1:Int)<(j:Int)))=false,g5=g5,(0+(v5.length*1))=(rowI v5).length,(v5.length+1)≤2147483648,0=0])
 (hg:G Try.prog E (f91K1 Try.prog) ⟨([J,J,J,J,.int .i64 most]++jj 5 ([.sl 5 (g5+1) 0 (v5.length+1) 1,J,.rptr [.int .i64 ((((newF g l t).1).g).w),.int .i64 ((((newF g l t).1).g).h),.rsl (rowI ((((newF g l t).1).g).cells)) 0 (((((newF g l t).1).g).cells).length),.rsl (rowI ((((newF g l t).1).g).hts)) 0 (((((newF g l t).1).g).hts).length),.rsl (Qc (((newF g l t).1).ps)) 0 ((((newF g l t).1).ps).length),.rsl (Qb (((newF g l t).1).ss)) 0 ((((newF g l t).1).ss).length),.rsl (rowI (((newF g l t).1).tk)) 0 ((((newF g l t).1).tk).length)] 0,J,.int .i64 people,J,J,.ptr 1 0 0,.sl 2 g2 0 v2.length 1,.ptr 4 0 0]++Js 121)),[⟨true,0,1,true,[.int .i64 g.w,.int .i64 g.h,.rsl (rowI g.cells) 0 g.cells.length,.rsl (rowI g.hts) 0 g.hts.length],false⟩,⟨true,0,1,true,[.rsl (rowI (farK ((newF g l t).1) (-1))) 0 ((farK ((newF g l t).1) (-1)).length)],false⟩,⟨true,g2,1,true,(rowI v2),true⟩,⟨true,g3,1,true,(rowI v3),true⟩,⟨true,0,1,false,[.sl 3 g3 0 v3.length 1],false⟩,⟨true,(g5+1),1,true,((rowI v5)++[.int .i64 people]),true⟩]⟩):G Try.prog E (KH Try.prog) (f91S2 g l t crowd most people j v2 j1 v3 v5 g2 g3 g5) :=
 Qe (n:=400) (ds:=[]) (cs:=[]) (live:=[4,10,12,14,17,18,19]) (m:=6) (evs:=[.b false,.stop]) (obs:=_) hE.2.1 (hE.nogh _) Qg (by kernel_rfl) ho hg
theorem f91W2 (g:Gd) (l:(List Ptc)) (t:(List Sit)) (crowd:(List Int)) (most:Int) (people:Int) (j:Nat) (v2:List Int) (j1:Nat) (v3:List Int) (v5:List Int) {E:Env} {rv:((List Int) × Int)} (hE:Qh Try.prog 91 (.tup [.rsl (rowI rv.1) 0 rv.1.length,.int .i64 rv.2]) E)
 (h:(((j1:Int)<(j:Int)→(∃ e:Int,v2[j1]?=some e∧(0≤e∧(∃ e1:Int,v3[Int.toNat e]?=some e1∧((e1=0→((I6 ((j1:Int)+1))∧f91G2 E g l t crowd most people j v2 (j1+1) v3 v5))∧(¬ (e1=0)→(0≤e∧(∃ e2:Int,(farK ((newF g l t).1) (-1))[Int.toNat e]?=some e2∧((e2=0→((I6 (e1 - 1))∧((I6 (people - 1))∧((I6 ((j1:Int)+1))∧f91G2 E g l t crowd most (people - 1) j v2 (j1+1) (v3.set (Int.toNat e) (e1 - 1)) v5))))∧(¬ (e2=0)→((OnF ((newF g l t).1) e)∧(((∀ x ∈ (Ql ((newF g l t).1).g e),InA (farK ((newF g l t).1) (-1)) x∧InA (farK ((newF g l t).1) (-1)) e∧v3.length=(farK ((newF g l t).1) (-1)).length∧-1≤atI (farK ((newF g l t).1) (-1)) e∧atI (farK ((newF g l t).1) (-1)) e≤1000)∧(Ql ((newF g l t).1).g e).length≤9223372036854775807)∧(((idxG (Xy (farK ((newF g l t).1) (-1)) v3 e) (Ql ((newF g l t).1).g e))≥0→((I6 (e1 - 1))∧(0≤(idxG (Xy (farK ((newF g l t).1) (-1)) v3 e) (Ql ((newF g l t).1).g e))∧(∃ e3:Int,(Ql ((newF g l t).1).g e)[Int.toNat (idxG (Xy (farK ((newF g l t).1) (-1)) v3 e) (Ql ((newF g l t).1).g e))]?=some e3∧(0≤e3∧(∃ e4:Int,(v3.set (Int.toNat e) (e1 - 1))[Int.toNat e3]?=some e4∧((I6 (e4+1))∧((I6 ((j1:Int)+1))∧f91G2 E g l t crowd most people j v2 (j1+1) ((v3.set (Int.toNat e) (e1 - 1)).set (Int.toNat e3) (e4+1)) v5))))))))∧(¬ ((idxG (Xy (farK ((newF g l t).1) (-1)) v3 e) (Ql ((newF g l t).1).g e))≥0)→((I6 ((j1:Int)+1))∧f91G2 E g l t crowd most people j v2 (j1+1) v3 v5)))))))))))))))∧(¬ ((j1:Int)<(j:Int))→((v5.length+1)≤2147483648∧f91G1 E g l t crowd most people v2 (v5++[people]) v3)))):f91G2 E g l t crowd most people j v2 j1 v3 v5:=by
 intro g2 g3 g5
 rcases bft (decide ((j1:Int)<(j:Int))) with hc0 | hc0
 · have h:=h.1 (odt hc0)
   obtain ⟨e,h1,h⟩:=h
   obtain ⟨h3,h⟩:=h
   obtain ⟨e1,h2,h⟩:=h
   rcases bft (e1 == 0) with hc1 | hc1
   · have h:=h.1 (eq_of_beq hc1)
     obtain ⟨q13_2,h⟩:=h
     exact p91_2_0 g l t crowd most people j v2 j1 v3 v5 g2 g3 g5 e e1 hE ⟨hc0,(Qs h1),rfl,rfl,(rp cI 1 0 1 h1),(by decide),(Qj h3 h2),rfl,rfl,(rp cI 1 0 1 h2),hc1,q13_2,trivial⟩ (h g2 g3 g5)
   · have h:=h.2 (ne_of_beq_false hc1)
     obtain ⟨h5,h⟩:=h
     obtain ⟨e2,h4,h⟩:=h
     rcases bft (e2 == 0) with hc2 | hc2
     · have h:=h.1 (eq_of_beq hc2)
       obtain ⟨q21_3,h⟩:=h
       obtain ⟨q26_3,h⟩:=h
       obtain ⟨q27_3,h⟩:=h
       refine p91_2_1 g l t crowd most people j v2 j1 v3 v5 g2 g3 g5 e e1 e2 hE ⟨hc0,(Qs h1),rfl,rfl,(rp cI 1 0 1 h1),(by decide),(Qj h3 h2),rfl,rfl,(rp cI 1 0 1 h2),hc1,(Qj h5 h4),(rp cI 1 0 1 h4),hc2,(Qj h3 h2),rfl,rfl,(rp cI 1 0 1 h2),q21_3,(Qj h3 h2),rfl,(rf cI 1 0 1 h2),rfl,q26_3,q27_3,trivial⟩ ?_
       have h:=(h g2 g3 g5)
       simp only [f91S2,List.length_set] at h
       rw [(show Qu (rowI v3) (0+(Int.toNat e)*1) [.int .i64 (e1 - 1)]=rowI (v3.set (Int.toNat e) (e1 - 1)) from Qz cI (s:=1) (k:=0) (fun _=>rfl) h2 rfl (by first | decide | simp))]
       exact h
     · have h:=h.2 (ne_of_beq_false hc2)
       obtain ⟨h6,h⟩:=h
       obtain ⟨h7,h⟩:=h
       rcases bft (decide ((idxG (Xy (farK ((newF g l t).1) (-1)) v3 e) (Ql ((newF g l t).1).g e))≥0)) with hc3 | hc3
       · have h:=h.1 (odt hc3)
         obtain ⟨q25_4,h⟩:=h
         obtain ⟨h9,h⟩:=h
         obtain ⟨e3,h8,h⟩:=h
         obtain ⟨h11,h⟩:=h
         obtain ⟨e4,h10,h⟩:=h
         obtain ⟨q38_4,h⟩:=h
         obtain ⟨q43_4,h⟩:=h
         refine p91_2_2 g l t crowd most people j v2 j1 v3 v5 g2 g3 g5 e e1 e2 e3 e4 hE ⟨hc0,(Qs h1),rfl,rfl,(rp cI 1 0 1 h1),(by decide),(Qj h3 h2),rfl,rfl,(rp cI 1 0 1 h2),hc1,(Qj h5 h4),(rp cI 1 0 1 h4),hc2,(Qk Try.func57 (by kernel_rfl) f57qb (Wu ((newF g l t).1) e h6)),(Qk Try.func59 (by kernel_rfl) f59lvb (KA (Ql ((newF g l t).1).g e) (farK ((newF g l t).1) (-1)) e v3 h7)),rfl,hc3,(Qj h3 h2),rfl,rfl,(rp cI 1 0 1 h2),q25_4,(Qj h3 h2),rfl,(rf cI 1 0 1 h2),rfl,(Qj h9 h8),(rp cI 1 0 1 h8),(by have hx:=Qj h11 h10; simpa using hx),rfl,rfl,(by rw [(show Qu (rowI v3) (0+(Int.toNat e)*1) [.int .i64 (e1 - 1)]=rowI (v3.set (Int.toNat e) (e1 - 1)) from Qz cI (s:=1) (k:=0) (fun _=>rfl) h2 rfl (by first | decide | simp))]; exact rp cI 1 0 1 h10),q38_4,(by have hx:=Qj h11 h10; simpa using hx),rfl,(by rw [(show Qu (rowI v3) (0+(Int.toNat e)*1) [.int .i64 (e1 - 1)]=rowI (v3.set (Int.toNat e) (e1 - 1)) from Qz cI (s:=1) (k:=0) (fun _=>rfl) h2 rfl (by first | decide | simp))]; exact rf cI 1 0 1 h10),rfl,q43_4,trivial⟩ ?_
         have h:=(h g2 g3 g5)
         simp only [f91S2,List.length_set] at h
         rw [(show Qu (rowI v3) (0+(Int.toNat e)*1) [.int .i64 (e1 - 1)]=rowI (v3.set (Int.toNat e) (e1 - 1)) from Qz cI (s:=1) (k:=0) (fun _=>rfl) h2 rfl (by first | decide | simp))]; rw [(show Qu (rowI (v3.set (Int.toNat e) (e1 - 1))) (0+(Int.toNat e3)*1) [.int .i64 (e4+1)]=rowI ((v3.set (Int.toNat e) (e1 - 1)).set (Int.toNat e3) (e4+1)) from Qz cI (s:=1) (k:=0) (fun _=>rfl) h10 rfl (by first | decide | simp))]
         exact h
       · have h:=h.2 (odf hc3)
         obtain ⟨q21_4,h⟩:=h
         exact p91_2_3 g l t crowd most people j v2 j1 v3 v5 g2 g3 g5 e e1 e2 hE ⟨hc0,(Qs h1),rfl,rfl,(rp cI 1 0 1 h1),(by decide),(Qj h3 h2),rfl,rfl,(rp cI 1 0 1 h2),hc1,(Qj h5 h4),(rp cI 1 0 1 h4),hc2,(Qk Try.func57 (by kernel_rfl) f57qb (Wu ((newF g l t).1) e h6)),(Qk Try.func59 (by kernel_rfl) f59lvb (KA (Ql ((newF g l t).1).g e) (farK ((newF g l t).1) (-1)) e v3 h7)),rfl,hc3,q21_4,trivial⟩ (h g2 g3 g5)
 · have h:=h.2 (odf hc0)
   obtain ⟨h1,h⟩:=h
   refine p91_2_4 g l t crowd most people j v2 j1 v3 v5 g2 g3 g5 hE ⟨hc0,rfl,(by have hx:=QC cI (s:=1) (fun _=>rfl) v5; simp only [rowI] at hx ⊢; rw [hx]; simp),h1,rfl,trivial⟩ ?_
   rw [(show rowI v5++[.int .i64 people]=rowI (v5++[people]) from (XD cI v5 [people]).symm)]; (try rw [(show (v5.length+1)=(v5++[people]).length from by simp)]); exact (h g2 (g5+1) g3)
end Go.Proofs.Ytemklbioijmjiaa
namespace Go.Proofs.Ytemklbioijmjiaa
open Go Ax
open Go.Proofs
/-! ### weighted sums -/
def wsum:List Int→List Int→Int
 | a :: l,b :: w=>a*b+wsum l w
 | _,_=>0
theorem WP:∀ {l w:List Int} {i:Nat} {v x y:Int},l[i]?=some x→w[i]?=some y→wsum (l.set i v) w=wsum l w+(v - x)*y
 | [],w,i,v,x,y,h,_=>by simp at h
 | a :: l,[],i,v,x,y,_,h=>by simp at h
 | a :: l,b :: w,0,v,x,y,h,h'=>by
  simp only [List.getElem?_cons_zero,Option.some.injEq] at h h'
  subst h h'
  simp only [List.set_cons_zero,wsum,Int.sub_mul]; omega
 | a :: l,b :: w,i+1,v,x,y,h,h'=>by
  simp only [List.getElem?_cons_succ] at h h'
  simp only [List.set_cons_succ,wsum,WP h h']; omega
theorem wsum_le:∀ {l w w':List Int},l.length≤w.length→l.length≤w'.length→(∀ (i:Nat) (x y y':Int),l[i]?=some x→w[i]?=some y→w'[i]?=some y'→x*y≤x*y')→wsum l w≤wsum l w'
 | [],w,w',_,_,_=>by simp [wsum]
 | a :: l,[],w',h,_,_=>by simp at h
 | a :: l,b :: w,[],_,h,_=>by simp at h
 | a :: l,b :: w,b' :: w',h1,h2,h=>by
  have h0:=h 0 a b b' rfl rfl rfl
  have h1:=wsum_le (l:=l) (w:=w) (w':=w') (by simpa using h1) (by simpa using h2) (fun i x y y' p q r=>h (i+1) x y y' (by simpa using p) (by simpa using q) (by simpa using r))
  simp only [wsum]; omega
theorem Qbp (l:List Int):∀ n,l.length≤n→wsum l (List.replicate n 1)=l.sum:=by
 induction l with
 | nil=>intro n _; simp [wsum]
 | cons a l ih =>
  intro n hn
  cases n with
  | zero=>simp at hn
  | succ n=>simp only [List.replicate_succ,wsum,ih n (by simpa using hn),List.sum_cons]; omega
theorem Qbt {l:List Int} {i:Nat} {x v:Int} (h:l[i]?=some x):(l.set i v).sum=l.sum+(v - x):=by
 have hi:=(List.getElem?_eq_some_iff.1 h).1
 have:=WP (w:=List.replicate l.length 1) (v:=v) h (y:=1) (by rw [List.getElem?_replicate,if_pos hi])
 rw [Qbp _ _ (by simp),Qbp _ _ (by simp)] at this
 omega
theorem le_sum:∀ {l:List Int},(∀ x ∈ l,0≤x)→0≤l.sum∧∀ x ∈ l,x≤l.sum
 | [],_=>by simp
 | a :: l,h=>by
  have:=le_sum (l:=l) (fun x hx=>h x (List.mem_cons_of_mem _ hx))
  have ha:=h a List.mem_cons_self
  rw [List.sum_cons]
  refine ⟨by omega,fun x hx=>?_⟩
  rcases List.mem_cons.1 hx with rfl | hx
  · omega
  · have:=this.2 x hx; omega
/-! ### the model -/
def goK (f:Fld) (far now:List Int) (c:Int):Int:=(Ql f.g c).getD (idxG (Xy far now c) (Ql f.g c)).toNat 0
def YI (f:Fld) (far:List Int) (s:List Int × Int) (c:Int):List Int × Int :=
 if atI s.1 c=0 then s
 else if atI far c=0 then (s.1.set c.toNat (atI s.1 c - 1),s.2 - 1)
 else if idxG (Xy far s.1 c) (Ql f.g c)≥0 then ((s.1.set c.toNat (atI s.1 c - 1)).set (goK f far s.1 c).toNat (atI (s.1.set c.toNat (atI s.1 c - 1)) (goK f far s.1 c)+1),s.2)
 else s
def Xn (f:Fld) (far order:List Int):Nat→List Int × Int→List Int→List Int
 | 0,_,left=>left
 | n+1,s,left=>if s.2 > 0 then Xn f far order n (order.foldl (YI f far) s) (left++[(order.foldl (YI f far) s).2]) else left
def YM (f:Fld):List Int→Nat→Int→Option Int
 | [],_,p=>some p
 | e :: l,i,p=>if Qa e 0 20=true∧(e > 0→QF f (i:Int)=true) then YM f l (i+1) (p+e) else none
noncomputable def orderK (f:Fld):List Int:=ordX (XA (outA (farK f (-1))) f.g.cells.length) (farK f (-1)) 0
noncomputable def leaveF (f:Fld) (crowd:List Int) (most:Int):List Int × Int :=
 match YM f crowd 0 0 with
 | none=>([],1)
 | some p=>(Xn f (farK f (-1)) (orderK f) most.toNat (crowd,p) [],0)
noncomputable def leaveR (g:Gd) (l:List Ptc) (t:List Sit) (crowd:List Int) (most:Int):List Int × Int :=
 if (newF g l t).2.2=0 then (if crowd.length=g.cells.length∧Qa most 0 500=true then leaveF (newF g l t).1 crowd most else ([],1)) else ([],(newF g l t).2.2)
noncomputable def clearR (g:Gd) (l:List Ptc) (t:List Sit) (crowd:List Int):Int × Int :=
 if (leaveR g l t crowd 500).2=0 then (if 0<(leaveR g l t crowd 500).1.length∧(leaveR g l t crowd 500).1.getD ((leaveR g l t crowd 500).1.length - 1) 0 > 0 then (0,3) else (((leaveR g l t crowd 500).1.length:Int),0)) else (0,(leaveR g l t crowd 500).2)
/-! ### what is so all the time -/
structure LvI (f:Fld) (s:List Int × Int):Prop where
 len:s.1.length=f.g.cells.length
 nn:∀ x ∈ s.1,0≤x
 sm:s.1.sum=s.2
 le:s.2≤2000
theorem LvI.at_ {f:Fld} {s:List Int × Int} (h:LvI f s) {c:Int} (hc:OnF f c):s.1[c.toNat]?=some (atI s.1 c)∧0≤atI s.1 c∧atI s.1 c≤s.2:=by
 have g:=XE (l:=s.1) hc.lo (by rw [h.len]; exact hc.hi)
 have m:=List.mem_of_getElem? g
 exact ⟨g,h.nn _ m,by rw [← h.sm]; exact (le_sum h.nn).2 _ m⟩
theorem idxG_spec {α:Type} {P:α→Bool} {l:List α} (h:idxG P l≥0):∃ x,l[(idxG P l).toNat]?=some x∧P x=true:=by
 unfold idxG at h ⊢
 split at h
 · rename_i i hi
   obtain ⟨h1,h2,-⟩:=List.findIdx?_eq_some_iff_getElem.1 hi
   exact ⟨l[i],by simp only [Int.toNat_natCast]; exact List.getElem?_eq_getElem h1,h2⟩
 · omega
theorem idxG_some {α:Type} {P:α→Bool} {l:List α} {x:α} (hx:x ∈ l) (hp:P x=true):idxG P l≥0:=by
 unfold idxG
 cases e:l.findIdx? P with
 | none=>rw [List.findIdx?_eq_none_iff.1 e x hx] at hp; cases hp
 | some i=>show (i:Int)≥0; omega
structure FarP (f:Fld) (far:List Int):Prop where
 ok:FldOk f
 len:far.length=f.g.cells.length
 lo:∀ c,OnF f c→-1≤atI far c
 hi:∀ c,OnF f c→atI far c≤63
 step:∀ c,OnF f c→0<atI far c→∃ k ∈ Ql f.g c,atI far k=atI far c - 1
theorem farP {f:Fld} (b:Int) (hf:FldOk f):FarP f (farK f b):=by
 obtain ⟨d,h⟩:=Qco (b:=b) hf
 have hg:=XF hf.g
 have hc:=h.card
 refine ⟨hf,h.len,h.neg,fun c hc'=>?_,fun c hc' q=>h.step c (h.vis c hc' (by omega)) q⟩
 rcases Int.lt_or_le (atI (farK f b) c) 0 with q | q
 · omega
 · have:=(h.mem c (h.vis c hc' q)).2.2; omega
theorem Yi {f:Fld} {c k:Int} (h:OnF f c) (hk:k ∈ Ql f.g c):OnF f k:=by
 have:=Vr h.on hk; exact ⟨h.ok,this.lo,this.hi⟩
theorem goK_ok {f:Fld} {far now:List Int} {c:Int} (hc:OnF f c) (h:idxG (Xy far now c) (Ql f.g c)≥0) :
 (Ql f.g c)[(idxG (Xy far now c) (Ql f.g c)).toNat]?=some (goK f far now c)∧OnF f (goK f far now c)∧atI far (goK f far now c)=atI far c - 1∧atI now (goK f far now c)<4:=by
 obtain ⟨x,h1,h2⟩:=idxG_spec h
 have e:goK f far now c=x:=by unfold goK; rw [List.getD_eq_getElem?_getD,h1]; rfl
 rw [e]
 simp only [Xy,Bool.and_eq_true,decide_eq_true_eq] at h2
 exact ⟨h1,Yi hc (List.mem_of_getElem? h1),h2.1,h2.2⟩
theorem set_nn {l:List Int} {i:Nat} {v:Int} (h:∀ x ∈ l,0≤x) (hv:0≤v):∀ x ∈ l.set i v,0≤x:=fun x hx=>by
 rcases List.mem_or_eq_of_mem_set hx with hx | rfl
 · exact h x hx
 · exact hv
/-- How a step goes: nothing happens,or somebody goes on. -/
structure Moved (f:Fld) (far:List Int) (s s':List Int × Int) (c:Int):Prop where
 at_c:atI s'.1 c=atI s.1 c - 1
 pos:0<atI s.1 c
 far0:0≤atI far c
 pot:wsum s'.1 (far.map (·+1))=wsum s.1 (far.map (·+1)) - 1
 oth:∀ k,OnF f k→¬ c=k→atI s'.1 k=atI s.1 k ∨ (0≤atI far k∧atI s.1 k<atI s'.1 k)
theorem VT {f:Fld} {far:List Int} (hf:FarP f far) {s:List Int × Int} (h:LvI f s) {c:Int} (hc:OnF f c) (h0:0≤atI far c) :
 LvI f (YI f far s c)∧(YI f far s c=s ∨ Moved f far s (YI f far s c) c):=by
 obtain ⟨g1,g2,g3⟩:=h.at_ hc
 have hl:c<(s.1.length:Int):=by rw [h.len]; exact hc.hi
 have gw:(far.map (·+1))[c.toNat]?=some (atI far c+1):=by rw [List.getElem?_map,XE hc.lo (by rw [hf.len]; exact hc.hi)]; rfl
 unfold YI
 split
 · exact ⟨h,.inl rfl⟩
 · rename_i n0
   split
   · rename_i f0
     refine ⟨⟨by simpa using h.len,set_nn h.nn (by omega),?_,?_⟩,.inr ⟨?_,by omega,h0,?_,fun k hk hck=>.inl ?_⟩⟩
     · show (s.1.set _ _).sum=s.2 - 1
       rw [Qbt g1,h.sm]; omega
     · have:=h.le; show s.2 - 1≤2000; omega
     · show atI (s.1.set _ _) c=_
       rw [Yc hc.lo hc.lo hl,if_pos rfl]
     · show wsum (s.1.set _ _) _=_
       rw [WP g1 gw,f0,show atI s.1 c - 1 - atI s.1 c=-1 by omega]; omega
     · show atI (s.1.set _ _) k=_
       rw [Yc hc.lo hk.lo hl,if_neg hck]
   · rename_i f0
     split
     · rename_i hi
       obtain ⟨k1,k2,k3,k4⟩:=goK_ok hc hi
       generalize goK f far s.1 c=k at k1 k2 k3 k4
       have hck:¬ c=k:=fun e=>by subst e; omega
       obtain ⟨q1,q2,q3⟩:=h.at_ k2
       have a1:atI (s.1.set c.toNat (atI s.1 c - 1)) k=atI s.1 k:=by rw [Yc hc.lo k2.lo hl,if_neg hck]
       have hl2:k<((s.1.set c.toNat (atI s.1 c - 1)).length:Int):=by rw [List.length_set,h.len]; exact k2.hi
       have g4:(s.1.set c.toNat (atI s.1 c - 1))[k.toNat]?=some (atI s.1 k):=by rw [← a1]; exact XE k2.lo hl2
       have gw2:(far.map (·+1))[k.toNat]?=some (atI far k+1):=by rw [List.getElem?_map,XE k2.lo (by rw [hf.len]; exact k2.hi)]; rfl
       rw [a1]
       refine ⟨⟨by simpa using h.len,set_nn (set_nn h.nn (by omega)) (by omega),?_,h.le⟩,.inr ⟨?_,by omega,h0,?_,fun j hj hcj=>?_⟩⟩
       · show ((s.1.set _ _).set _ _).sum=s.2
         rw [Qbt g4,Qbt g1,h.sm]; omega
       · show atI ((s.1.set _ _).set _ _) c=_
         rw [Yc k2.lo hc.lo hl2,if_neg (fun e=>hck e.symm),Yc hc.lo hc.lo hl,if_pos rfl]
       · show wsum ((s.1.set _ _).set _ _) _=_
         rw [WP g4 gw2,WP g1 gw,show atI s.1 c - 1 - atI s.1 c=-1 by omega,show atI s.1 k+1 - atI s.1 k=1 by omega]; omega
       · show atI ((s.1.set _ _).set _ _) j=_ ∨ (_∧_<atI ((s.1.set _ _).set _ _) j)
         rw [Yc k2.lo hj.lo hl2]
         by_cases e:k=j
         · subst e
           right
           rw [if_pos rfl]; omega
         · left
           rw [if_neg e,Yc hc.lo hj.lo hl,if_neg hcj]
     · exact ⟨h,.inl rfl⟩
theorem order_on {f:Fld} (hf:FldOk f):∀ c,c ∈ orderK f ↔ OnF f c∧0≤atI (farK f (-1)) c:=fun c=>by
 unfold orderK
 rw [(ordX_perm _ _ _).mem_iff,yW]
 simp only [outA,decide_eq_true_eq]
 exact ⟨fun h=>⟨⟨hf,h.2.1,h.2.2⟩,h.1⟩,fun h=>⟨h.2,h.1.lo,h.1.hi⟩⟩
theorem order_all {f:Fld} (hf:FldOk f):AllA (farK f (-1)) (XA (outA (farK f (-1))) f.g.cells.length)∧(XA (outA (farK f (-1))) f.g.cells.length).length≤100:=by
 have p:=farP (-1) hf
 have hg:=XF hf.g
 have hs:=qz (P:=outA (farK f (-1))) f.g.cells.length 0
 refine ⟨⟨fun x hx=>?_,by rw [p.len]; omega,fun x hx=>?_⟩,by show (XV _ _ _).length≤100; omega⟩
 · obtain ⟨h1,h2,h3⟩:=yW.1 hx
   exact ⟨h2,by rw [p.len]; exact h3⟩
 · obtain ⟨i,hi,rfl⟩:=List.getElem_of_mem hx
   have hO:OnF f (i:Int):=⟨hf,by omega,by rw [p.len] at hi; omega⟩
   have e:atI (farK f (-1)) (i:Int)=(farK f (-1))[i]:=by
    unfold atI; rw [List.getD_eq_getElem?_getD,show Int.toNat (i:Int)=i by omega,List.getElem?_eq_getElem hi]; rfl
   have a:=p.lo _ hO; have b:=p.hi _ hO
   rw [e] at a b; omega
theorem qT {f:Fld}:∀ (l:List Int) (i:Nat) (p q:Int),YM f l i p=some q→q=p+l.sum∧(∀ x ∈ l,0≤x∧x≤20)∧∀ (j:Nat) (x:Int),l[j]?=some x→x > 0→QF f ((i+j:Nat):Int)=true
 | [],i,p,q,h=>by
  simp only [YM,Option.some.injEq] at h
  exact ⟨by simp [h],by simp,by simp⟩
 | e :: l,i,p,q,h=>by
  unfold YM at h
  split at h
  · rename_i c
    obtain ⟨h1,h2,h3⟩:=qT l (i+1) (p+e) q h
    have:=QI.1 c.1
    refine ⟨by rw [h1,List.sum_cons]; omega,fun x hx=>?_,fun j x hj hx=>?_⟩
    · rcases List.mem_cons.1 hx with rfl | hx
      · exact this
      · exact h2 x hx
    · cases j with
      | zero =>
       simp only [List.getElem?_cons_zero,Option.some.injEq] at hj
       subst hj
       exact c.2 hx
      | succ j =>
       have:=h3 j x (by simpa using hj) hx
       rw [show i+(j+1)=i+1+j by omega]; exact this
  · cases h
theorem sum_le20:∀ {l:List Int},(∀ x ∈ l,0≤x∧x≤20)→0≤l.sum∧l.sum≤20*(l.length:Int)
 | [],_=>by simp
 | a :: l,h=>by
  have:=sum_le20 (l:=l) (fun x hx=>h x (List.mem_cons_of_mem _ hx))
  have ha:=h a List.mem_cons_self
  rw [List.sum_cons,List.length_cons]; omega
theorem crowd_lv {f:Fld} {crowd:List Int} {p:Int} (hf:FldOk f) (hl:crowd.length=f.g.cells.length) (h:YM f crowd 0 0=some p):LvI f (crowd,p):=by
 obtain ⟨h1,h2,-⟩:=qT crowd 0 0 p h
 have hg:=XF hf.g
 have:=sum_le20 h2
 exact ⟨hl,fun x hx=>(h2 x hx).1,by show crowd.sum=p; omega,by show p≤2000; omega⟩
theorem tick_lv {f:Fld} {far:List Int} (hf:FarP f far):∀ (L:List Int) (s:List Int × Int),(∀ c ∈ L,OnF f c∧0≤atI far c)→LvI f s→LvI f (L.foldl (YI f far) s)
 | [],s,_,h=>h
 | c :: L,s,hL,h=>tick_lv hf L _ (fun x hx=>hL x (List.mem_cons_of_mem _ hx)) (VT hf h (hL c List.mem_cons_self).1 (hL c List.mem_cons_self).2).1
theorem yN (g:Gd) (l:List Ptc) (t:List Sit) (crowd:List Int) (most:Int) (h:GdSmall g∧l.length≤1000∧t.length≤1000) (hcr:crowd.length≤1000):Pure Try.prog 91 [.agg [.int .i64 g.w,.int .i64 g.h,.rsl (rowI g.cells) 0 g.cells.length,.rsl (rowI g.hts) 0 g.hts.length],.rsl (Qc l) 0 l.length,.rsl (Qb t) 0 t.length,.rsl (rowI crowd) 0 crowd.length,.int .i64 most] (.tup [.rsl (rowI (leaveR g l t crowd most).1) 0 (leaveR g l t crowd most).1.length,.int .i64 (leaveR g l t crowd most).2]):=Qy Try.func91 f91b fun E hE=>by
 refine f91W g l t crowd most (rv:=leaveR g l t crowd most) hE ⟨fun q=>⟨h,fun q2=>?_,fun q2=>⟨fun q3=>?_,fun q3=>?_⟩⟩,fun q=>⟨h,?_⟩⟩
 · unfold leaveR; rw [if_pos q,if_neg (fun hh=>q2 (by omega))]
 · unfold leaveR; rw [if_pos q,if_neg (fun hh=>by rw [q3] at hh; cases hh.2)]
 · have hN:=YH q
   have hR:leaveR g l t crowd most=leaveF (newF g l t).1 crowd most:=by unfold leaveR; rw [if_pos q,if_pos ⟨by omega,q3⟩]
   rw [hR] at hE
   have hcl:crowd.length=(newF g l t).1.g.cells.length:=by rw [hN.2.1]; omega
   have hf:=hN.1
   have hg:=XF hf.g
   have hm:=QI.1 q3
   clear hR
   generalize hF:(newF g l t).1=f at *
   have hfp:=farP (-1) hf
   have hord:=order_on hf
   have holen:(orderK f).length≤100:=by
    unfold orderK; rw [Qca]; exact (order_all hf).2
   have ticks:∀ (n:Nat) (s:List Int × Int) (left:List Int),LvI f s→(left.length:Int)+(n:Int)=most→leaveF f crowd most=(Xn f (farK f (-1)) (orderK f) n s left,0)→f91G1 E g l t crowd most s.2 (orderK f) left s.1:=by
    intro n
    induction n with
    | zero =>
     intro s left hs hn hr
     refine f91W1 g l t crowd most s.2 (orderK f) left s.1 (rv:=leaveF f crowd most) hE ⟨fun q=>by omega,fun _=>?_⟩
     rw [hr]; rfl
    | succ n ih =>
     intro s left hs hn hr
     refine f91W1 g l t crowd most s.2 (orderK f) left s.1 (rv:=leaveF f crowd most) hE ⟨fun _=>⟨fun hp=>?_,fun hp=>?_⟩,fun q=>by omega⟩
     · unfold Xn at hr
       rw [if_pos hp] at hr
       have row:∀ (d j:Nat) (u:List Int × Int),j+d=(orderK f).length→LvI f u→((orderK f).drop j).foldl (YI f (farK f (-1))) u=(orderK f).foldl (YI f (farK f (-1))) s→f91G2 E g l t crowd most u.2 (orderK f).length (orderK f) j u.1 left:=by
        intro d
        induction d with
        | zero =>
         intro j u hd hu he
         rw [List.drop_eq_nil_of_le (by omega)] at he
         simp only [List.foldl_nil] at he
         refine f91W2 g l t crowd most u.2 _ (orderK f) j u.1 left (rv:=leaveF f crowd most) hE ⟨fun q=>by omega,fun _=>⟨by omega,ih u (left++[u.2]) hu (by simp; omega) ?_⟩⟩
         rw [hr,← he]
        | succ d ie =>
         intro j u hd hu he
         have hx:(orderK f)[j]?=some ((orderK f)[j]'(by omega)):=List.getElem?_eq_getElem (by omega)
         rw [List.drop_eq_getElem_cons (by omega)] at he
         generalize (orderK f)[j]'(by omega)=c at hx he
         simp only [List.foldl_cons] at he
         obtain ⟨hc,h0⟩:=(hord c).1 (List.mem_of_getElem? hx)
         obtain ⟨g1,g2,g3⟩:=hu.at_ hc
         have gf:=XE (l:=farK f (-1)) hc.lo (by rw [hfp.len]; exact hc.hi)
         have fl:=hfp.lo c hc; have fh:=hfp.hi c hc; have ul:=hu.le
         have hmv:=VT hfp hu hc h0
         have b4:=qV f.g c
         unfold YI at he hmv
         refine f91W2 g l t crowd most u.2 _ (orderK f) j u.1 left (rv:=leaveF f crowd most) hE ⟨fun _=>⟨c,hx,hc.lo,_,g1,fun q1=>⟨⟨by omega,by omega⟩,?_⟩,fun q1=>⟨hc.lo,_,by rw [hF]; exact gf,fun q2=>⟨⟨by omega,by omega⟩,⟨by omega,by omega⟩,⟨by omega,by omega⟩,?_⟩,fun q2=>?_⟩⟩,fun q=>by omega⟩
         · rw [if_pos q1] at he
           exact ie (j+1) u (by omega) hu he
         · rw [if_neg q1,if_pos q2] at he hmv
           exact ie (j+1) _ (by omega) hmv.1 he
         · simp only [hF]
           rw [if_neg q1,if_neg q2] at he hmv
           have inA:∀ k,OnF f k→InA (farK f (-1)) k:=fun k hk=>⟨hk.lo,by rw [hfp.len]; exact hk.hi⟩
           refine ⟨hc,⟨fun x hx=>⟨inA x (Yi hc hx),inA c hc,by rw [hu.len,hfp.len],by omega,by omega⟩,by omega⟩,fun q3=>?_,fun q3=>⟨⟨by omega,by omega⟩,?_⟩⟩
           · obtain ⟨k1,k2,k3,k4⟩:=goK_ok hc q3
             rw [if_pos q3] at he hmv
             have hck:¬ c=goK f (farK f (-1)) u.1 c:=fun e=>by rw [← e] at k3; omega
             have hl2:goK f (farK f (-1)) u.1 c<((u.1.set c.toNat (atI u.1 c - 1)).length:Int):=by rw [List.length_set,hu.len]; exact k2.hi
             have a1:atI (u.1.set c.toNat (atI u.1 c - 1)) (goK f (farK f (-1)) u.1 c)<4:=by
              rw [Yc hc.lo k2.lo (by rw [hu.len]; exact hc.hi),if_neg hck]; exact k4
             have a2:0≤atI (u.1.set c.toNat (atI u.1 c - 1)) (goK f (farK f (-1)) u.1 c):=by
              rw [Yc hc.lo k2.lo (by rw [hu.len]; exact hc.hi),if_neg hck]; exact (hu.at_ k2).2.1
             exact ⟨⟨by omega,by omega⟩,by omega,_,k1,k2.lo,_,XE k2.lo hl2,⟨by omega,by omega⟩,⟨by omega,by omega⟩,ie (j+1) _ (by omega) hmv.1 he⟩
           · rw [if_neg q3] at he
             exact ie (j+1) u (by omega) hu he
       exact row (orderK f).length 0 s (by omega) hs (by rw [List.drop_zero])
     · unfold Xn at hr
       rw [if_neg hp] at hr
       exact hr
   obtain ⟨R,hRR⟩:∃ R,YM f crowd 0 0=R:=⟨_,rfl⟩
   have seeds:∀ (d i:Nat) (p:Int),i+d=crowd.length→0≤p→p≤20*(i:Int)→YM f (crowd.drop i) i p=R→f91G0 E g l t crowd most p i:=by
    intro d
    induction d with
    | zero =>
     intro i p hd hp0 hp1 hr
     rw [List.drop_eq_nil_of_le (by omega)] at hr
     have hlv:=crowd_lv hf hcl (hRR.trans hr.symm)
     refine f91W0 g l t crowd most p i (rv:=leaveF f crowd most) hE ⟨fun q=>by omega,fun _=>?_⟩
     simp only [hF]
     refine ⟨hf,⟨hf,hfp.len⟩,order_all hf,⟨fun e=>by subst e; simp at hcl; omega,by omega⟩,ticks most.toNat (crowd,p) [] hlv (by simp; omega) ?_⟩
     unfold leaveF
     rw [hRR,← hr]; rfl
    | succ d ih =>
     intro i p hd hp0 hp1 hr
     have hx:crowd[i]?=some (crowd[i]'(by omega)):=List.getElem?_eq_getElem (by omega)
     rw [List.drop_eq_getElem_cons (by omega)] at hr
     generalize crowd[i]'(by omega)=e at hx hr
     have bad:R=none→leaveF f crowd most=([],1):=fun hh=>by unfold leaveF; rw [hRR,hh]
     unfold YM at hr
     refine f91W0 g l t crowd most p i (rv:=leaveF f crowd most) hE ⟨fun _=>⟨e,hx,fun q1=>?_,fun q1=>?_⟩,fun q=>by omega⟩
     · rw [if_neg (fun hh=>by rw [q1] at hh; cases hh.1)] at hr
       exact bad hr.symm
     · have b:=QI.1 q1
       simp only [hF]
       refine ⟨fun q2=>⟨⟨hf,by omega,by omega⟩,fun q4=>?_,fun q4=>⟨⟨by omega,by omega⟩,⟨by omega,by omega⟩,?_⟩⟩,fun q2=>⟨⟨by omega,by omega⟩,⟨by omega,by omega⟩,?_⟩⟩
       · rw [if_neg (fun hh=>by have:=hh.2 q2; rw [q4] at this; cases this)] at hr
         exact bad hr.symm
       · rw [if_pos ⟨q1,fun _=>q4⟩] at hr
         exact ih (i+1) (p+e) (by omega) (by omega) (by omega) hr
       · rw [if_pos ⟨q1,fun hh=>absurd hh q2⟩] at hr
         exact ih (i+1) (p+e) (by omega) (by omega) (by omega) hr
   exact seeds crowd.length 0 0 (by omega) (by omega) (by omega) (by rw [List.drop_zero]; exact hRR)
 · unfold leaveR; rw [if_neg q]
theorem f37b:Try.f37.body=some (Qd Try.prog 37):=by kernel_rfl
theorem u37 {a c k:List AV} {r:AV} (h:Pure Try.prog 37 (a++c++k) r):Qi Try.prog (.clos 37 a k) c r:=Qk Try.func37 (by kernel_rfl) f37b h
noncomputable abbrev z37_1 (g:Gd) (l:(List Ptc)) (t:(List Sit)) (crowd:(List Int)):AV:=.tup [.rsl (rowI ((leaveR g l t crowd 500).1)) 0 (((leaveR g l t crowd 500).1).length),.int .i64 ((leaveR g l t crowd 500).2)]
abbrev z37_2 (g:Gd):List AV:=[.int .i64 g.w,.int .i64 g.h,.rsl (rowI g.cells) 0 g.cells.length,.rsl (rowI g.hts) 0 g.hts.length]
abbrev z37_3 (g:Gd) (l:(List Ptc)) (t:(List Sit)) (crowd:(List Int)):List AV:=[.agg (z37_2 g),.rsl (Qc l) 0 l.length,.rsl (Qb t) 0 t.length,.rsl (rowI crowd) 0 crowd.length,.int .i64 500]
abbrev z37_4 (g:Gd) (l:(List Ptc)) (t:(List Sit)) (crowd:(List Int)):List AV:=[.agg (z37_2 g),.rsl (Qc l) 0 l.length,.rsl (Qb t) 0 t.length,.rsl (rowI crowd) 0 crowd.length]
theorem p37_start_0 (g:Gd) (l:(List Ptc)) (t:(List Sit)) (crowd:(List Int)) {E:Env} {res:AV} (hE:Qh Try.prog 37 res E) (ho:AllP [Qi Try.prog (.clos 91 [] []) (z37_3 g l t crowd) (z37_1 g l t crowd),((leaveR g l t crowd 500).2 != 0)=true])
 (hr:AvLe (.tup [.int .i64 0,.int .i64 ((leaveR g l t crowd 500).2)]) res):G Try.prog E [.code (Qd Try.prog 37)] ⟨(z37_4 g l t crowd)++unds (Try.f37.ntmps - 4),[]⟩ :=
 Qf (n:=400) (evs:=[.v (z37_1 g l t crowd),.b true]) (obs:=_) hE Try.func37 Qg (by kernel_rfl) ho hr
theorem p37_start_1 (g:Gd) (l:(List Ptc)) (t:(List Sit)) (crowd:(List Int)) (e:Int) {E:Env} {res:AV} (hE:Qh Try.prog 37 res E) (ho:AllP [Qi Try.prog (.clos 91 [] []) (z37_3 g l t crowd) (z37_1 g l t crowd),((leaveR g l t crowd 500).2 != 0)=false,(decide (((((leaveR g l t crowd 500).1).length:Nat):Int) > 0))=true,InR .i64 (((((leaveR g l t crowd 500).1).length:Nat):Int) - 1),0≤(((((leaveR g l t crowd 500).1).length:Nat):Int) - 1)∧(((((leaveR g l t crowd 500).1).length:Nat):Int) - 1)<((((leaveR g l t crowd 500).1).length:Nat):Int),((rowI ((leaveR g l t crowd 500).1)).drop (0+(Int.toNat (((((leaveR g l t crowd 500).1).length:Nat):Int) - 1))*1)).take 1=[.int .i64 e],(decide (e > 0))=true])
 (hr:AvLe (.tup [.int .i64 0,.int .i64 3]) res):G Try.prog E [.code (Qd Try.prog 37)] ⟨(z37_4 g l t crowd)++unds (Try.f37.ntmps - 4),[]⟩ :=
 Qf (n:=400) (evs:=[.v (z37_1 g l t crowd),.b false,.b true,.ld (.int .i64 e),.b true]) (obs:=_) hE Try.func37 Qg (by kernel_rfl) ho hr
theorem p37_start_2 (g:Gd) (l:(List Ptc)) (t:(List Sit)) (crowd:(List Int)) (e:Int) {E:Env} {res:AV} (hE:Qh Try.prog 37 res E) (ho:AllP [Qi Try.prog (.clos 91 [] []) (z37_3 g l t crowd) (z37_1 g l t crowd),((leaveR g l t crowd 500).2 != 0)=false,(decide (((((leaveR g l t crowd 500).1).length:Nat):Int) > 0))=true,InR .i64 (((((leaveR g l t crowd 500).1).length:Nat):Int) - 1),0≤(((((leaveR g l t crowd 500).1).length:Nat):Int) - 1)∧(((((leaveR g l t crowd 500).1).length:Nat):Int) - 1)<((((leaveR g l t crowd 500).1).length:Nat):Int),((rowI ((leaveR g l t crowd 500).1)).drop (0+(Int.toNat (((((leaveR g l t crowd 500).1).length:Nat):Int) - 1))*1)).take 1=[.int .i64 e],(decide (e > 0))=false])
 (hr:AvLe (.tup [.int .i64 ((((leaveR g l t crowd 500).1).length:Nat):Int),.int .i64 0]) res):G Try.prog E [.code (Qd Try.prog 37)] ⟨(z37_4 g l t crowd)++unds (Try.f37.ntmps - 4),[]⟩ :=
 Qf (n:=400) (evs:=[.v (z37_1 g l t crowd),.b false,.b true,.ld (.int .i64 e),.b false]) (obs:=_) hE Try.func37 Qg (by kernel_rfl) ho hr
theorem p37_start_3 (g:Gd) (l:(List Ptc)) (t:(List Sit)) (crowd:(List Int)) {E:Env} {res:AV} (hE:Qh Try.prog 37 res E) (ho:AllP [Qi Try.prog (.clos 91 [] []) (z37_3 g l t crowd) (z37_1 g l t crowd),((leaveR g l t crowd 500).2 != 0)=false,(decide (((((leaveR g l t crowd 500).1).length:Nat):Int) > 0))=false,false=false])
 (hr:AvLe (.tup [.int .i64 ((((leaveR g l t crowd 500).1).length:Nat):Int),.int .i64 0]) res):G Try.prog E [.code (Qd Try.prog 37)] ⟨(z37_4 g l t crowd)++unds (Try.f37.ntmps - 4),[]⟩ :=
 Qf (n:=400) (evs:=[.v (z37_1 g l t crowd),.b false,.b false,.b false]) (obs:=_) hE Try.func37 Qg (by kernel_rfl) ho hr
theorem f37W (g:Gd) (l:(List Ptc)) (t:(List Sit)) (crowd:(List Int)) {E:Env} {rv:(Int × Int)} (hE:Qh Try.prog 37 (.tup [.int .i64 rv.1,.int .i64 rv.2]) E)
 (h:(((GdSmall g∧l.length≤1000∧t.length≤1000)∧crowd.length≤1000)∧((¬ ((leaveR g l t crowd 500).2=0)→rv=(0,(leaveR g l t crowd 500).2))∧((leaveR g l t crowd 500).2=0→((((((leaveR g l t crowd 500).1).length:Nat):Int) > 0→((I6 (((((leaveR g l t crowd 500).1).length:Nat):Int) - 1))∧(0≤(((((leaveR g l t crowd 500).1).length:Nat):Int) - 1)∧(∃ e:Int,((leaveR g l t crowd 500).1)[Int.toNat (((((leaveR g l t crowd 500).1).length:Nat):Int) - 1)]?=some e∧((e > 0→rv=(0,3))∧(¬ (e > 0)→rv=(((((leaveR g l t crowd 500).1).length:Nat):Int),0)))))))∧(¬ (((((leaveR g l t crowd 500).1).length:Nat):Int) > 0)→rv=(((((leaveR g l t crowd 500).1).length:Nat):Int),0))))))):G Try.prog E [.code (Qd Try.prog 37)] ⟨[.agg [.int .i64 g.w,.int .i64 g.h,.rsl (rowI g.cells) 0 g.cells.length,.rsl (rowI g.hts) 0 g.hts.length],.rsl (Qc l) 0 l.length,.rsl (Qb t) 0 t.length,.rsl (rowI crowd) 0 crowd.length]++unds (Try.f37.ntmps - 4),[]⟩:=by
 obtain ⟨h1,h⟩:=h
 rcases bft ((leaveR g l t crowd 500).2 != 0) with hc0 | hc0
 · have h:=h.1 (bneT hc0)
   exact p37_start_0 g l t crowd hE ⟨(u91 (yN g l t crowd 500 h1.1 h1.2)),hc0,trivial⟩ (AvLe.of_eq (by rw [h]; try rfl))
 · have h:=h.2 (bneF hc0)
   rcases bft (decide (((((leaveR g l t crowd 500).1).length:Nat):Int) > 0)) with hc1 | hc1
   · have h:=h.1 (odt hc1)
     obtain ⟨q3_2,h⟩:=h
     obtain ⟨h3,h⟩:=h
     obtain ⟨e,h2,h⟩:=h
     rcases bft (decide (e > 0)) with hc2 | hc2
     · have h:=h.1 (odt hc2)
       exact p37_start_1 g l t crowd e hE ⟨(u91 (yN g l t crowd 500 h1.1 h1.2)),hc0,hc1,q3_2,(Qj h3 h2),(rp cI 1 0 1 h2),hc2,trivial⟩ (AvLe.of_eq (by rw [h]; try rfl))
     · have h:=h.2 (odf hc2)
       exact p37_start_2 g l t crowd e hE ⟨(u91 (yN g l t crowd 500 h1.1 h1.2)),hc0,hc1,q3_2,(Qj h3 h2),(rp cI 1 0 1 h2),hc2,trivial⟩ (AvLe.of_eq (by rw [h]; try rfl))
   · have h:=h.2 (odf hc1)
     exact p37_start_3 g l t crowd hE ⟨(u91 (yN g l t crowd 500 h1.1 h1.2)),hc0,hc1,rfl,trivial⟩ (AvLe.of_eq (by rw [h]; try rfl))
theorem Clear_ok (g:Gd) (l:List Ptc) (t:List Sit) (crowd:List Int) (h:(GdSmall g∧l.length≤1000∧t.length≤1000)∧crowd.length≤1000) (hlen:(leaveR g l t crowd 500).1.length≤1000):Pure Try.prog 37 [.agg [.int .i64 g.w,.int .i64 g.h,.rsl (rowI g.cells) 0 g.cells.length,.rsl (rowI g.hts) 0 g.hts.length],.rsl (Qc l) 0 l.length,.rsl (Qb t) 0 t.length,.rsl (rowI crowd) 0 crowd.length] (.tup [.int .i64 (clearR g l t crowd).1,.int .i64 (clearR g l t crowd).2]):=Qy Try.func37 f37b fun E hE=>by
 refine f37W g l t crowd (rv:=clearR g l t crowd) hE ⟨h,fun q=>?_,fun q=>⟨fun q2=>⟨⟨by omega,by omega⟩,by omega,_,XQ 0 (by omega),fun q3=>?_,fun q3=>?_⟩,fun q2=>?_⟩⟩
 · unfold clearR; rw [if_neg q]
 · rw [show Int.toNat (((leaveR g l t crowd 500).1.length:Int) - 1)=(leaveR g l t crowd 500).1.length - 1 by omega] at q3
   unfold clearR; rw [if_pos q,if_pos ⟨by omega,q3⟩]
 · rw [show Int.toNat (((leaveR g l t crowd 500).1.length:Int) - 1)=(leaveR g l t crowd 500).1.length - 1 by omega] at q3
   unfold clearR; rw [if_pos q,if_neg (fun hh=>q3 hh.2)]
 · unfold clearR; rw [if_pos q,if_neg (fun hh=>q2 (by omega))]
end Go.Proofs.Ytemklbioijmjiaa
namespace Go.Proofs.Ytemklbioijmjiaa
open Go Ax
open Go.Proofs
structure K2 where
 a:Int
 b:Int
theorem WX {α:Type} (c:α→AV):∀ {l:List α} {i:Nat} {e:α},l[i]?=some e→(l.flatMap fun x=>[c x])[i]?=some (c e)
 | [],i,e,h=>by simp at h
 | x :: l,0,e,h=>by simp at h; subst h; rfl
 | x :: l,i+1,e,h=>by
  have:=WX c (l:=l) (i:=i) (e:=e) (by simpa using h)
  simpa using this
theorem Kb {α:Type} (c:α→AV) {l:List α} {i:Nat}:(l.flatMap fun x=>[c x]).take i=(l.take i).flatMap fun x=>[c x]:=by
 induction l generalizing i with
 | nil=>simp
 | cons x l ih =>
  cases i with
  | zero=>simp
  | succ i=>simp only [List.flatMap_cons,List.cons_append,List.nil_append,List.take_succ_cons,ih]
theorem rowOne_set {α:Type} (c:α→AV) {l:List α} {i:Nat} {y:α}:(l.flatMap fun x=>[c x]).set i (c y)=(l.set i y).flatMap fun x=>[c x]:=by
 induction l generalizing i with
 | nil=>simp
 | cons x l ih =>
  cases i with
  | zero=>simp
  | succ i=>simp only [List.flatMap_cons,List.cons_append,List.nil_append,List.set_cons_succ,ih]
/-! ### the net -/
def cNtE1 (e:K2 × Int):AV:=.clos 0 [.agg [.int .i64 e.1.a,.int .i64 e.1.b]] [.int .i64 e.2]
def cNtE (e:K2 × Int):List AV:=[cNtE1 e]
def Qo (l:List (K2 × Int)):List AV:=l.flatMap cNtE
@[simp] theorem rowNtE_len {l:List (K2 × Int)}:(Qo l).length=l.length:=by
 induction l with
 | nil=>rfl
 | cons x l ih=>simp only [Qo,List.flatMap_cons,List.length_append,List.length_cons] at ih ⊢; rw [ih]; simp [cNtE]; omega
theorem key_nt (a b c d:Int):Wx Try.prog 177 (.agg [.int .i64 a,.int .i64 b]) (.agg [.int .i64 c,.int .i64 d])=some ((a == c) && (b == d)):=by
 have h2:Xl Try.prog 20 177=some [some .i64,some .i64]:=by kernel_rfl
 have h1:Try.prog.underlying 177=some (.array 2 3):=by kernel_rfl
 simp only [Wx,h1,h2,Option.bind_some,QD,beq_self_eq_true,Bool.and_true,if_true,Option.map_some]
def eqK2 (k q:K2):Bool:=(k.a == q.a) && (k.b == q.b)
def Yq (l:List (K2 × Int)) (k:K2):Bool:=l.any fun e=>eqK2 k e.1
theorem ntNew {l:List (K2 × Int)} {k:K2} (hh:Yq l k=false):XK Try.prog 177 (.agg [.int .i64 k.a,.int .i64 k.b]) (Qo l):=by
 intro c hc
 obtain ⟨e,he,hc⟩:=List.mem_flatMap.1 hc
 simp only [cNtE,List.mem_singleton] at hc
 subst hc
 refine ⟨_,_,rfl,?_⟩
 rw [key_nt]
 have:=List.any_eq_false.1 hh e he
 simpa [eqK2] using this
def NtAt (l:List (K2 × Int)) (k:K2) (i:Nat) (e:K2 × Int):Prop:=l[i]?=some e∧e.1=k∧Yq (l.take i) k=false
theorem ntAt {l:List (K2 × Int)} {k:K2} {i:Nat} {e:K2 × Int} (hh:NtAt l k i e):YR Try.prog 177 (.agg [.int .i64 k.a,.int .i64 k.b]) (Qo l) i (.int .i64 e.2):=by
 obtain ⟨h1,h2,h3⟩:=hh
 refine ⟨_,WX cNtE1 h1,?_,?_⟩
 · rw [key_nt,h2]; simp
 · rw [show (Qo l).take i=Qo (l.take i) from Kb cNtE1]; exact ntNew h3
theorem ntEnt {l:List (K2 × Int)} {k:K2} {i:Nat} {e:K2 × Int} (hh:NtAt l k i e):(Qo l)[i]?=some (.clos 0 [.agg [.int .i64 k.a,.int .i64 k.b]] [.int .i64 e.2]):=by
 obtain ⟨h1,h2,-⟩:=hh
 subst h2
 exact WX cNtE1 h1
theorem Kl (l:List (K2 × Int)) (i:Nat) (y:K2 × Int):(Qo l).set i (cNtE1 y)=Qo (l.set i y):=rowOne_set cNtE1
theorem ntEnd (l:List (K2 × Int)) (y:K2 × Int):(Qo (l++[y]))[l.length]?=some (cNtE1 y):=WX cNtE1 (by simp)
theorem ntAtEnd {l:List (K2 × Int)} {k:K2} {v:Int} (h:Yq l k=false):NtAt (l++[(k,v)]) k l.length (k,v):=by
 refine ⟨by simp,rfl,?_⟩
 rw [List.take_left']
 · exact h
 · rfl
/-! ### whence -/
def cKnE1 (e:Int × Int):AV:=.clos 0 [.int .i64 e.1] [.int .i64 e.2]
def cKnE (e:Int × Int):List AV:=[cKnE1 e]
def Xj (l:List (Int × Int)):List AV:=l.flatMap cKnE
theorem key_kn (a b:Int):Wx Try.prog 3 (.int .i64 a) (.int .i64 b)=some (a == b):=by
 have h1:Try.prog.underlying 3=some (.int .i64):=by kernel_rfl
 simp [Wx,h1]
def YS (l:List (Int × Int)) (k:Int):Bool:=l.any fun e=>k == e.1
theorem knNew {l:List (Int × Int)} {k:Int} (hh:YS l k=false):XK Try.prog 3 (.int .i64 k) (Xj l):=by
 intro c hc
 obtain ⟨e,he,hc⟩:=List.mem_flatMap.1 hc
 simp only [cKnE,List.mem_singleton] at hc
 subst hc
 refine ⟨_,_,rfl,?_⟩
 rw [key_kn]
 have:=List.any_eq_false.1 hh e he
 simpa using this
def KnAt (l:List (Int × Int)) (k:Int) (i:Nat) (e:Int × Int):Prop:=l[i]?=some e∧k=e.1∧YS (l.take i) k=false
theorem knAt {l:List (Int × Int)} {k:Int} {i:Nat} {e:Int × Int} (hh:KnAt l k i e):YR Try.prog 3 (.int .i64 k) (Xj l) i (.int .i64 e.2):=by
 obtain ⟨h1,h2,h3⟩:=hh
 refine ⟨_,WX cKnE1 h1,?_,?_⟩
 · rw [key_kn,h2]; simp
 · rw [show (Xj l).take i=Xj (l.take i) from Kb cKnE1]; exact knNew h3
/-! ### the net of a field -/
def Qbw (f:Fld) (c:Int) (l:List Int):List (K2 × Int):=(l.filter fun k=>QF f k).map fun k=>(⟨2*c+1,2*k⟩,1)
def yo (f:Fld) (c:Int):List (K2 × Int):=if QF f c=true then ((⟨2*c,2*c+1⟩:K2),(1:Int)) :: (if Va f.g c=3 then [((⟨2*c+1,128⟩:K2),(1:Int))] else Qbw f c (Ql f.g c)) else []
def Qao (f:Fld):Nat→Nat→List (K2 × Int)→List (K2 × Int)
 | 0,_,n=>n
 | d+1,i,n=>Qao f d (i+1) (n++yo f (i:Int))
def netK (f:Fld):List (K2 × Int):=Qao f f.g.cells.length 0 []
theorem ntNot {l:List (K2 × Int)} {k:K2} (h:∀ x ∈ l,¬ (x.1.a=k.a∧x.1.b=k.b)):Yq l k=false:=by
 rw [Yq,List.any_eq_false]
 intro x hx
 have:=h x hx
 simp only [eqK2,Bool.and_eq_true,beq_iff_eq]
 intro hh
 exact this ⟨hh.1.symm,hh.2.symm⟩
theorem beside_asc {g:Gd} {c:Int} (h:OnG g c):(Ql g c).Pairwise (·<·):=by
 have p:=Qck h.ok
 obtain ⟨d1,d2,d3,d4,d5⟩:=h.dims
 have h3:=p.w1
 simp only [Ql]
 split <;> split <;> split <;> split <;> simp <;> omega
theorem asc_take {l:List Int} (h:l.Pairwise (·<·)) {j:Nat} {e:Int} (hj:l[j]?=some e):∀ x ∈ l.take j,¬ x=e:=by
 intro x hx
 obtain ⟨i,hi,rfl⟩:=List.mem_iff_getElem.1 hx
 rw [List.length_take] at hi
 obtain ⟨hl,rfl⟩:=List.getElem?_eq_some_iff.1 hj
 have:=List.pairwise_iff_getElem.1 h i j (by omega) hl (by omega)
 rw [List.getElem_take]
 omega
theorem QaA (f:Fld) (c e:Int) (l:List Int):Qbw f c (e :: l)=(if QF f e=true then [((⟨2*c+1,2*e⟩:K2),(1:Int))] else [])++Qbw f c l:=by
 unfold Qbw
 rw [List.filter_cons]
 split <;> simp
theorem f96b:Try.f96.body=some (Qd Try.prog 96):=by kernel_rfl
theorem u96 {a c k:List AV} {r:AV} (h:Pure Try.prog 96 (a++c++k) r):Qi Try.prog (.clos 96 a k) c r:=Qk Try.func96 (by kernel_rfl) f96b h
theorem p96_start_0 (c:Int) {E:Env} {res:AV} (hE:Qh Try.prog 96 res E) (ho:AllP [InR .i64 (2*c)])
 (hr:AvLe (.int .i64 (2*c)) res):G Try.prog E [.code (Qd Try.prog 96)] ⟨[.int .i64 c]++unds (Try.f96.ntmps - 1),[]⟩ :=
 Qf (n:=400) (evs:=[]) (obs:=_) hE Try.func96 Qg (by kernel_rfl) ho hr
theorem f96W (c:Int) {E:Env} {rv:Int} (hE:Qh Try.prog 96 (.int .i64 rv) E)
 (h:((I6 (2*c))∧rv=(2*c))):G Try.prog E [.code (Qd Try.prog 96)] ⟨[.int .i64 c]++unds (Try.f96.ntmps - 1),[]⟩:=by
 obtain ⟨q0_0,h⟩:=h
 exact p96_start_0 c hE ⟨q0_0,trivial⟩ (AvLe.of_eq (by rw [h]; try rfl))
theorem f94b:Try.f94.body=some (Qd Try.prog 94):=by kernel_rfl
theorem u94 {a c k:List AV} {r:AV} (h:Pure Try.prog 94 (a++c++k) r):Qi Try.prog (.clos 94 a k) c r:=Qk Try.func94 (by kernel_rfl) f94b h
theorem p94_start_0 (c:Int) {E:Env} {res:AV} (hE:Qh Try.prog 94 res E) (ho:AllP [InR .i64 (2*c),InR .i64 ((2*c)+1)])
 (hr:AvLe (.int .i64 ((2*c)+1)) res):G Try.prog E [.code (Qd Try.prog 94)] ⟨[.int .i64 c]++unds (Try.f94.ntmps - 1),[]⟩ :=
 Qf (n:=400) (evs:=[]) (obs:=_) hE Try.func94 Qg (by kernel_rfl) ho hr
theorem f94W (c:Int) {E:Env} {rv:Int} (hE:Qh Try.prog 94 (.int .i64 rv) E)
 (h:((I6 (2*c))∧((I6 ((2*c)+1))∧rv=((2*c)+1)))):G Try.prog E [.code (Qd Try.prog 94)] ⟨[.int .i64 c]++unds (Try.f94.ntmps - 1),[]⟩:=by
 obtain ⟨q0_0,h⟩:=h
 obtain ⟨q1_0,h⟩:=h
 exact p94_start_0 c hE ⟨q0_0,q1_0,trivial⟩ (AvLe.of_eq (by rw [h]; try rfl))
theorem into_ok (c:Int) (h:0≤c∧c≤1000):Pure Try.prog 96 [.int .i64 c] (.int .i64 (2*c)):=Qy Try.func96 f96b fun E hE=>f96W c (rv:=2*c) hE ⟨⟨by omega,by omega⟩,rfl⟩
theorem Vx (c:Int) (h:0≤c∧c≤1000):Pure Try.prog 94 [.int .i64 c] (.int .i64 (2*c+1)):=Qy Try.func94 f94b fun E hE=>f94W c (rv:=2*c+1) hE ⟨⟨by omega,by omega⟩,⟨by omega,by omega⟩,rfl⟩
theorem f92b:Try.f92.body=some (Qd Try.prog 92):=by kernel_rfl
def Qcr (P:Program):List Item:=kAt 400 [.code (Qd P 92)] [.stop]
def f92S0 (f:Fld) (i:Nat) (v0:List (K2 × Int)):St:=⟨([.rptr [.int .i64 f.g.w,.int .i64 f.g.h,.rsl (rowI f.g.cells) 0 f.g.cells.length,.rsl (rowI f.g.hts) 0 f.g.hts.length,.rsl (Qc f.ps) 0 f.ps.length,.rsl (Qb f.ss) 0 f.ss.length,.rsl (rowI f.tk) 0 f.tk.length] 0,J,J,.mp 0 0 false]++jj 9 ([.int .i64 (f.g.cells.length:Int),.int .i64 (i:Int)]++Js 45)),[⟨true,0,0,true,(Qo v0),false⟩]⟩
def f92G0 (E:Env) (f:Fld) (i:Nat) (v0:List (K2 × Int)):Prop:=G Try.prog E (Qcr Try.prog) (f92S0 f i v0 )
def f92K1 (P:Program):List Item:=kAt 400 [.code (Qd P 92)] [.b true,.b false,.b false,.stop]
def f92S1 (f:Fld) (c:Nat) (k:Nat) (k1:(List Int)) (k11:Nat) (v0:List (K2 × Int)) (k111:Nat):St:=⟨([.rptr [.int .i64 f.g.w,.int .i64 f.g.h,.rsl (rowI f.g.cells) 0 f.g.cells.length,.rsl (rowI f.g.hts) 0 f.g.hts.length,.rsl (Qc f.ps) 0 f.ps.length,.rsl (Qb f.ss) 0 f.ss.length,.rsl (rowI f.tk) 0 f.tk.length] 0,J,J,.mp 0 0 false,.int .i64 (c:Int)]++jj 8 ([.int .i64 (f.g.cells.length:Int),.int .i64 (k:Int)]++jj 27 ([.rsl (rowI k1) 0 k1.length,.int .i64 (k11:Int),.int .i64 (k111:Int)]++Js 15))),[⟨true,0,0,true,(Qo v0),false⟩]⟩
def f92G1 (E:Env) (f:Fld) (c:Nat) (k:Nat) (k1:(List Int)) (k11:Nat) (v0:List (K2 × Int)) (k111:Nat):Prop:=G Try.prog E (f92K1 Try.prog) (f92S1 f c k k1 k11 v0 k111 )
abbrev z92_1 (f:Fld):List AV:=[.int .i64 f.g.w,.int .i64 f.g.h,.rsl (rowI f.g.cells) 0 f.g.cells.length,.rsl (rowI f.g.hts) 0 f.g.hts.length,.rsl (Qc f.ps) 0 f.ps.length,.rsl (Qb f.ss) 0 f.ss.length,.rsl (rowI f.tk) 0 f.tk.length]
theorem p92_start_0 (f:Fld) {E:Env} {rv:AV} {bs2:List Blk} (hE:LentE Try.prog 92 [] rv bs2 E) (ho:AllP [])
 (hg:G Try.prog E (Qcr Try.prog) ⟨([.rptr (z92_1 f) 0,J,J,.mp 0 0 false]++jj 9 ([.int .i64 (f.g.cells.length:Int),.int .i64 0]++Js 45)),[⟨true,0,0,true,[],false⟩]⟩):G Try.prog E [.code (Qd Try.prog 92)] ⟨[.rptr (z92_1 f) 0]++unds (Try.f92.ntmps - 1),[]⟩ :=
 Qe (n:=400) (ds:=[]) (cs:=[]) (live:=[0,3,13,14]) (m:=1) (evs:=[.stop]) (obs:=_) hE.kind (hE.nogh0 _) Qg (by kernel_rfl) ho hg
theorem f92W (f:Fld) {E:Env} {res:AV} {bs2:List Blk} (hE:LentE Try.prog 92 [] res bs2 E)
 (h:f92G0 E f 0 ([])):G Try.prog E [.code (Qd Try.prog 92)] ⟨[.rptr [.int .i64 f.g.w,.int .i64 f.g.h,.rsl (rowI f.g.cells) 0 f.g.cells.length,.rsl (rowI f.g.hts) 0 f.g.hts.length,.rsl (Qc f.ps) 0 f.ps.length,.rsl (Qb f.ss) 0 f.ss.length,.rsl (rowI f.tk) 0 f.tk.length] 0]++unds (Try.f92.ntmps - 1),[]⟩:=by
 exact p92_start_0 f hE trivial h
theorem p92_0_0 (f:Fld) (i:Nat) (v0:List (K2 × Int)) {E:Env} {rv:AV} {bs2:List Blk} (hE:LentE Try.prog 92 [] rv bs2 E) (ho:AllP [(decide ((i:Int)<(f.g.cells.length:Int)))=true,Qi Try.prog (.clos 54 [] []) [.rptr (z92_1 f) 0,.int .i64 (i:Int)] (.bool (QF f (i:Int))),(!(QF f (i:Int)))=true,InR .i64 ((i:Int)+1)])
 (hg:G Try.prog E (Qcr Try.prog) ⟨([.rptr (z92_1 f) 0,J,J,.mp 0 0 false]++jj 9 ([.int .i64 (f.g.cells.length:Int),.int .i64 ((i:Int)+1)]++Js 45)),[⟨true,0,0,true,(Qo v0),false⟩]⟩):G Try.prog E (Qcr Try.prog) (f92S0 f i v0 ) :=
 Qe (n:=400) (ds:=[]) (cs:=[]) (live:=[0,3,13,14]) (m:=1) (evs:=[.b true,.v (.bool (QF f (i:Int))),.b true,.stop]) (obs:=_) hE.kind (hE.nogh0 _) Qg (by kernel_rfl) ho hg
theorem p92_0_1 (f:Fld) (i:Nat) (v0:List (K2 × Int)) (e:Int) {E:Env} {rv:AV} {bs2:List Blk} (hE:LentE Try.prog 92 [] rv bs2 E) (ho:AllP [(decide ((i:Int)<(f.g.cells.length:Int)))=true,Qi Try.prog (.clos 54 [] []) [.rptr [.int .i64 f.g.w,.int .i64 f.g.h,.rsl (rowI f.g.cells) 0 f.g.cells.length,.rsl (rowI f.g.hts) 0 f.g.hts.length,.rsl (Qc f.ps) 0 f.ps.length,.rsl (Qb f.ss) 0 f.ss.length,.rsl (rowI f.tk) 0 f.tk.length] 0,.int .i64 (i:Int)] (.bool (QF f (i:Int))),(!(QF f (i:Int)))=false,Qi Try.prog (.clos 96 [] []) [.int .i64 (i:Int)] (.int .i64 (2*(i:Int))),Qi Try.prog (.clos 94 [] []) [.int .i64 (i:Int)] (.int .i64 (2*(i:Int)+1)),XK Try.prog 177 (.agg [.int .i64 (2*(i:Int)),.int .i64 (2*(i:Int)+1)]) (Qo v0),0≤(i:Int)∧(i:Int)<(f.g.cells.length:Int),((rowI f.g.cells).drop (0+(Int.toNat (i:Int))*1)).take 1=[.int .i64 e],(e == 3)=true,Qi Try.prog (.clos 94 [] []) [.int .i64 (i:Int)] (.int .i64 (2*(i:Int)+1)),XK Try.prog 177 (.agg [.int .i64 (2*(i:Int)+1),.int .i64 128]) ((Qo v0)++[.clos 0 [.agg [.int .i64 (2*(i:Int)),.int .i64 (2*(i:Int)+1)]] [.int .i64 1]]),InR .i64 ((i:Int)+1)])
 (hg:G Try.prog E (Qcr Try.prog) ⟨([.rptr [.int .i64 f.g.w,.int .i64 f.g.h,.rsl (rowI f.g.cells) 0 f.g.cells.length,.rsl (rowI f.g.hts) 0 f.g.hts.length,.rsl (Qc f.ps) 0 f.ps.length,.rsl (Qb f.ss) 0 f.ss.length,.rsl (rowI f.tk) 0 f.tk.length] 0,J,J,.mp 0 0 false]++jj 9 ([.int .i64 (f.g.cells.length:Int),.int .i64 ((i:Int)+1)]++Js 45)),[⟨true,0,0,true,(((Qo v0)++[.clos 0 [.agg [.int .i64 (2*(i:Int)),.int .i64 (2*(i:Int)+1)]] [.int .i64 1]])++[.clos 0 [.agg [.int .i64 (2*(i:Int)+1),.int .i64 128]] [.int .i64 1]]),false⟩]⟩):G Try.prog E (Qcr Try.prog) (f92S0 f i v0 ) :=
 Qe (n:=400) (ds:=[]) (cs:=[]) (live:=[0,3,13,14]) (m:=1) (evs:=[.b true,.v (.bool (QF f (i:Int))),.b false,.v (.int .i64 (2*(i:Int))),.v (.int .i64 (2*(i:Int)+1)),.auto,.ld (.int .i64 e),.b true,.v (.int .i64 (2*(i:Int)+1)),.stop]) (obs:=_) hE.kind (hE.nogh0 _) Qg (by kernel_rfl) ho hg
theorem p92_0_2 (f:Fld) (i:Nat) (v0:List (K2 × Int)) (e:Int) {E:Env} {rv:AV} {bs2:List Blk} (hE:LentE Try.prog 92 [] rv bs2 E) (ho:AllP [(decide ((i:Int)<(f.g.cells.length:Int)))=true,Qi Try.prog (.clos 54 [] []) [.rptr [.int .i64 f.g.w,.int .i64 f.g.h,.rsl (rowI f.g.cells) 0 f.g.cells.length,.rsl (rowI f.g.hts) 0 f.g.hts.length,.rsl (Qc f.ps) 0 f.ps.length,.rsl (Qb f.ss) 0 f.ss.length,.rsl (rowI f.tk) 0 f.tk.length] 0,.int .i64 (i:Int)] (.bool (QF f (i:Int))),(!(QF f (i:Int)))=false,Qi Try.prog (.clos 96 [] []) [.int .i64 (i:Int)] (.int .i64 (2*(i:Int))),Qi Try.prog (.clos 94 [] []) [.int .i64 (i:Int)] (.int .i64 (2*(i:Int)+1)),XK Try.prog 177 (.agg [.int .i64 (2*(i:Int)),.int .i64 (2*(i:Int)+1)]) (Qo v0),0≤(i:Int)∧(i:Int)<(f.g.cells.length:Int),((rowI f.g.cells).drop (0+(Int.toNat (i:Int))*1)).take 1=[.int .i64 e],(e == 3)=false,Qi Try.prog (.clos 57 [] []) [.rptr [.int .i64 f.g.w,.int .i64 f.g.h,.rsl (rowI f.g.cells) 0 f.g.cells.length,.rsl (rowI f.g.hts) 0 f.g.hts.length,.rsl (Qc f.ps) 0 f.ps.length,.rsl (Qb f.ss) 0 f.ss.length,.rsl (rowI f.tk) 0 f.tk.length] 0,.int .i64 (i:Int)] (.rsl (rowI (Ql f.g (i:Int))) 0 ((Ql f.g (i:Int)).length))])
 (hg:G Try.prog E (f92K1 Try.prog) ⟨([.rptr [.int .i64 f.g.w,.int .i64 f.g.h,.rsl (rowI f.g.cells) 0 f.g.cells.length,.rsl (rowI f.g.hts) 0 f.g.hts.length,.rsl (Qc f.ps) 0 f.ps.length,.rsl (Qb f.ss) 0 f.ss.length,.rsl (rowI f.tk) 0 f.tk.length] 0,J,J,.mp 0 0 false,.int .i64 (i:Int)]++jj 8 ([.int .i64 (f.g.cells.length:Int),.int .i64 (i:Int)]++jj 27 ([.rsl (rowI (Ql f.g (i:Int))) 0 ((Ql f.g (i:Int)).length),.int .i64 (((Ql f.g (i:Int)).length:Nat):Int),.int .i64 0]++Js 15))),[⟨true,0,0,true,((Qo v0)++[.clos 0 [.agg [.int .i64 (2*(i:Int)),.int .i64 (2*(i:Int)+1)]] [.int .i64 1]]),false⟩]⟩):G Try.prog E (Qcr Try.prog) (f92S0 f i v0 ) :=
 Qe (n:=400) (ds:=[]) (cs:=[]) (live:=[0,3,4,13,14,42,43,44]) (m:=1) (evs:=[.b true,.v (.bool (QF f (i:Int))),.b false,.v (.int .i64 (2*(i:Int))),.v (.int .i64 (2*(i:Int)+1)),.auto,.ld (.int .i64 e),.b false,.v (.rsl (rowI (Ql f.g (i:Int))) 0 ((Ql f.g (i:Int)).length)),.stop]) (obs:=_) hE.kind (hE.nogh0 _) Qg (by kernel_rfl) ho hg
theorem p92_0_3 (f:Fld) (i:Nat) (v0:List (K2 × Int)) {E:Env} {res:AV} {bs2:List Blk} (hE:LentE Try.prog 92 [] res bs2 E) (ho:AllP [(decide ((i:Int)<(f.g.cells.length:Int)))=false])
 (hr:(.mp 0 0 false)=res) (hb:[⟨true,0,0,true,(Qo v0),false⟩]=bs2):G Try.prog E (Qcr Try.prog) (f92S0 f i v0 ) :=
 Qr (n:=400) (live:=[2]) (m:=1) (evs:=[.b false]) (obs:=_) hE (hE.nogh0 _) Try.func92 Qg (by kernel_rfl) ho hr hb
theorem f92W0 (f:Fld) (i:Nat) (v0:List (K2 × Int)) {E:Env} {res:AV} {bs2:List Blk} (hE:LentE Try.prog 92 [] res bs2 E)
 (h:(((i:Int)<(f.g.cells.length:Int)→((OnF f (i:Int))∧(((QF f (i:Int))=false→((I6 ((i:Int)+1))∧f92G0 E f (i+1) v0))∧((QF f (i:Int))=true→((0≤(i:Int)∧(i:Int)≤1000)∧((0≤(i:Int)∧(i:Int)≤1000)∧((Yq v0 (⟨(2*(i:Int)),(2*(i:Int)+1)⟩:K2))=false∧(∃ e:Int,f.g.cells[i]?=some e∧((e=3→((0≤(i:Int)∧(i:Int)≤1000)∧((Yq (v0++[((⟨(2*(i:Int)),(2*(i:Int)+1)⟩:K2),1)]) (⟨(2*(i:Int)+1),128⟩:K2))=false∧((I6 ((i:Int)+1))∧f92G0 E f (i+1) ((v0++[((⟨(2*(i:Int)),(2*(i:Int)+1)⟩:K2),1)])++[((⟨(2*(i:Int)+1),128⟩:K2),1)])))))∧(¬ (e=3)→((OnF f (i:Int))∧f92G1 E f i i (Ql f.g (i:Int)) ((Ql f.g (i:Int)).length) (v0++[((⟨(2*(i:Int)),(2*(i:Int)+1)⟩:K2),1)]) 0)))))))))))∧(¬ ((i:Int)<(f.g.cells.length:Int))→((.mp 0 0 false)=res∧[⟨true,0,0,true,(Qo v0),false⟩]=bs2)))):f92G0 E f i v0:=by
 rcases bft (decide ((i:Int)<(f.g.cells.length:Int))) with hc0 | hc0
 · have h:=h.1 (odt hc0)
   obtain ⟨h1,h⟩:=h
   rcases bft (!(QF f (i:Int))) with hc1 | hc1
   · have h:=h.1 (bnT hc1)
     obtain ⟨q3_2,h⟩:=h
     exact p92_0_0 f i v0 hE ⟨hc0,(Qk Try.func54 (by kernel_rfl) VI (Xp f (i:Int) h1)),hc1,q3_2,trivial⟩ h
   · have h:=h.2 (bnF hc1)
     obtain ⟨h2,h⟩:=h
     obtain ⟨h3,h⟩:=h
     obtain ⟨h4,h⟩:=h
     obtain ⟨e,h5,h⟩:=h
     rcases bft (e == 3) with hc2 | hc2
     · have h:=h.1 (eq_of_beq hc2)
       obtain ⟨h6,h⟩:=h
       obtain ⟨h7,h⟩:=h
       obtain ⟨q12_3,h⟩:=h
       refine p92_0_1 f i v0 e hE ⟨hc0,(Qk Try.func54 (by kernel_rfl) VI (Xp f (i:Int) h1)),hc1,(u96 (into_ok (i:Int) h2)),(u94 (Vx (i:Int) h3)),(ntNew h4),(Qs h5),(rp cI 1 0 1 h5),hc2,(u94 (Vx (i:Int) h6)),(by rw [(show Qo v0++[.clos 0 [.agg [.int .i64 (2*(i:Int)),.int .i64 (2*(i:Int)+1)]] [.int .i64 1]]=Qo (v0++[((⟨(2*(i:Int)),(2*(i:Int)+1)⟩:K2),1)]) from (XD cNtE v0 [((⟨(2*(i:Int)),(2*(i:Int)+1)⟩:K2),1)]).symm)]; exact (ntNew h7)),q12_3,trivial⟩ ?_
       rw [(show Qo v0++[.clos 0 [.agg [.int .i64 (2*(i:Int)),.int .i64 (2*(i:Int)+1)]] [.int .i64 1]]=Qo (v0++[((⟨(2*(i:Int)),(2*(i:Int)+1)⟩:K2),1)]) from (XD cNtE v0 [((⟨(2*(i:Int)),(2*(i:Int)+1)⟩:K2),1)]).symm)]; rw [(show Qo (v0++[((⟨(2*(i:Int)),(2*(i:Int)+1)⟩:K2),1)])++[.clos 0 [.agg [.int .i64 (2*(i:Int)+1),.int .i64 128]] [.int .i64 1]]=Qo ((v0++[((⟨(2*(i:Int)),(2*(i:Int)+1)⟩:K2),1)])++[((⟨(2*(i:Int)+1),128⟩:K2),1)]) from (XD cNtE (v0++[((⟨(2*(i:Int)),(2*(i:Int)+1)⟩:K2),1)]) [((⟨(2*(i:Int)+1),128⟩:K2),1)]).symm)]; exact h
     · have h:=h.2 (ne_of_beq_false hc2)
       obtain ⟨h6,h⟩:=h
       refine p92_0_2 f i v0 e hE ⟨hc0,(Qk Try.func54 (by kernel_rfl) VI (Xp f (i:Int) h1)),hc1,(u96 (into_ok (i:Int) h2)),(u94 (Vx (i:Int) h3)),(ntNew h4),(Qs h5),(rp cI 1 0 1 h5),hc2,(Qk Try.func57 (by kernel_rfl) f57qb (Wu f (i:Int) h6)),trivial⟩ ?_
       rw [(show Qo v0++[.clos 0 [.agg [.int .i64 (2*(i:Int)),.int .i64 (2*(i:Int)+1)]] [.int .i64 1]]=Qo (v0++[((⟨(2*(i:Int)),(2*(i:Int)+1)⟩:K2),1)]) from (XD cNtE v0 [((⟨(2*(i:Int)),(2*(i:Int)+1)⟩:K2),1)]).symm)]; exact h
 · have h:=h.2 (odf hc0)
   exact p92_0_3 f i v0 hE ⟨hc0,trivial⟩ h.1 h.2
theorem p92_1_0 (f:Fld) (c:Nat) (k:Nat) (k1:(List Int)) (k11:Nat) (v0:List (K2 × Int)) (k111:Nat) (e:Int) {E:Env} {rv:AV} {bs2:List Blk} (hE:LentE Try.prog 92 [] rv bs2 E) (ho:AllP [(decide ((k111:Int)<(k11:Int)))=true,0≤(k111:Int)∧(k111:Int)<(k1.length:Int),((rowI k1).drop (0+(Int.toNat (k111:Int))*1)).take 1=[.int .i64 e],Qi Try.prog (.clos 54 [] []) [.rptr [.int .i64 f.g.w,.int .i64 f.g.h,.rsl (rowI f.g.cells) 0 f.g.cells.length,.rsl (rowI f.g.hts) 0 f.g.hts.length,.rsl (Qc f.ps) 0 f.ps.length,.rsl (Qb f.ss) 0 f.ss.length,.rsl (rowI f.tk) 0 f.tk.length] 0,.int .i64 e] (.bool (QF f e)),(QF f e)=true,Qi Try.prog (.clos 94 [] []) [.int .i64 (c:Int)] (.int .i64 (2*(c:Int)+1)),Qi Try.prog (.clos 96 [] []) [.int .i64 e] (.int .i64 (2*e)),XK Try.prog 177 (.agg [.int .i64 (2*(c:Int)+1),.int .i64 (2*e)]) (Qo v0),InR .i64 ((k111:Int)+1)])
 (hg:G Try.prog E (f92K1 Try.prog) ⟨([.rptr [.int .i64 f.g.w,.int .i64 f.g.h,.rsl (rowI f.g.cells) 0 f.g.cells.length,.rsl (rowI f.g.hts) 0 f.g.hts.length,.rsl (Qc f.ps) 0 f.ps.length,.rsl (Qb f.ss) 0 f.ss.length,.rsl (rowI f.tk) 0 f.tk.length] 0,J,J,.mp 0 0 false,.int .i64 (c:Int)]++jj 8 ([.int .i64 (f.g.cells.length:Int),.int .i64 (k:Int)]++jj 27 ([.rsl (rowI k1) 0 k1.length,.int .i64 (k11:Int),.int .i64 ((k111:Int)+1)]++Js 15))),[⟨true,0,0,true,((Qo v0)++[.clos 0 [.agg [.int .i64 (2*(c:Int)+1),.int .i64 (2*e)]] [.int .i64 1]]),false⟩]⟩):G Try.prog E (f92K1 Try.prog) (f92S1 f c k k1 k11 v0 k111 ) :=
 Qe (n:=400) (ds:=[]) (cs:=[]) (live:=[0,3,4,13,14,42,43,44]) (m:=1) (evs:=[.b true,.ld (.int .i64 e),.v (.bool (QF f e)),.b true,.v (.int .i64 (2*(c:Int)+1)),.v (.int .i64 (2*e)),.stop]) (obs:=_) hE.kind (hE.nogh0 _) Qg (by kernel_rfl) ho hg
theorem p92_1_1 (f:Fld) (c:Nat) (k:Nat) (k1:(List Int)) (k11:Nat) (v0:List (K2 × Int)) (k111:Nat) (e:Int) {E:Env} {rv:AV} {bs2:List Blk} (hE:LentE Try.prog 92 [] rv bs2 E) (ho:AllP [(decide ((k111:Int)<(k11:Int)))=true,0≤(k111:Int)∧(k111:Int)<(k1.length:Int),((rowI k1).drop (0+(Int.toNat (k111:Int))*1)).take 1=[.int .i64 e],Qi Try.prog (.clos 54 [] []) [.rptr (z92_1 f) 0,.int .i64 e] (.bool (QF f e)),(QF f e)=false,InR .i64 ((k111:Int)+1)])
 (hg:G Try.prog E (f92K1 Try.prog) ⟨([.rptr (z92_1 f) 0,J,J,.mp 0 0 false,.int .i64 (c:Int)]++jj 8 ([.int .i64 (f.g.cells.length:Int),.int .i64 (k:Int)]++jj 27 ([.rsl (rowI k1) 0 k1.length,.int .i64 (k11:Int),.int .i64 ((k111:Int)+1)]++Js 15))),[⟨true,0,0,true,(Qo v0),false⟩]⟩):G Try.prog E (f92K1 Try.prog) (f92S1 f c k k1 k11 v0 k111 ) :=
 Qe (n:=400) (ds:=[]) (cs:=[]) (live:=[0,3,4,13,14,42,43,44]) (m:=1) (evs:=[.b true,.ld (.int .i64 e),.v (.bool (QF f e)),.b false,.stop]) (obs:=_) hE.kind (hE.nogh0 _) Qg (by kernel_rfl) ho hg
theorem p92_1_2 (f:Fld) (c:Nat) (k:Nat) (k1:(List Int)) (k11:Nat) (v0:List (K2 × Int)) (k111:Nat) {E:Env} {rv:AV} {bs2:List Blk} (hE:LentE Try.prog 92 [] rv bs2 E) (ho:AllP [(decide ((k111:Int)<(k11:Int)))=false,InR .i64 ((k:Int)+1)])
 (hg:G Try.prog E (Qcr Try.prog) ⟨([.rptr (z92_1 f) 0,J,J,.mp 0 0 false]++jj 9 ([.int .i64 (f.g.cells.length:Int),.int .i64 ((k:Int)+1)]++Js 45)),[⟨true,0,0,true,(Qo v0),false⟩]⟩):G Try.prog E (f92K1 Try.prog) (f92S1 f c k k1 k11 v0 k111 ) :=
 Qe (n:=400) (ds:=[]) (cs:=[]) (live:=[0,3,13,14]) (m:=1) (evs:=[.b false,.stop]) (obs:=_) hE.kind (hE.nogh0 _) Qg (by kernel_rfl) ho hg
theorem f92W1 (f:Fld) (c:Nat) (k:Nat) (k1:(List Int)) (k11:Nat) (v0:List (K2 × Int)) (k111:Nat) {E:Env} {res:AV} {bs2:List Blk} (hE:LentE Try.prog 92 [] res bs2 E)
 (h:(((k111:Int)<(k11:Int)→(∃ e:Int,k1[k111]?=some e∧((OnF f e)∧(((QF f e)=true→((0≤(c:Int)∧(c:Int)≤1000)∧((0≤e∧e≤1000)∧((Yq v0 (⟨(2*(c:Int)+1),(2*e)⟩:K2))=false∧((I6 ((k111:Int)+1))∧f92G1 E f c k k1 k11 (v0++[((⟨(2*(c:Int)+1),(2*e)⟩:K2),1)]) (k111+1))))))∧((QF f e)=false→((I6 ((k111:Int)+1))∧f92G1 E f c k k1 k11 v0 (k111+1)))))))∧(¬ ((k111:Int)<(k11:Int))→((I6 ((k:Int)+1))∧f92G0 E f (k+1) v0)))):f92G1 E f c k k1 k11 v0 k111:=by
 rcases bft (decide ((k111:Int)<(k11:Int))) with hc0 | hc0
 · have h:=h.1 (odt hc0)
   obtain ⟨e,h1,h⟩:=h
   obtain ⟨h2,h⟩:=h
   rcases bft (QF f e) with hc1 | hc1
   · have h:=h.1 hc1
     obtain ⟨h3,h⟩:=h
     obtain ⟨h4,h⟩:=h
     obtain ⟨h5,h⟩:=h
     obtain ⟨q9_2,h⟩:=h
     refine p92_1_0 f c k k1 k11 v0 k111 e hE ⟨hc0,(Qs h1),(rp cI 1 0 1 h1),(Qk Try.func54 (by kernel_rfl) VI (Xp f e h2)),hc1,(u94 (Vx (c:Int) h3)),(u96 (into_ok e h4)),(ntNew h5),q9_2,trivial⟩ ?_
     rw [(show Qo v0++[.clos 0 [.agg [.int .i64 (2*(c:Int)+1),.int .i64 (2*e)]] [.int .i64 1]]=Qo (v0++[((⟨(2*(c:Int)+1),(2*e)⟩:K2),1)]) from (XD cNtE v0 [((⟨(2*(c:Int)+1),(2*e)⟩:K2),1)]).symm)]; exact h
   · have h:=h.2 hc1
     obtain ⟨q6_2,h⟩:=h
     exact p92_1_1 f c k k1 k11 v0 k111 e hE ⟨hc0,(Qs h1),(rp cI 1 0 1 h1),(Qk Try.func54 (by kernel_rfl) VI (Xp f e h2)),hc1,q6_2,trivial⟩ h
 · have h:=h.2 (odf hc0)
   obtain ⟨q1_1,h⟩:=h
   exact p92_1_2 f c k k1 k11 v0 k111 hE ⟨hc0,q1_1,trivial⟩ h
theorem qf (f:Fld) (hf:FldOk f):Lent Try.prog 92 [.rptr [.int .i64 f.g.w,.int .i64 f.g.h,.rsl (rowI f.g.cells) 0 f.g.cells.length,.rsl (rowI f.g.hts) 0 f.g.hts.length,.rsl (Qc f.ps) 0 f.ps.length,.rsl (Qb f.ss) 0 f.ss.length,.rsl (rowI f.tk) 0 f.tk.length] 0] [] (.mp 0 0 false) [⟨true,0,0,true,Qo (netK f),false⟩]:=YX Try.func92 f92b fun E hE=>by
 have hg:=XF hf.g
 have main:∀ (d i:Nat) (v:List (K2 × Int)),i+d=f.g.cells.length→(∀ x ∈ v,x.1.a<2*(i:Int))→Qao f d i v=netK f→f92G0 E f i v:=by
  intro d
  induction d with
  | zero =>
   intro i v hd hv hr
   exact f92W0 f i v hE ⟨fun h=>by omega,fun _=>⟨rfl,by rw [← hr]; rfl⟩⟩
  | succ d ih =>
   intro i v hd hv hr
   have hx:f.g.cells[i]?=some (f.g.cells[i]'(by omega)):=List.getElem?_eq_getElem (by omega)
   generalize f.g.cells[i]'(by omega)=e at hx
   have hO:OnF f (i:Int):=⟨hf,by omega,by omega⟩
   have hce:Va f.g (i:Int)=e:=by
    have:=hO.on.cell
    rw [show Int.toNat (i:Int)=i by omega,hx] at this
    exact (Option.some.inj this).symm
   unfold Qao at hr
   have side:∀ (q j:Nat) (v:List (K2 × Int)),j+q=(Ql f.g (i:Int)).length→(∀ x ∈ v,x.1.a<2*(i:Int)+1 ∨ (x.1.a=2*(i:Int)+1∧∃ k ∈ (Ql f.g (i:Int)).take j,x.1.b=2*k)) →
    Qao f d (i+1) (v++Qbw f (i:Int) ((Ql f.g (i:Int)).drop j))=netK f→f92G1 E f i i (Ql f.g (i:Int)) (Ql f.g (i:Int)).length v j:=by
    intro q
    induction q with
    | zero =>
     intro j v hj hv hr
     rw [List.drop_eq_nil_of_le (by omega),show Qbw f (i:Int) []=[] from rfl,List.append_nil] at hr
     exact f92W1 f i i _ _ v j hE ⟨fun h=>by omega,fun _=>⟨⟨by omega,by omega⟩,ih (i+1) v (by omega) (fun x hx=>by rcases hv x hx with h | h <;> omega) hr⟩⟩
    | succ q iq =>
     intro j v hj hv hr
     have hy:(Ql f.g (i:Int))[j]?=some ((Ql f.g (i:Int))[j]'(by omega)):=List.getElem?_eq_getElem (by omega)
     have hb:=Yi hO (List.mem_of_getElem? hy)
     rw [List.drop_eq_getElem_cons (by omega),QaA,← List.append_assoc] at hr
     have htk:=asc_take (beside_asc hO.on) hy
     have htk2:(Ql f.g (i:Int)).take (j+1)=(Ql f.g (i:Int)).take j++[(Ql f.g (i:Int))[j]'(by omega)]:=List.take_succ_eq_append_getElem (by omega)
     have hb4:=qV f.g (i:Int)
     generalize (Ql f.g (i:Int))[j]'(by omega)=k at hy hb hr htk htk2
     have k0:=hb.lo; have k1:=hb.hi
     refine f92W1 f i i _ _ v j hE ⟨fun _=>⟨k,hy,hb,fun p=>⟨⟨by omega,by omega⟩,⟨by omega,by omega⟩,ntNot (fun x hx hh=>?_),⟨by omega,by omega⟩,iq (j+1) _ (by omega) (fun x hx=>?_) ?_⟩,fun p=>⟨⟨by omega,by omega⟩,iq (j+1) v (by omega) (fun x hx=>?_) ?_⟩⟩,fun h=>by omega⟩
     · rcases hv x hx with h | ⟨h,y,hy,h2⟩
       · have:=hh.1; simp only at this; omega
       · have:=hh.2; simp only at this
         exact htk y hy (by omega)
     · rcases List.mem_append.1 hx with hx | hx
       · rcases hv x hx with h | ⟨h,y,hy,h2⟩
         · exact .inl h
         · exact .inr ⟨h,y,by rw [htk2]; exact List.mem_append_left _ hy,h2⟩
       · rw [List.mem_singleton] at hx; subst hx
         exact .inr ⟨rfl,k,by rw [htk2]; simp,rfl⟩
     · rw [if_pos p] at hr; exact hr
     · rcases hv x hx with h | ⟨h,y,hy,h2⟩
       · exact .inl h
       · exact .inr ⟨h,y,by rw [htk2]; exact List.mem_append_left _ hy,h2⟩
     · rw [if_neg (by rw [p]; exact Bool.false_ne_true),List.append_nil] at hr; exact hr
   refine f92W0 f i v hE ⟨fun _=>⟨hO,fun p=>⟨⟨by omega,by omega⟩,ih (i+1) v (by omega) (fun x hx=>by have:=hv x hx; omega) ?_⟩,fun p=>⟨⟨by omega,by omega⟩,⟨by omega,by omega⟩,ntNot (fun x hx hh=>?_),e,hx,fun q=>⟨⟨by omega,by omega⟩,ntNot (fun x hx hh=>?_),⟨by omega,by omega⟩,ih (i+1) _ (by omega) (fun x hx=>?_) ?_⟩,fun q=>⟨hO,side (Ql f.g (i:Int)).length 0 _ (by omega) (fun x hx=>?_) ?_⟩⟩⟩,fun h=>by omega⟩
   · rw [yo,if_neg (by rw [p]; exact Bool.false_ne_true),List.append_nil] at hr; exact hr
   · have:=hv x hx; have:=hh.1; simp only at this; omega
   · rcases List.mem_append.1 hx with hx | hx
     · have:=hv x hx; have:=hh.1; simp only at this; omega
     · rw [List.mem_singleton] at hx; subst hx
       have:=hh.1; simp only at this; omega
   · rcases List.mem_append.1 hx with hx | hx
     · rcases List.mem_append.1 hx with hx | hx
       · have:=hv x hx; omega
       · rw [List.mem_singleton] at hx; subst hx; simp only; omega
     · rw [List.mem_singleton] at hx; subst hx; simp only; omega
   · rw [yo,if_pos p,if_pos (by rw [hce]; exact q)] at hr
     rw [List.append_assoc]; exact hr
   · rcases List.mem_append.1 hx with hx | hx
     · have:=hv x hx; left; omega
     · rw [List.mem_singleton] at hx; subst hx; left; simp only; omega
   · rw [yo,if_pos p,if_neg (by rw [hce]; exact q)] at hr
     rw [List.drop_zero,List.append_assoc]; exact hr
 exact f92W f hE (main f.g.cells.length 0 [] (by omega) (by simp) rfl)
end Go.Proofs.Ytemklbioijmjiaa