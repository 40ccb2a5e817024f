/- A part of the proof: several texts, one behind the other. -/
import Derived.Test.YtemklbioijmjiaaLTopStallsB
import Derived.Test.YtemklbioijmjiaaChecked
set_option linter.unusedVariables false
set_option linter.unusedSimpArgs false
set_option maxRecDepth 100000
namespace Go.Proofs.Ytemklbioijmjiaa
open Go Ax
open Go.Proofs
abbrev NN:Int:=1152921504606846976
/-- The prices so far. -/
def LP (f:Nat→Int) (j:Nat):List Int:=(List.range 1008).map fun i=>if i<j then f i else NN
theorem qA {f:Nat→Int} {j:Nat}:(LP f j).length=1008:=by simp [LP]
theorem Ym {f:Nat→Int} {j i:Nat} (h:i<1008):(LP f j)[i]?=some (if i<j then f i else NN):=by
 unfold LP; rw [List.getElem?_map,List.getElem?_range h]; rfl
theorem LP_set {f:Nat→Int} {j:Nat} (h:j<1008):(LP f j).set j (f j)=LP f (j+1):=by
 refine List.ext_getElem? fun i=>?_
 by_cases hi:i<1008
 · rw [Ym hi]
   by_cases e:j=i
   · subst e
     rw [List.getElem?_set_self (by rw [qA]; omega),if_pos (by omega)]
   · rw [List.getElem?_set_ne e,Ym hi]
     by_cases c:i<j
     · rw [if_pos c,if_pos (by omega)]
     · rw [if_neg c,if_neg (by omega)]
 · rw [List.getElem?_eq_none (by rw [List.length_set,qA]; omega),List.getElem?_eq_none (by rw [qA]; omega)]
theorem LP_zero {f:Nat→Int}:List.replicate 1008 NN=LP f 0:=by
 refine List.ext_getElem? fun i=>?_
 by_cases hi:i<1008
 · rw [Ym hi,List.getElem?_replicate,if_pos hi,if_neg (by omega)]
 · rw [List.getElem?_eq_none (by simp; omega),List.getElem?_eq_none (by rw [qA]; omega)]
def c1 (t:Nat):Int:=if t % 6=0 then 1000*((t / 6:Nat):Int) else NN
def c0 (t:Nat):Int:=1000*((t / 6:Nat):Int)+200*((t % 6:Nat):Int)
def r2:List Int:=(List.replicate 1008 NN).set 0 0
theorem r2_get {j:Nat} (h:j<1008):r2[j]?=some (if j=0 then 0 else NN):=by
 unfold r2
 by_cases e:j=0
 · subst e; rw [List.getElem?_set_self (by simp),if_pos rfl]
 · rw [List.getElem?_set_ne (by omega),List.getElem?_replicate,if_pos h,if_neg e]
theorem Vn {t:Nat} (h:t<1008) (h6:t % 6=0):c1 t=1000*((t / 6:Nat):Int)∧0≤c1 t∧c1 t≤200000:=by
 unfold c1; rw [if_pos h6]; omega
theorem WN {t:Nat} (h6:¬ t % 6=0):c1 t=NN:=by unfold c1; rw [if_neg h6]
theorem c0_bd {t:Nat} (h:t<1008):0≤c0 t∧c0 t≤200000:=by unfold c0; omega
theorem c0_step {j:Nat} (h0:1≤j) (h:j<1008):iMin (c1 j) (c0 (j - 1)+200)=c0 j:=by
 unfold iMin
 by_cases h6:j % 6=0
 · obtain ⟨e,-,-⟩:=Vn h h6
   rw [e]
   unfold c0
   rw [if_neg (by omega)]; omega
 · rw [WN h6]
   unfold c0 NN
   rw [if_pos (by omega)]; omega
theorem c1_step {j:Nat} (h0:6≤j) (h:j<1008) (h6:(j - 6) % 6=0):iMin NN (c1 (j - 6)+1000)=c1 j:=by
 obtain ⟨e,-,-⟩:=Vn (t:=j - 6) (by omega) h6
 obtain ⟨e',-,-⟩:=Vn (t:=j) (by omega) (by omega)
 rw [e,e']
 unfold iMin NN
 rw [if_pos (by omega)]; omega
theorem f186b:Try.f186.body=some (Qc Try.prog 186):=by kernel_rfl
theorem u186 {a c k:List AV} {r:AV} (h:Pure Try.prog 186 (a++c++k) r):Qe Try.prog (.clos 186 a k) c r:=Qr Try.func186 (by kernel_rfl) f186b h
def Vk (P:Program):List Item:=kAt 400 [.code (Qc P 186)] [.b true,.b true,.b true,.b false,.b true,.b false,.b true,.stop]
def VL (v4:List Int) (v6:List Int) (j:Nat) (v2:List Int) (g4:Nat) (g6:Nat) (g2:Nat):St:=⟨([.rsl [.int .i64 1,.int .i64 200,.int .i64 6,.int .i64 1000] 0 2,.int .i64 7,J,J,J,J,.int .i64 1007,.sl 0 0 0 3 1,J,.int .i64 0]++jj 43 ([.int .i64 (((List.replicate (Int.toNat (1008:Int)) (1152921504606846976:Int)).length:Nat):Int),.int .i64 (j:Int)]++Js 163)),[⟨true,0,1,false,[.sl 2 g2 0 v2.length 1,.sl 4 g4 0 v4.length 1,.sl 6 g6 0 v6.length 1],true⟩,⟨false,1,1,true,[],false⟩,⟨true,g2,1,true,(rowI v2),true⟩,⟨false,1,1,true,[],false⟩,⟨true,g4,1,true,(rowI v4),true⟩,⟨false,1,1,true,[],false⟩,⟨true,g6,1,true,(rowI v6),true⟩]⟩
def qs (E:Env) (v4:List Int) (v6:List Int) (j:Nat) (v2:List Int):Prop:=∀ g4 g6 g2:Nat,G Try.prog E (Vk Try.prog) (VL v4 v6 j v2 g4 g6 g2)
def VM (P:Program):List Item:=kAt 400 [.code (Qc P 186)] [.b true,.b true,.b true,.b false,.b true,.b false,.b true,.b false,.b false,.stop]
def f186S3 (v2:List Int) (v4:List Int) (v6:List Int) (t:Nat) (tokens:Nat) (g2:Nat) (g4:Nat) (g6:Nat):St:=⟨([.rsl [.int .i64 1,.int .i64 200,.int .i64 6,.int .i64 1000] 0 2]++jj 5 ([.int .i64 1007,.sl 0 0 0 3 1,J,J,J,J,.int .i64 (tokens:Int),.int .i64 (t:Int)]++Js 204)),[⟨true,0,1,false,[.sl 2 g2 0 v2.length 1,.sl 4 g4 0 v4.length 1,.sl 6 g6 0 v6.length 1],true⟩,⟨false,1,1,true,[],false⟩,⟨true,g2,1,true,(rowI v2),true⟩,⟨false,1,1,true,[],false⟩,⟨true,g4,1,true,(rowI v4),true⟩,⟨false,1,1,true,[],false⟩,⟨true,g6,1,true,(rowI v6),true⟩]⟩
def f186G3 (E:Env) (v2:List Int) (v4:List Int) (v6:List Int) (t:Nat) (tokens:Nat):Prop:=∀ g2 g4 g6:Nat,G Try.prog E (VM Try.prog) (f186S3 v2 v4 v6 t tokens g2 g4 g6)
def WB (P:Program):List Item:=kAt 400 [.code (Qc P 186)] [.b true,.b true,.b true,.b false,.b true,.b false,.b true,.b false,.b false,.b false,.b false,.b true,.stop]
def f186S5 (price:Int) (tokens:Int) (left:Int) (v2:List Int) (v4:List Int) (v6:List Int) (v7_0:Nat) (g2:Nat) (g4:Nat) (g6:Nat):St:=⟨([J,J,J,J,.sl 7 0 0 2 1,.int .i64 price,J,.sl 0 0 0 3 1,J,J,J,J,.int .i64 tokens,J,.int .i64 0,.ptr 8 0 0,.int .i64 left]++jj 133 ([.rsl [.int .i64 1,.int .i64 200,.int .i64 6,.int .i64 1000] 0 2,.int .i64 2,.int .i64 0]++Js 65)),[⟨true,0,1,false,[.sl 2 g2 0 v2.length 1,.sl 4 g4 0 v4.length 1,.sl 6 g6 0 v6.length 1],true⟩,⟨false,1,1,true,[],false⟩,⟨true,g2,1,true,(rowI v2),true⟩,⟨false,1,1,true,[],false⟩,⟨true,g4,1,true,(rowI v4),true⟩,⟨false,1,1,true,[],false⟩,⟨true,g6,1,true,(rowI v6),true⟩,⟨true,0,1,true,[.int .i64 (v7_0:Int),.int .i64 0],true⟩,⟨true,0,1,true,[.int .i64 1,.int .i64 200],false⟩]⟩
def f186G5 (E:Env) (price:Int) (tokens:Int) (left:Int) (v2:List Int) (v4:List Int) (v6:List Int) (v7_0:Nat):Prop:=∀ g2 g4 g6:Nat,G Try.prog E (WB Try.prog) (f186S5 price tokens left v2 v4 v6 v7_0 g2 g4 g6)
def XH (P:Program):List Item:=kAt 400 [.code (Qc P 186)] [.b true,.b true,.b true,.b false,.b true,.stop]
def XF (v6:List Int) (j:Nat) (v4:List Int) (g6:Nat) (g4:Nat):St:=⟨([.rsl [.int .i64 1,.int .i64 200,.int .i64 6,.int .i64 1000] 0 2,.int .i64 7,J,J,J,J,.int .i64 1007,.sl 0 0 0 3 1,J,.int .i64 1]++jj 43 ([.int .i64 (((List.replicate (Int.toNat (1008:Int)) (1152921504606846976:Int)).length:Nat):Int),.int .i64 (j:Int)]++Js 163)),[⟨true,0,1,false,[.sl 2 0 0 ((List.replicate (Int.toNat (1008:Int)) (1152921504606846976:Int)).length) 1,.sl 4 g4 0 v4.length 1,.sl 6 g6 0 v6.length 1],true⟩,⟨false,1,1,true,[],false⟩,⟨true,0,1,true,(rowI (List.replicate (Int.toNat (1008:Int)) (1152921504606846976:Int))),true⟩,⟨false,1,1,true,[],false⟩,⟨true,g4,1,true,(rowI v4),true⟩,⟨false,1,1,true,[],false⟩,⟨true,g6,1,true,(rowI v6),true⟩]⟩
def Yr (E:Env) (v6:List Int) (j:Nat) (v4:List Int):Prop:=∀ g6 g4:Nat,G Try.prog E (XH Try.prog) (XF v6 j v4 g6 g4)
def XG (P:Program):List Item:=kAt 400 [.code (Qc P 186)] [.b true,.b true,.b true,.b false,.b true,.b false,.b true,.b false,.b false,.b false,.b false,.b true,.b false,.b true,.stop]
def YF (price:Int) (tokens:Int) (left:Int) (v2:List Int) (v4:List Int) (v6:List Int) (v7_0:Nat) (v7_1:Nat) (g2:Nat) (g4:Nat) (g6:Nat):St:=⟨([J,J,J,J,.sl 7 0 0 2 1,.int .i64 price,J,.sl 0 0 0 3 1,J,J,J,J,.int .i64 tokens,J,.int .i64 1,.ptr 9 0 0,.int .i64 left]++jj 133 ([.rsl [.int .i64 1,.int .i64 200,.int .i64 6,.int .i64 1000] 0 2,.int .i64 2,.int .i64 1]++Js 65)),[⟨true,0,1,false,[.sl 2 g2 0 v2.length 1,.sl 4 g4 0 v4.length 1,.sl 6 g6 0 v6.length 1],true⟩,⟨false,1,1,true,[],false⟩,⟨true,g2,1,true,(rowI v2),true⟩,⟨false,1,1,true,[],false⟩,⟨true,g4,1,true,(rowI v4),true⟩,⟨false,1,1,true,[],false⟩,⟨true,g6,1,true,(rowI v6),true⟩,⟨true,0,1,true,[.int .i64 (v7_0:Int),.int .i64 (v7_1:Int)],true⟩,⟨true,0,1,true,[.int .i64 1,.int .i64 200],false⟩,⟨true,0,1,true,[.int .i64 6,.int .i64 1000],false⟩]⟩
def Ye (E:Env) (price:Int) (tokens:Int) (left:Int) (v2:List Int) (v4:List Int) (v6:List Int) (v7_0:Nat) (v7_1:Nat):Prop:=∀ g2 g4 g6:Nat,G Try.prog E (XG Try.prog) (YF price tokens left v2 v4 v6 v7_0 v7_1 g2 g4 g6)
theorem p186_start_0 (e:Int) {E:Env} {rv:AV} (hE:Qj Try.prog 186 rv E) (ho:AllP [InR .i64 1007,InR .i64 3,(0:Int)≤3∧(3:Int)≤3∧(3:Int)≤2147483648,0=0,true=true,(∀ k,slOf 0 k (.sl k 0 0 1 1)=true),InR .i64 1008,YS Try.prog (.clos 55 [] []) [.rsl [.int .i64 1152921504606846976] 0 1,.int .i64 1008] [] (.sl 0 0 0 ((List.replicate (Int.toNat (1008:Int)) (1152921504606846976:Int)).length) 1) [⟨true,0,1,true,(rowI (List.replicate (Int.toNat (1008:Int)) (1152921504606846976:Int))),true⟩],(0:Int)≤0∧(0:Int)<((3:Nat):Int),0=0,1≤3,0=0,InR .i64 1,true=true,(∀ k,slOf 0 k (.sl k 0 0 1 1)=true),InR .i64 1008,YS Try.prog (.clos 55 [] []) [.rsl [.int .i64 1152921504606846976] 0 1,.int .i64 1008] [] (.sl 0 0 0 ((List.replicate (Int.toNat (1008:Int)) (1152921504606846976:Int)).length) 1) [⟨true,0,1,true,(rowI (List.replicate (Int.toNat (1008:Int)) (1152921504606846976:Int))),true⟩],(0:Int)≤1∧(1:Int)<((3:Nat):Int),0=0,2≤3,0=0,InR .i64 2,true=true,(∀ k,slOf 0 k (.sl k 0 0 1 1)=true),InR .i64 1008,YS Try.prog (.clos 55 [] []) [.rsl [.int .i64 1152921504606846976] 0 1,.int .i64 1008] [] (.sl 0 0 0 ((List.replicate (Int.toNat (1008:Int)) (1152921504606846976:Int)).length) 1) [⟨true,0,1,true,(rowI (List.replicate (Int.toNat (1008:Int)) (1152921504606846976:Int))),true⟩],(0:Int)≤2∧(2:Int)<((3:Nat):Int),0=0,3≤3,0=0,InR .i64 3,false=false,(0:Int)≤2∧(2:Int)<((3:Nat):Int),0=0,0=0,(0:Int)≤0∧(0:Int)<(((List.replicate (Int.toNat (1008:Int)) (1152921504606846976:Int)).length:Nat):Int),0=0,((0+0*1)+1)≤(rowI (List.replicate (Int.toNat (1008:Int)) (1152921504606846976:Int))).length,0=0,InR .i64 1,true=true,(0:Int)≤1∧(1:Int)<((3:Nat):Int),0=0,0=0,0=0])
 (hg:G Try.prog E (XH Try.prog) ⟨([.rsl [.int .i64 1,.int .i64 200,.int .i64 6,.int .i64 1000] 0 2,.int .i64 7,J,J,J,J,.int .i64 1007,.sl 0 0 0 3 1,J,.int .i64 1]++jj 43 ([.int .i64 (((List.replicate (Int.toNat (1008:Int)) (1152921504606846976:Int)).length:Nat):Int),.int .i64 0]++Js 163)),[⟨true,0,1,false,[.sl 2 0 0 ((List.replicate (Int.toNat (1008:Int)) (1152921504606846976:Int)).length) 1,.sl 4 0 0 ((List.replicate (Int.toNat (1008:Int)) (1152921504606846976:Int)).length) 1,.sl 6 0 0 ((List.replicate (Int.toNat (1008:Int)) (1152921504606846976:Int)).length) 1],true⟩,⟨false,1,1,true,[],false⟩,⟨true,0,1,true,(rowI (List.replicate (Int.toNat (1008:Int)) (1152921504606846976:Int))),true⟩,⟨false,1,1,true,[],false⟩,⟨true,0,1,true,(rowI (List.replicate (Int.toNat (1008:Int)) (1152921504606846976:Int))),true⟩,⟨false,1,1,true,[],false⟩,⟨true,0,1,true,(Qx (rowI (List.replicate (Int.toNat (1008:Int)) (1152921504606846976:Int))) (0+0*1) [.int .i64 0]),true⟩]⟩):G Try.prog E [.code (Qc Try.prog 186)] ⟨[.rsl [.int .i64 1,.int .i64 200,.int .i64 6,.int .i64 1000] 0 2,.int .i64 7]++unds (Try.f186.ntmps - 2),[]⟩ :=
 Qm (n:=400) (ds:=[]) (cs:=[]) (live:=[0,1,6,7,9,53,54]) (m:=7) (evs:=[.b true,.vn .junk,.lent [] (.sl 0 0 0 ((List.replicate (Int.toNat (1008:Int)) (1152921504606846976:Int)).length) 1) [⟨true,0,1,true,(rowI (List.replicate (Int.toNat (1008:Int)) (1152921504606846976:Int))),true⟩],.b true,.vn .junk,.lent [] (.sl 0 0 0 ((List.replicate (Int.toNat (1008:Int)) (1152921504606846976:Int)).length) 1) [⟨true,0,1,true,(rowI (List.replicate (Int.toNat (1008:Int)) (1152921504606846976:Int))),true⟩],.b true,.vn .junk,.lent [] (.sl 0 0 0 ((List.replicate (Int.toNat (1008:Int)) (1152921504606846976:Int)).length) 1) [⟨true,0,1,true,(rowI (List.replicate (Int.toNat (1008:Int)) (1152921504606846976:Int))),true⟩],.b false,.b true,.stop]) (obs:=_) hE.2.1 (hE.nogh _) Qp (by kernel_rfl) ho hg
theorem f186W {E:Env} {rv:((List Int) × Int)} (hE:Qj Try.prog 186 (.tup [.rsl (rowI rv.1) 0 rv.1.length,.int .i64 rv.2]) E)
 (h:(((1:Int)≤(1008:Int)∧(1008:Int)≤2147483648)∧(((1:Int)≤(1008:Int)∧(1008:Int)≤2147483648)∧(((1:Int)≤(1008:Int)∧(1008:Int)≤2147483648)∧(∃ e:Int,(List.replicate (Int.toNat (1008:Int)) (1152921504606846976:Int))[0]?=some e∧Yr E ((List.replicate (Int.toNat (1008:Int)) (1152921504606846976:Int)).set 0 0) 0 (List.replicate (Int.toNat (1008:Int)) (1152921504606846976:Int))))))):G Try.prog E [.code (Qc Try.prog 186)] ⟨[.rsl [.int .i64 1,.int .i64 200,.int .i64 6,.int .i64 1000] 0 2,.int .i64 7]++unds (Try.f186.ntmps - 2),[]⟩:=by
 obtain ⟨h1,h⟩:=h
 obtain ⟨h2,h⟩:=h
 obtain ⟨h3,h⟩:=h
 obtain ⟨e,h4,h⟩:=h
 refine p186_start_0 e hE ⟨(⟨by decide,by decide⟩),(⟨by decide,by decide⟩),(⟨by decide,by decide,by decide⟩),rfl,rfl,(fun k=>by simp [slOf]),(⟨by decide,by decide⟩),(Xu Try.func55 (by kernel_rfl) f55b (Wg (1152921504606846976:Int) (1008:Int) h1)),(⟨by decide,by decide⟩),rfl,(by decide),rfl,(⟨by decide,by decide⟩),rfl,(fun k=>by simp [slOf]),(⟨by decide,by decide⟩),(Xu Try.func55 (by kernel_rfl) f55b (Wg (1152921504606846976:Int) (1008:Int) h2)),(⟨by decide,by decide⟩),rfl,(by decide),rfl,(⟨by decide,by decide⟩),rfl,(fun k=>by simp [slOf]),(⟨by decide,by decide⟩),(Xu Try.func55 (by kernel_rfl) f55b (Wg (1152921504606846976:Int) (1008:Int) h3)),(⟨by decide,by decide⟩),rfl,(by decide),rfl,(⟨by decide,by decide⟩),rfl,(⟨by decide,by decide⟩),rfl,rfl,(Qz h4),rfl,(rf cI 1 0 1 h4),rfl,(⟨by decide,by decide⟩),rfl,(⟨by decide,by decide⟩),rfl,rfl,rfl,trivial⟩ ?_
 have h:=(h 0 0)
 simp only [XF,List.length_set] at h
 rw [(show Qx (rowI (List.replicate (Int.toNat (1008:Int)) (1152921504606846976:Int))) (0+0*1) [.int .i64 0]=rowI ((List.replicate (Int.toNat (1008:Int)) (1152921504606846976:Int)).set 0 0) from QH cI (s:=1) (k:=0) (fun _=>rfl) h4 rfl (by first | decide | simp))]
 exact h
theorem p186_1002_0 (v6:List Int) (j:Nat) (v4:List Int) (g6:Nat) (g4:Nat) (e:Int) (e1:Int) (e2:Int) (e3:Int) {E:Env} {rv:AV} (hE:Qj Try.prog 186 rv E) (ho:AllP [(decide ((j:Int)<(((List.replicate (Int.toNat (1008:Int)) (1152921504606846976:Int)).length:Nat):Int)))=true,(0:Int)≤1∧(1:Int)<((3:Nat):Int),0=0,0=0,InR .i64 2,(0:Int)≤2∧(2:Int)<((3:Nat):Int),0=0,0=0,0≤(j:Int)∧(j:Int)<(v6.length:Int),g6=g6,g6=g6,((rowI v6).drop (0+(Int.toNat (j:Int))*1)).take 1=[.int .i64 e],0≤(j:Int)∧(j:Int)<(v4.length:Int),g4=g4,((0+(Int.toNat (j:Int))*1)+1)≤(rowI v4).length,g4=g4,(0:Int)≤1∧(1:Int)<((2:Nat):Int),InR .i64 ((j:Int) - 6),(decide (((j:Int) - 6)≥0))=true,(0:Int)≤1∧(1:Int)<((3:Nat):Int),0=0,0=0,0≤((j:Int) - 6)∧((j:Int) - 6)<(v4.length:Int),g4=g4,g4=g4,((Qx (rowI v4) (0+(Int.toNat (j:Int))*1) [.int .i64 e]).drop (0+(Int.toNat ((j:Int) - 6))*1)).take 1=[.int .i64 e2],(decide (e2<1152921504606846976))=true,(0:Int)≤1∧(1:Int)<((3:Nat):Int),0=0,0=0,(0:Int)≤1∧(1:Int)<((3:Nat):Int),0=0,0=0,0≤(j:Int)∧(j:Int)<(v4.length:Int),g4=g4,g4=g4,((Qx (rowI v4) (0+(Int.toNat (j:Int))*1) [.int .i64 e]).drop (0+(Int.toNat (j:Int))*1)).take 1=[.int .i64 e3],(0:Int)≤1∧(1:Int)<((3:Nat):Int),0=0,0=0,0≤((j:Int) - 6)∧((j:Int) - 6)<(v4.length:Int),g4=g4,g4=g4,((Qx (rowI v4) (0+(Int.toNat (j:Int))*1) [.int .i64 e]).drop (0+(Int.toNat ((j:Int) - 6))*1)).take 1=[.int .i64 e2],(0:Int)≤1∧(1:Int)<((2:Nat):Int),InR .i64 (e2+1000),0≤(j:Int)∧(j:Int)<(v4.length:Int),g4=g4,((0+(Int.toNat (j:Int))*1)+1)≤(Qx (rowI v4) (0+(Int.toNat (j:Int))*1) [.int .i64 e]).length,g4=g4,InR .i64 ((j:Int)+1)])
 (hg:G Try.prog E (XH Try.prog) ⟨([.rsl [.int .i64 1,.int .i64 200,.int .i64 6,.int .i64 1000] 0 2,.int .i64 7,J,J,J,J,.int .i64 1007,.sl 0 0 0 3 1,J,.int .i64 1]++jj 43 ([.int .i64 (((List.replicate (Int.toNat (1008:Int)) (1152921504606846976:Int)).length:Nat):Int),.int .i64 ((j:Int)+1)]++Js 163)),[⟨true,0,1,false,[.sl 2 0 0 ((List.replicate (Int.toNat (1008:Int)) (1152921504606846976:Int)).length) 1,.sl 4 g4 0 v4.length 1,.sl 6 g6 0 v6.length 1],true⟩,⟨false,1,1,true,[],false⟩,⟨true,0,1,true,(rowI (List.replicate (Int.toNat (1008:Int)) (1152921504606846976:Int))),true⟩,⟨false,1,1,true,[],false⟩,⟨true,g4,1,true,(Qx (Qx (rowI v4) (0+(Int.toNat (j:Int))*1) [.int .i64 e]) (0+(Int.toNat (j:Int))*1) [.int .i64 (iMin e3 (e2+1000))]),true⟩,⟨false,1,1,true,[],false⟩,⟨true,g6,1,true,(rowI v6),true⟩]⟩):G Try.prog E (XH Try.prog) (XF v6 j v4 g6 g4) :=
 Qm (n:=400) (ds:=[]) (cs:=[]) (live:=[0,1,6,7,9,53,54]) (m:=7) (evs:=[.b true,.auto,.auto,.ld (.int .i64 e),.b true,.auto,.ld (.int .i64 e2),.b true,.auto,.auto,.ld (.int .i64 e3),.auto,.ld (.int .i64 e2),.stop]) (obs:=_) hE.2.1 (hE.nogh _) Qp (by kernel_rfl) ho hg
theorem p186_1002_1 (v6:List Int) (j:Nat) (v4:List Int) (g6:Nat) (g4:Nat) (e:Int) (e1:Int) (e2:Int) {E:Env} {rv:AV} (hE:Qj Try.prog 186 rv E) (ho:AllP [(decide ((j:Int)<(((List.replicate (Int.toNat (1008:Int)) (1152921504606846976:Int)).length:Nat):Int)))=true,(0:Int)≤1∧(1:Int)<((3:Nat):Int),0=0,0=0,InR .i64 2,(0:Int)≤2∧(2:Int)<((3:Nat):Int),0=0,0=0,0≤(j:Int)∧(j:Int)<(v6.length:Int),g6=g6,g6=g6,((rowI v6).drop (0+(Int.toNat (j:Int))*1)).take 1=[.int .i64 e],0≤(j:Int)∧(j:Int)<(v4.length:Int),g4=g4,((0+(Int.toNat (j:Int))*1)+1)≤(rowI v4).length,g4=g4,(0:Int)≤1∧(1:Int)<((2:Nat):Int),InR .i64 ((j:Int) - 6),(decide (((j:Int) - 6)≥0))=true,(0:Int)≤1∧(1:Int)<((3:Nat):Int),0=0,0=0,0≤((j:Int) - 6)∧((j:Int) - 6)<(v4.length:Int),g4=g4,g4=g4,((Qx (rowI v4) (0+(Int.toNat (j:Int))*1) [.int .i64 e]).drop (0+(Int.toNat ((j:Int) - 6))*1)).take 1=[.int .i64 e2],(decide (e2<1152921504606846976))=false,InR .i64 ((j:Int)+1)])
 (hg:G Try.prog E (XH Try.prog) ⟨([.rsl [.int .i64 1,.int .i64 200,.int .i64 6,.int .i64 1000] 0 2,.int .i64 7,J,J,J,J,.int .i64 1007,.sl 0 0 0 3 1,J,.int .i64 1]++jj 43 ([.int .i64 (((List.replicate (Int.toNat (1008:Int)) (1152921504606846976:Int)).length:Nat):Int),.int .i64 ((j:Int)+1)]++Js 163)),[⟨true,0,1,false,[.sl 2 0 0 ((List.replicate (Int.toNat (1008:Int)) (1152921504606846976:Int)).length) 1,.sl 4 g4 0 v4.length 1,.sl 6 g6 0 v6.length 1],true⟩,⟨false,1,1,true,[],false⟩,⟨true,0,1,true,(rowI (List.replicate (Int.toNat (1008:Int)) (1152921504606846976:Int))),true⟩,⟨false,1,1,true,[],false⟩,⟨true,g4,1,true,(Qx (rowI v4) (0+(Int.toNat (j:Int))*1) [.int .i64 e]),true⟩,⟨false,1,1,true,[],false⟩,⟨true,g6,1,true,(rowI v6),true⟩]⟩):G Try.prog E (XH Try.prog) (XF v6 j v4 g6 g4) :=
 Qm (n:=400) (ds:=[]) (cs:=[]) (live:=[0,1,6,7,9,53,54]) (m:=7) (evs:=[.b true,.auto,.auto,.ld (.int .i64 e),.b true,.auto,.ld (.int .i64 e2),.b false,.stop]) (obs:=_) hE.2.1 (hE.nogh _) Qp (by kernel_rfl) ho hg
theorem p186_1002_2 (v6:List Int) (j:Nat) (v4:List Int) (g6:Nat) (g4:Nat) (e:Int) (e1:Int) {E:Env} {rv:AV} (hE:Qj Try.prog 186 rv E) (ho:AllP [(decide ((j:Int)<(((List.replicate (Int.toNat (1008:Int)) (1152921504606846976:Int)).length:Nat):Int)))=true,(0:Int)≤1∧(1:Int)<((3:Nat):Int),0=0,0=0,InR .i64 2,(0:Int)≤2∧(2:Int)<((3:Nat):Int),0=0,0=0,0≤(j:Int)∧(j:Int)<(v6.length:Int),g6=g6,g6=g6,((rowI v6).drop (0+(Int.toNat (j:Int))*1)).take 1=[.int .i64 e],0≤(j:Int)∧(j:Int)<(v4.length:Int),g4=g4,((0+(Int.toNat (j:Int))*1)+1)≤(rowI v4).length,g4=g4,(0:Int)≤1∧(1:Int)<((2:Nat):Int),InR .i64 ((j:Int) - 6),(decide (((j:Int) - 6)≥0))=false,false=false,InR .i64 ((j:Int)+1)])
 (hg:G Try.prog E (XH Try.prog) ⟨([.rsl [.int .i64 1,.int .i64 200,.int .i64 6,.int .i64 1000] 0 2,.int .i64 7,J,J,J,J,.int .i64 1007,.sl 0 0 0 3 1,J,.int .i64 1]++jj 43 ([.int .i64 (((List.replicate (Int.toNat (1008:Int)) (1152921504606846976:Int)).length:Nat):Int),.int .i64 ((j:Int)+1)]++Js 163)),[⟨true,0,1,false,[.sl 2 0 0 ((List.replicate (Int.toNat (1008:Int)) (1152921504606846976:Int)).length) 1,.sl 4 g4 0 v4.length 1,.sl 6 g6 0 v6.length 1],true⟩,⟨false,1,1,true,[],false⟩,⟨true,0,1,true,(rowI (List.replicate (Int.toNat (1008:Int)) (1152921504606846976:Int))),true⟩,⟨false,1,1,true,[],false⟩,⟨true,g4,1,true,(Qx (rowI v4) (0+(Int.toNat (j:Int))*1) [.int .i64 e]),true⟩,⟨false,1,1,true,[],false⟩,⟨true,g6,1,true,(rowI v6),true⟩]⟩):G Try.prog E (XH Try.prog) (XF v6 j v4 g6 g4) :=
 Qm (n:=400) (ds:=[]) (cs:=[]) (live:=[0,1,6,7,9,53,54]) (m:=7) (evs:=[.b true,.auto,.auto,.ld (.int .i64 e),.b false,.b false,.stop]) (obs:=_) hE.2.1 (hE.nogh _) Qp (by kernel_rfl) ho hg
theorem p186_1002_3 (v6:List Int) (j:Nat) (v4:List Int) (g6:Nat) (g4:Nat) {E:Env} {rv:AV} (hE:Qj Try.prog 186 rv E) (ho:AllP [(decide ((j:Int)<(((List.replicate (Int.toNat (1008:Int)) (1152921504606846976:Int)).length:Nat):Int)))=false,InR .i64 0,true=true,(0:Int)≤0∧(0:Int)<((3:Nat):Int),0=0,0=0,0=0])
 (hg:G Try.prog E (Vk Try.prog) ⟨([.rsl [.int .i64 1,.int .i64 200,.int .i64 6,.int .i64 1000] 0 2,.int .i64 7,J,J,J,J,.int .i64 1007,.sl 0 0 0 3 1,J,.int .i64 0]++jj 43 ([.int .i64 (((List.replicate (Int.toNat (1008:Int)) (1152921504606846976:Int)).length:Nat):Int),.int .i64 0]++Js 163)),[⟨true,0,1,false,[.sl 2 0 0 ((List.replicate (Int.toNat (1008:Int)) (1152921504606846976:Int)).length) 1,.sl 4 g4 0 v4.length 1,.sl 6 g6 0 v6.length 1],true⟩,⟨false,1,1,true,[],false⟩,⟨true,0,1,true,(rowI (List.replicate (Int.toNat (1008:Int)) (1152921504606846976:Int))),true⟩,⟨false,1,1,true,[],false⟩,⟨true,g4,1,true,(rowI v4),true⟩,⟨false,1,1,true,[],false⟩,⟨true,g6,1,true,(rowI v6),true⟩]⟩):G Try.prog E (XH Try.prog) (XF v6 j v4 g6 g4) :=
 Qm (n:=400) (ds:=[]) (cs:=[]) (live:=[0,1,6,7,9,53,54]) (m:=7) (evs:=[.b false,.b true,.stop]) (obs:=_) hE.2.1 (hE.nogh _) Qp (by kernel_rfl) ho hg
theorem f186W1002 (v6:List Int) (j:Nat) (v4:List Int) {E:Env} {rv:((List Int) × Int)} (hE:Qj Try.prog 186 (.tup [.rsl (rowI rv.1) 0 rv.1.length,.int .i64 rv.2]) E)
 (h:(((j:Int)<(((List.replicate (Int.toNat (1008:Int)) (1152921504606846976:Int)).length:Nat):Int)→(∃ e:Int,v6[j]?=some e∧(∃ e1:Int,v4[j]?=some e1∧((I6 ((j:Int) - 6))∧((((j:Int) - 6)≥0→(0≤((j:Int) - 6)∧(∃ e2:Int,(v4.set j e)[Int.toNat ((j:Int) - 6)]?=some e2∧((e2<1152921504606846976→(∃ e3:Int,(v4.set j e)[j]?=some e3∧((I6 (e2+1000))∧((I6 ((j:Int)+1))∧Yr E v6 (j+1) ((v4.set j e).set j (iMin e3 (e2+1000)))))))∧(¬ (e2<1152921504606846976)→((I6 ((j:Int)+1))∧Yr E v6 (j+1) (v4.set j e)))))))∧(¬ (((j:Int) - 6)≥0)→((I6 ((j:Int)+1))∧Yr E v6 (j+1) (v4.set j e))))))))∧(¬ ((j:Int)<(((List.replicate (Int.toNat (1008:Int)) (1152921504606846976:Int)).length:Nat):Int))→qs E v4 v6 0 (List.replicate (Int.toNat (1008:Int)) (1152921504606846976:Int))))):Yr E v6 j v4:=by
 intro g6 g4
 rcases bft (decide ((j:Int)<(((List.replicate (Int.toNat (1008:Int)) (1152921504606846976:Int)).length:Nat):Int))) with hc0 | hc0
 · have h:=h.1 (odt hc0)
   obtain ⟨e,h1,h⟩:=h
   obtain ⟨e1,h2,h⟩:=h
   obtain ⟨q19_1,h⟩:=h
   rcases bft (decide (((j:Int) - 6)≥0)) with hc1 | hc1
   · have h:=h.1 (odt hc1)
     obtain ⟨h4,h⟩:=h
     obtain ⟨e2,h3,h⟩:=h
     rcases bft (decide (e2<1152921504606846976)) with hc2 | hc2
     · have h:=h.1 (odt hc2)
       obtain ⟨e3,h5,h⟩:=h
       obtain ⟨q49_3,h⟩:=h
       obtain ⟨q54_3,h⟩:=h
       refine p186_1002_0 v6 j v4 g6 g4 e e1 e2 e3 hE ⟨hc0,(⟨by decide,by decide⟩),rfl,rfl,(⟨by decide,by decide⟩),(⟨by decide,by decide⟩),rfl,rfl,(Qz h1),rfl,rfl,(rp cI 1 0 1 h1),(Qz h2),rfl,(rf cI 1 0 1 h2),rfl,(⟨by decide,by decide⟩),q19_1,hc1,(⟨by decide,by decide⟩),rfl,rfl,(by have hx:=Qo h4 h3; simpa using hx),rfl,rfl,(by rw [(show Qx (rowI v4) (0+(Int.toNat (j:Int))*1) [.int .i64 e]=rowI (v4.set j e) from QH cI (s:=1) (k:=0) (fun _=>rfl) h2 rfl (by first | decide | simp))]; exact rp cI 1 0 1 h3),hc2,(⟨by decide,by decide⟩),rfl,rfl,(⟨by decide,by decide⟩),rfl,rfl,(by have hx:=Qz h5; simpa using hx),rfl,rfl,(by rw [(show Qx (rowI v4) (0+(Int.toNat (j:Int))*1) [.int .i64 e]=rowI (v4.set j e) from QH cI (s:=1) (k:=0) (fun _=>rfl) h2 rfl (by first | decide | simp))]; exact rp cI 1 0 1 h5),(⟨by decide,by decide⟩),rfl,rfl,(by have hx:=Qo h4 h3; simpa using hx),rfl,rfl,(by rw [(show Qx (rowI v4) (0+(Int.toNat (j:Int))*1) [.int .i64 e]=rowI (v4.set j e) from QH cI (s:=1) (k:=0) (fun _=>rfl) h2 rfl (by first | decide | simp))]; exact rp cI 1 0 1 h3),(⟨by decide,by decide⟩),q49_3,(by have hx:=Qz h5; simpa using hx),rfl,(by rw [(show Qx (rowI v4) (0+(Int.toNat (j:Int))*1) [.int .i64 e]=rowI (v4.set j e) from QH cI (s:=1) (k:=0) (fun _=>rfl) h2 rfl (by first | decide | simp))]; exact rf cI 1 0 1 h5),rfl,q54_3,trivial⟩ ?_
       have h:=(h g6 g4)
       simp only [XF,List.length_set] at h
       rw [(show Qx (rowI v4) (0+(Int.toNat (j:Int))*1) [.int .i64 e]=rowI (v4.set j e) from QH cI (s:=1) (k:=0) (fun _=>rfl) h2 rfl (by first | decide | simp))]; rw [(show Qx (rowI (v4.set j e)) (0+(Int.toNat (j:Int))*1) [.int .i64 (iMin e3 (e2+1000))]=rowI ((v4.set j e).set j (iMin e3 (e2+1000))) from QH cI (s:=1) (k:=0) (fun _=>rfl) h5 rfl (by first | decide | simp))]
       exact h
     · have h:=h.2 (odf hc2)
       obtain ⟨q30_3,h⟩:=h
       refine p186_1002_1 v6 j v4 g6 g4 e e1 e2 hE ⟨hc0,(⟨by decide,by decide⟩),rfl,rfl,(⟨by decide,by decide⟩),(⟨by decide,by decide⟩),rfl,rfl,(Qz h1),rfl,rfl,(rp cI 1 0 1 h1),(Qz h2),rfl,(rf cI 1 0 1 h2),rfl,(⟨by decide,by decide⟩),q19_1,hc1,(⟨by decide,by decide⟩),rfl,rfl,(by have hx:=Qo h4 h3; simpa using hx),rfl,rfl,(by rw [(show Qx (rowI v4) (0+(Int.toNat (j:Int))*1) [.int .i64 e]=rowI (v4.set j e) from QH cI (s:=1) (k:=0) (fun _=>rfl) h2 rfl (by first | decide | simp))]; exact rp cI 1 0 1 h3),hc2,q30_3,trivial⟩ ?_
       have h:=(h g6 g4)
       simp only [XF,List.length_set] at h
       rw [(show Qx (rowI v4) (0+(Int.toNat (j:Int))*1) [.int .i64 e]=rowI (v4.set j e) from QH cI (s:=1) (k:=0) (fun _=>rfl) h2 rfl (by first | decide | simp))]
       exact h
   · have h:=h.2 (odf hc1)
     obtain ⟨q22_2,h⟩:=h
     refine p186_1002_2 v6 j v4 g6 g4 e e1 hE ⟨hc0,(⟨by decide,by decide⟩),rfl,rfl,(⟨by decide,by decide⟩),(⟨by decide,by decide⟩),rfl,rfl,(Qz h1),rfl,rfl,(rp cI 1 0 1 h1),(Qz h2),rfl,(rf cI 1 0 1 h2),rfl,(⟨by decide,by decide⟩),q19_1,hc1,rfl,q22_2,trivial⟩ ?_
     have h:=(h g6 g4)
     simp only [XF,List.length_set] at h
     rw [(show Qx (rowI v4) (0+(Int.toNat (j:Int))*1) [.int .i64 e]=rowI (v4.set j e) from QH cI (s:=1) (k:=0) (fun _=>rfl) h2 rfl (by first | decide | simp))]
     exact h
 · have h:=h.2 (odf hc0)
   exact p186_1002_3 v6 j v4 g6 g4 hE ⟨hc0,(⟨by decide,by decide⟩),rfl,(⟨by decide,by decide⟩),rfl,rfl,rfl,trivial⟩ (h g4 g6 0)
theorem p186_1005_0 (price:Int) (tokens:Int) (left:Int) (v2:List Int) (v4:List Int) (v6:List Int) (v7_0:Nat) (v7_1:Nat) (g2:Nat) (g4:Nat) (g6:Nat) (e:Int) {E:Env} {rv:AV} (hE:Qj Try.prog 186 rv E) (ho:AllP [(decide (tokens≥6))=true,(0:Int)≤1∧(1:Int)<((3:Nat):Int),0=0,0=0,InR .i64 (tokens - 6),0≤(tokens - 6)∧(tokens - 6)<(v4.length:Int),g4=g4,g4=g4,((rowI v4).drop (0+(Int.toNat (tokens - 6))*1)).take 1=[.int .i64 e],(decide (e<1152921504606846976))=true,(0:Int)≤1∧(1:Int)<((3:Nat):Int),0=0,0=0,InR .i64 (tokens - 6),0≤(tokens - 6)∧(tokens - 6)<(v4.length:Int),g4=g4,g4=g4,((rowI v4).drop (0+(Int.toNat (tokens - 6))*1)).take 1=[.int .i64 e],InR .i64 (e+1000),((e+1000) == left)=true,InR .i64 (tokens - 6),(0:Int)≤1∧(1:Int)<((2:Nat):Int),0=0,0=0,InR .i64 ((v7_1:Int)+1),(0:Int)≤1∧(1:Int)<((2:Nat):Int),0=0,2≤2,0=0,(0:Int)≤1∧(1:Int)<((3:Nat):Int),0=0,0=0,0≤(tokens - 6)∧(tokens - 6)<(v4.length:Int),g4=g4,g4=g4,((rowI v4).drop (0+(Int.toNat (tokens - 6))*1)).take 1=[.int .i64 e]])
 (hg:G Try.prog E (XG Try.prog) ⟨([J,J,J,J,.sl 7 0 0 2 1,.int .i64 price,J,.sl 0 0 0 3 1,J,J,J,J,.int .i64 (tokens - 6),J,.int .i64 1,.ptr 9 0 0,.int .i64 e]++jj 133 ([.rsl [.int .i64 1,.int .i64 200,.int .i64 6,.int .i64 1000] 0 2,.int .i64 2,.int .i64 1]++Js 65)),[⟨true,0,1,false,[.sl 2 g2 0 v2.length 1,.sl 4 g4 0 v4.length 1,.sl 6 g6 0 v6.length 1],true⟩,⟨false,1,1,true,[],false⟩,⟨true,g2,1,true,(rowI v2),true⟩,⟨false,1,1,true,[],false⟩,⟨true,g4,1,true,(rowI v4),true⟩,⟨false,1,1,true,[],false⟩,⟨true,g6,1,true,(rowI v6),true⟩,⟨true,0,1,true,[.int .i64 (v7_0:Int),.int .i64 ((v7_1:Int)+1)],true⟩,⟨true,0,1,true,[.int .i64 1,.int .i64 200],false⟩,⟨true,0,1,true,[.int .i64 6,.int .i64 1000],false⟩]⟩):G Try.prog E (XG Try.prog) (YF price tokens left v2 v4 v6 v7_0 v7_1 g2 g4 g6) :=
 Qm (n:=400) (ds:=[]) (cs:=[]) (live:=[4,5,7,12,14,15,16,150,151,152]) (m:=10) (evs:=[.b true,.auto,.auto,.ld (.int .i64 e),.b true,.auto,.auto,.ld (.int .i64 e),.b true,.auto,.auto,.auto,.ld (.int .i64 e),.stop]) (obs:=_) hE.2.1 (hE.nogh _) Qp (by kernel_rfl) ho hg
theorem p186_1005_1 (price:Int) (tokens:Int) (left:Int) (v2:List Int) (v4:List Int) (v6:List Int) (v7_0:Nat) (v7_1:Nat) (g2:Nat) (g4:Nat) (g6:Nat) (e:Int) {E:Env} {res:AV} (hE:Qj Try.prog 186 res E) (ho:AllP [(decide (tokens≥6))=true,(0:Int)≤1∧(1:Int)<((3:Nat):Int),0=0,0=0,InR .i64 (tokens - 6),0≤(tokens - 6)∧(tokens - 6)<(v4.length:Int),g4=g4,g4=g4,((rowI v4).drop (0+(Int.toNat (tokens - 6))*1)).take 1=[.int .i64 e],(decide (e<1152921504606846976))=true,(0:Int)≤1∧(1:Int)<((3:Nat):Int),0=0,0=0,InR .i64 (tokens - 6),0≤(tokens - 6)∧(tokens - 6)<(v4.length:Int),g4=g4,g4=g4,((rowI v4).drop (0+(Int.toNat (tokens - 6))*1)).take 1=[.int .i64 e],InR .i64 (e+1000),((e+1000) == left)=false,InR .i64 2,false=false,0=0])
 (hr:AvLe (.tup [.rsl [.int .i64 (v7_0:Int),.int .i64 (v7_1:Int)] 0 2,.int .i64 price]) res):G Try.prog E (XG Try.prog) (YF price tokens left v2 v4 v6 v7_0 v7_1 g2 g4 g6) :=
 Qb (n:=400) (evs:=[.b true,.auto,.auto,.ld (.int .i64 e),.b true,.auto,.auto,.ld (.int .i64 e),.b false,.b false]) (obs:=_) hE Try.func186 Qp (by kernel_rfl) ho hr
theorem p186_1005_2 (price:Int) (tokens:Int) (left:Int) (v2:List Int) (v4:List Int) (v6:List Int) (v7_0:Nat) (v7_1:Nat) (g2:Nat) (g4:Nat) (g6:Nat) (e:Int) {E:Env} {res:AV} (hE:Qj Try.prog 186 res E) (ho:AllP [(decide (tokens≥6))=true,(0:Int)≤1∧(1:Int)<((3:Nat):Int),0=0,0=0,InR .i64 (tokens - 6),0≤(tokens - 6)∧(tokens - 6)<(v4.length:Int),g4=g4,g4=g4,((rowI v4).drop (0+(Int.toNat (tokens - 6))*1)).take 1=[.int .i64 e],(decide (e<1152921504606846976))=false,false=false,InR .i64 2,false=false,0=0])
 (hr:AvLe (.tup [.rsl [.int .i64 (v7_0:Int),.int .i64 (v7_1:Int)] 0 2,.int .i64 price]) res):G Try.prog E (XG Try.prog) (YF price tokens left v2 v4 v6 v7_0 v7_1 g2 g4 g6) :=
 Qb (n:=400) (evs:=[.b true,.auto,.auto,.ld (.int .i64 e),.b false,.b false,.b false]) (obs:=_) hE Try.func186 Qp (by kernel_rfl) ho hr
theorem p186_1005_3 (price:Int) (tokens:Int) (left:Int) (v2:List Int) (v4:List Int) (v6:List Int) (v7_0:Nat) (v7_1:Nat) (g2:Nat) (g4:Nat) (g6:Nat) {E:Env} {res:AV} (hE:Qj Try.prog 186 res E) (ho:AllP [(decide (tokens≥6))=false,false=false,false=false,InR .i64 2,false=false,0=0])
 (hr:AvLe (.tup [.rsl [.int .i64 (v7_0:Int),.int .i64 (v7_1:Int)] 0 2,.int .i64 price]) res):G Try.prog E (XG Try.prog) (YF price tokens left v2 v4 v6 v7_0 v7_1 g2 g4 g6) :=
 Qb (n:=400) (evs:=[.b false,.b false,.b false,.b false]) (obs:=_) hE Try.func186 Qp (by kernel_rfl) ho hr
theorem f186W1005 (price:Int) (tokens:Int) (left:Int) (v2:List Int) (v4:List Int) (v6:List Int) (v7_0:Nat) (v7_1:Nat) {E:Env} {rv:((List Int) × Int)} (hE:Qj Try.prog 186 (.tup [.rsl (rowI rv.1) 0 rv.1.length,.int .i64 rv.2]) E)
 (h:((tokens≥6→((I6 (tokens - 6))∧(0≤(tokens - 6)∧(∃ e:Int,v4[Int.toNat (tokens - 6)]?=some e∧((e<1152921504606846976→((I6 (tokens - 6))∧((I6 (e+1000))∧(((e+1000)=left→((I6 (tokens - 6))∧((I6 ((v7_1:Int)+1))∧Ye E price (tokens - 6) e v2 v4 v6 v7_0 (v7_1+1))))∧(¬ ((e+1000)=left)→rv=([(v7_0:Int),(v7_1:Int)],price))))))∧(¬ (e<1152921504606846976)→rv=([(v7_0:Int),(v7_1:Int)],price)))))))∧(¬ (tokens≥6)→rv=([(v7_0:Int),(v7_1:Int)],price)))):Ye E price tokens left v2 v4 v6 v7_0 v7_1:=by
 intro g2 g4 g6
 rcases bft (decide (tokens≥6)) with hc0 | hc0
 · have h:=h.1 (odt hc0)
   obtain ⟨q4_1,h⟩:=h
   obtain ⟨h2,h⟩:=h
   obtain ⟨e,h1,h⟩:=h
   rcases bft (decide (e<1152921504606846976)) with hc1 | hc1
   · have h:=h.1 (odt hc1)
     obtain ⟨q14_2,h⟩:=h
     obtain ⟨q19_2,h⟩:=h
     rcases bft ((e+1000) == left) with hc2 | hc2
     · have h:=h.1 (eq_of_beq hc2)
       obtain ⟨q21_3,h⟩:=h
       obtain ⟨q25_3,h⟩:=h
       exact p186_1005_0 price tokens left v2 v4 v6 v7_0 v7_1 g2 g4 g6 e hE ⟨hc0,(⟨by decide,by decide⟩),rfl,rfl,q4_1,(Qo h2 h1),rfl,rfl,(rp cI 1 0 1 h1),hc1,(⟨by decide,by decide⟩),rfl,rfl,q14_2,(Qo h2 h1),rfl,rfl,(rp cI 1 0 1 h1),q19_2,hc2,q21_3,(⟨by decide,by decide⟩),rfl,rfl,q25_3,(⟨by decide,by decide⟩),rfl,(by decide),rfl,(⟨by decide,by decide⟩),rfl,rfl,(Qo h2 h1),rfl,rfl,(rp cI 1 0 1 h1),trivial⟩ (h g2 g4 g6)
     · have h:=h.2 (ne_of_beq_false hc2)
       exact p186_1005_1 price tokens left v2 v4 v6 v7_0 v7_1 g2 g4 g6 e hE ⟨hc0,(⟨by decide,by decide⟩),rfl,rfl,q4_1,(Qo h2 h1),rfl,rfl,(rp cI 1 0 1 h1),hc1,(⟨by decide,by decide⟩),rfl,rfl,q14_2,(Qo h2 h1),rfl,rfl,(rp cI 1 0 1 h1),q19_2,hc2,(⟨by decide,by decide⟩),rfl,rfl,trivial⟩ (AvLe.of_eq (by rw [h]; try rfl))
   · have h:=h.2 (odf hc1)
     exact p186_1005_2 price tokens left v2 v4 v6 v7_0 v7_1 g2 g4 g6 e hE ⟨hc0,(⟨by decide,by decide⟩),rfl,rfl,q4_1,(Qo h2 h1),rfl,rfl,(rp cI 1 0 1 h1),hc1,rfl,(⟨by decide,by decide⟩),rfl,rfl,trivial⟩ (AvLe.of_eq (by rw [h]; try rfl))
 · have h:=h.2 (odf hc0)
   exact p186_1005_3 price tokens left v2 v4 v6 v7_0 v7_1 g2 g4 g6 hE ⟨hc0,rfl,rfl,(⟨by decide,by decide⟩),rfl,rfl,trivial⟩ (AvLe.of_eq (by rw [h]; try rfl))
theorem p186_2_0 (v4:List Int) (v6:List Int) (j:Nat) (v2:List Int) (g4:Nat) (g6:Nat) (g2:Nat) (e:Int) (e1:Int) (e2:Int) (e3:Int) {E:Env} {rv:AV} (hE:Qj Try.prog 186 rv E) (ho:AllP [(decide ((j:Int)<(((List.replicate (Int.toNat (1008:Int)) (1152921504606846976:Int)).length:Nat):Int)))=true,(0:Int)≤0∧(0:Int)<((3:Nat):Int),0=0,0=0,InR .i64 1,(0:Int)≤1∧(1:Int)<((3:Nat):Int),0=0,0=0,0≤(j:Int)∧(j:Int)<(v4.length:Int),g4=g4,g4=g4,((rowI v4).drop (0+(Int.toNat (j:Int))*1)).take 1=[.int .i64 e],0≤(j:Int)∧(j:Int)<(v2.length:Int),g2=g2,((0+(Int.toNat (j:Int))*1)+1)≤(rowI v2).length,g2=g2,(0:Int)≤0∧(0:Int)<((2:Nat):Int),InR .i64 ((j:Int) - 1),(decide (((j:Int) - 1)≥0))=true,(0:Int)≤0∧(0:Int)<((3:Nat):Int),0=0,0=0,0≤((j:Int) - 1)∧((j:Int) - 1)<(v2.length:Int),g2=g2,g2=g2,((Qx (rowI v2) (0+(Int.toNat (j:Int))*1) [.int .i64 e]).drop (0+(Int.toNat ((j:Int) - 1))*1)).take 1=[.int .i64 e2],(decide (e2<1152921504606846976))=true,(0:Int)≤0∧(0:Int)<((3:Nat):Int),0=0,0=0,(0:Int)≤0∧(0:Int)<((3:Nat):Int),0=0,0=0,0≤(j:Int)∧(j:Int)<(v2.length:Int),g2=g2,g2=g2,((Qx (rowI v2) (0+(Int.toNat (j:Int))*1) [.int .i64 e]).drop (0+(Int.toNat (j:Int))*1)).take 1=[.int .i64 e3],(0:Int)≤0∧(0:Int)<((3:Nat):Int),0=0,0=0,0≤((j:Int) - 1)∧((j:Int) - 1)<(v2.length:Int),g2=g2,g2=g2,((Qx (rowI v2) (0+(Int.toNat (j:Int))*1) [.int .i64 e]).drop (0+(Int.toNat ((j:Int) - 1))*1)).take 1=[.int .i64 e2],(0:Int)≤0∧(0:Int)<((2:Nat):Int),InR .i64 (e2+200),0≤(j:Int)∧(j:Int)<(v2.length:Int),g2=g2,((0+(Int.toNat (j:Int))*1)+1)≤(Qx (rowI v2) (0+(Int.toNat (j:Int))*1) [.int .i64 e]).length,g2=g2,InR .i64 ((j:Int)+1)])
 (hg:G Try.prog E (Vk Try.prog) ⟨([.rsl [.int .i64 1,.int .i64 200,.int .i64 6,.int .i64 1000] 0 2,.int .i64 7,J,J,J,J,.int .i64 1007,.sl 0 0 0 3 1,J,.int .i64 0]++jj 43 ([.int .i64 (((List.replicate (Int.toNat (1008:Int)) (1152921504606846976:Int)).length:Nat):Int),.int .i64 ((j:Int)+1)]++Js 163)),[⟨true,0,1,false,[.sl 2 g2 0 v2.length 1,.sl 4 g4 0 v4.length 1,.sl 6 g6 0 v6.length 1],true⟩,⟨false,1,1,true,[],false⟩,⟨true,g2,1,true,(Qx (Qx (rowI v2) (0+(Int.toNat (j:Int))*1) [.int .i64 e]) (0+(Int.toNat (j:Int))*1) [.int .i64 (iMin e3 (e2+200))]),true⟩,⟨false,1,1,true,[],false⟩,⟨true,g4,1,true,(rowI v4),true⟩,⟨false,1,1,true,[],false⟩,⟨true,g6,1,true,(rowI v6),true⟩]⟩):G Try.prog E (Vk Try.prog) (VL v4 v6 j v2 g4 g6 g2) :=
 Qm (n:=400) (ds:=[]) (cs:=[]) (live:=[0,1,6,7,9,53,54]) (m:=7) (evs:=[.b true,.auto,.auto,.ld (.int .i64 e),.b true,.auto,.ld (.int .i64 e2),.b true,.auto,.auto,.ld (.int .i64 e3),.auto,.ld (.int .i64 e2),.stop]) (obs:=_) hE.2.1 (hE.nogh _) Qp (by kernel_rfl) ho hg
theorem p186_2_1 (v4:List Int) (v6:List Int) (j:Nat) (v2:List Int) (g4:Nat) (g6:Nat) (g2:Nat) (e:Int) (e1:Int) (e2:Int) {E:Env} {rv:AV} (hE:Qj Try.prog 186 rv E) (ho:AllP [(decide ((j:Int)<(((List.replicate (Int.toNat (1008:Int)) (1152921504606846976:Int)).length:Nat):Int)))=true,(0:Int)≤0∧(0:Int)<((3:Nat):Int),0=0,0=0,InR .i64 1,(0:Int)≤1∧(1:Int)<((3:Nat):Int),0=0,0=0,0≤(j:Int)∧(j:Int)<(v4.length:Int),g4=g4,g4=g4,((rowI v4).drop (0+(Int.toNat (j:Int))*1)).take 1=[.int .i64 e],0≤(j:Int)∧(j:Int)<(v2.length:Int),g2=g2,((0+(Int.toNat (j:Int))*1)+1)≤(rowI v2).length,g2=g2,(0:Int)≤0∧(0:Int)<((2:Nat):Int),InR .i64 ((j:Int) - 1),(decide (((j:Int) - 1)≥0))=true,(0:Int)≤0∧(0:Int)<((3:Nat):Int),0=0,0=0,0≤((j:Int) - 1)∧((j:Int) - 1)<(v2.length:Int),g2=g2,g2=g2,((Qx (rowI v2) (0+(Int.toNat (j:Int))*1) [.int .i64 e]).drop (0+(Int.toNat ((j:Int) - 1))*1)).take 1=[.int .i64 e2],(decide (e2<1152921504606846976))=false,InR .i64 ((j:Int)+1)])
 (hg:G Try.prog E (Vk Try.prog) ⟨([.rsl [.int .i64 1,.int .i64 200,.int .i64 6,.int .i64 1000] 0 2,.int .i64 7,J,J,J,J,.int .i64 1007,.sl 0 0 0 3 1,J,.int .i64 0]++jj 43 ([.int .i64 (((List.replicate (Int.toNat (1008:Int)) (1152921504606846976:Int)).length:Nat):Int),.int .i64 ((j:Int)+1)]++Js 163)),[⟨true,0,1,false,[.sl 2 g2 0 v2.length 1,.sl 4 g4 0 v4.length 1,.sl 6 g6 0 v6.length 1],true⟩,⟨false,1,1,true,[],false⟩,⟨true,g2,1,true,(Qx (rowI v2) (0+(Int.toNat (j:Int))*1) [.int .i64 e]),true⟩,⟨false,1,1,true,[],false⟩,⟨true,g4,1,true,(rowI v4),true⟩,⟨false,1,1,true,[],false⟩,⟨true,g6,1,true,(rowI v6),true⟩]⟩):G Try.prog E (Vk Try.prog) (VL v4 v6 j v2 g4 g6 g2) :=
 Qm (n:=400) (ds:=[]) (cs:=[]) (live:=[0,1,6,7,9,53,54]) (m:=7) (evs:=[.b true,.auto,.auto,.ld (.int .i64 e),.b true,.auto,.ld (.int .i64 e2),.b false,.stop]) (obs:=_) hE.2.1 (hE.nogh _) Qp (by kernel_rfl) ho hg
theorem p186_2_2 (v4:List Int) (v6:List Int) (j:Nat) (v2:List Int) (g4:Nat) (g6:Nat) (g2:Nat) (e:Int) (e1:Int) {E:Env} {rv:AV} (hE:Qj Try.prog 186 rv E) (ho:AllP [(decide ((j:Int)<(((List.replicate (Int.toNat (1008:Int)) (1152921504606846976:Int)).length:Nat):Int)))=true,(0:Int)≤0∧(0:Int)<((3:Nat):Int),0=0,0=0,InR .i64 1,(0:Int)≤1∧(1:Int)<((3:Nat):Int),0=0,0=0,0≤(j:Int)∧(j:Int)<(v4.length:Int),g4=g4,g4=g4,((rowI v4).drop (0+(Int.toNat (j:Int))*1)).take 1=[.int .i64 e],0≤(j:Int)∧(j:Int)<(v2.length:Int),g2=g2,((0+(Int.toNat (j:Int))*1)+1)≤(rowI v2).length,g2=g2,(0:Int)≤0∧(0:Int)<((2:Nat):Int),InR .i64 ((j:Int) - 1),(decide (((j:Int) - 1)≥0))=false,false=false,InR .i64 ((j:Int)+1)])
 (hg:G Try.prog E (Vk Try.prog) ⟨([.rsl [.int .i64 1,.int .i64 200,.int .i64 6,.int .i64 1000] 0 2,.int .i64 7,J,J,J,J,.int .i64 1007,.sl 0 0 0 3 1,J,.int .i64 0]++jj 43 ([.int .i64 (((List.replicate (Int.toNat (1008:Int)) (1152921504606846976:Int)).length:Nat):Int),.int .i64 ((j:Int)+1)]++Js 163)),[⟨true,0,1,false,[.sl 2 g2 0 v2.length 1,.sl 4 g4 0 v4.length 1,.sl 6 g6 0 v6.length 1],true⟩,⟨false,1,1,true,[],false⟩,⟨true,g2,1,true,(Qx (rowI v2) (0+(Int.toNat (j:Int))*1) [.int .i64 e]),true⟩,⟨false,1,1,true,[],false⟩,⟨true,g4,1,true,(rowI v4),true⟩,⟨false,1,1,true,[],false⟩,⟨true,g6,1,true,(rowI v6),true⟩]⟩):G Try.prog E (Vk Try.prog) (VL v4 v6 j v2 g4 g6 g2) :=
 Qm (n:=400) (ds:=[]) (cs:=[]) (live:=[0,1,6,7,9,53,54]) (m:=7) (evs:=[.b true,.auto,.auto,.ld (.int .i64 e),.b false,.b false,.stop]) (obs:=_) hE.2.1 (hE.nogh _) Qp (by kernel_rfl) ho hg
theorem p186_2_3 (v4:List Int) (v6:List Int) (j:Nat) (v2:List Int) (g4:Nat) (g6:Nat) (g2:Nat) {E:Env} {rv:AV} (hE:Qj Try.prog 186 rv E) (ho:AllP [(decide ((j:Int)<(((List.replicate (Int.toNat (1008:Int)) (1152921504606846976:Int)).length:Nat):Int)))=false,InR .i64 (-1),false=false])
 (hg:G Try.prog E (VM Try.prog) ⟨([.rsl [.int .i64 1,.int .i64 200,.int .i64 6,.int .i64 1000] 0 2]++jj 5 ([.int .i64 1007,.sl 0 0 0 3 1,J,J,J,J,.int .i64 7,.int .i64 7]++Js 204)),[⟨true,0,1,false,[.sl 2 g2 0 v2.length 1,.sl 4 g4 0 v4.length 1,.sl 6 g6 0 v6.length 1],true⟩,⟨false,1,1,true,[],false⟩,⟨true,g2,1,true,(rowI v2),true⟩,⟨false,1,1,true,[],false⟩,⟨true,g4,1,true,(rowI v4),true⟩,⟨false,1,1,true,[],false⟩,⟨true,g6,1,true,(rowI v6),true⟩]⟩):G Try.prog E (Vk Try.prog) (VL v4 v6 j v2 g4 g6 g2) :=
 Qm (n:=400) (ds:=[]) (cs:=[]) (live:=[0,6,7,12,13]) (m:=7) (evs:=[.b false,.b false,.stop]) (obs:=_) hE.2.1 (hE.nogh _) Qp (by kernel_rfl) ho hg
theorem f186W2 (v4:List Int) (v6:List Int) (j:Nat) (v2:List Int) {E:Env} {rv:((List Int) × Int)} (hE:Qj Try.prog 186 (.tup [.rsl (rowI rv.1) 0 rv.1.length,.int .i64 rv.2]) E)
 (h:(((j:Int)<(((List.replicate (Int.toNat (1008:Int)) (1152921504606846976:Int)).length:Nat):Int)→(∃ e:Int,v4[j]?=some e∧(∃ e1:Int,v2[j]?=some e1∧((I6 ((j:Int) - 1))∧((((j:Int) - 1)≥0→(0≤((j:Int) - 1)∧(∃ e2:Int,(v2.set j e)[Int.toNat ((j:Int) - 1)]?=some e2∧((e2<1152921504606846976→(∃ e3:Int,(v2.set j e)[j]?=some e3∧((I6 (e2+200))∧((I6 ((j:Int)+1))∧qs E v4 v6 (j+1) ((v2.set j e).set j (iMin e3 (e2+200)))))))∧(¬ (e2<1152921504606846976)→((I6 ((j:Int)+1))∧qs E v4 v6 (j+1) (v2.set j e)))))))∧(¬ (((j:Int) - 1)≥0)→((I6 ((j:Int)+1))∧qs E v4 v6 (j+1) (v2.set j e))))))))∧(¬ ((j:Int)<(((List.replicate (Int.toNat (1008:Int)) (1152921504606846976:Int)).length:Nat):Int))→f186G3 E v2 v4 v6 7 7))):qs E v4 v6 j v2:=by
 intro g4 g6 g2
 rcases bft (decide ((j:Int)<(((List.replicate (Int.toNat (1008:Int)) (1152921504606846976:Int)).length:Nat):Int))) with hc0 | hc0
 · have h:=h.1 (odt hc0)
   obtain ⟨e,h1,h⟩:=h
   obtain ⟨e1,h2,h⟩:=h
   obtain ⟨q19_1,h⟩:=h
   rcases bft (decide (((j:Int) - 1)≥0)) with hc1 | hc1
   · have h:=h.1 (odt hc1)
     obtain ⟨h4,h⟩:=h
     obtain ⟨e2,h3,h⟩:=h
     rcases bft (decide (e2<1152921504606846976)) with hc2 | hc2
     · have h:=h.1 (odt hc2)
       obtain ⟨e3,h5,h⟩:=h
       obtain ⟨q49_3,h⟩:=h
       obtain ⟨q54_3,h⟩:=h
       refine p186_2_0 v4 v6 j v2 g4 g6 g2 e e1 e2 e3 hE ⟨hc0,(⟨by decide,by decide⟩),rfl,rfl,(⟨by decide,by decide⟩),(⟨by decide,by decide⟩),rfl,rfl,(Qz h1),rfl,rfl,(rp cI 1 0 1 h1),(Qz h2),rfl,(rf cI 1 0 1 h2),rfl,(⟨by decide,by decide⟩),q19_1,hc1,(⟨by decide,by decide⟩),rfl,rfl,(by have hx:=Qo h4 h3; simpa using hx),rfl,rfl,(by rw [(show Qx (rowI v2) (0+(Int.toNat (j:Int))*1) [.int .i64 e]=rowI (v2.set j e) from QH cI (s:=1) (k:=0) (fun _=>rfl) h2 rfl (by first | decide | simp))]; exact rp cI 1 0 1 h3),hc2,(⟨by decide,by decide⟩),rfl,rfl,(⟨by decide,by decide⟩),rfl,rfl,(by have hx:=Qz h5; simpa using hx),rfl,rfl,(by rw [(show Qx (rowI v2) (0+(Int.toNat (j:Int))*1) [.int .i64 e]=rowI (v2.set j e) from QH cI (s:=1) (k:=0) (fun _=>rfl) h2 rfl (by first | decide | simp))]; exact rp cI 1 0 1 h5),(⟨by decide,by decide⟩),rfl,rfl,(by have hx:=Qo h4 h3; simpa using hx),rfl,rfl,(by rw [(show Qx (rowI v2) (0+(Int.toNat (j:Int))*1) [.int .i64 e]=rowI (v2.set j e) from QH cI (s:=1) (k:=0) (fun _=>rfl) h2 rfl (by first | decide | simp))]; exact rp cI 1 0 1 h3),(⟨by decide,by decide⟩),q49_3,(by have hx:=Qz h5; simpa using hx),rfl,(by rw [(show Qx (rowI v2) (0+(Int.toNat (j:Int))*1) [.int .i64 e]=rowI (v2.set j e) from QH cI (s:=1) (k:=0) (fun _=>rfl) h2 rfl (by first | decide | simp))]; exact rf cI 1 0 1 h5),rfl,q54_3,trivial⟩ ?_
       have h:=(h g4 g6 g2)
       simp only [VL,List.length_set] at h
       rw [(show Qx (rowI v2) (0+(Int.toNat (j:Int))*1) [.int .i64 e]=rowI (v2.set j e) from QH cI (s:=1) (k:=0) (fun _=>rfl) h2 rfl (by first | decide | simp))]; rw [(show Qx (rowI (v2.set j e)) (0+(Int.toNat (j:Int))*1) [.int .i64 (iMin e3 (e2+200))]=rowI ((v2.set j e).set j (iMin e3 (e2+200))) from QH cI (s:=1) (k:=0) (fun _=>rfl) h5 rfl (by first | decide | simp))]
       exact h
     · have h:=h.2 (odf hc2)
       obtain ⟨q30_3,h⟩:=h
       refine p186_2_1 v4 v6 j v2 g4 g6 g2 e e1 e2 hE ⟨hc0,(⟨by decide,by decide⟩),rfl,rfl,(⟨by decide,by decide⟩),(⟨by decide,by decide⟩),rfl,rfl,(Qz h1),rfl,rfl,(rp cI 1 0 1 h1),(Qz h2),rfl,(rf cI 1 0 1 h2),rfl,(⟨by decide,by decide⟩),q19_1,hc1,(⟨by decide,by decide⟩),rfl,rfl,(by have hx:=Qo h4 h3; simpa using hx),rfl,rfl,(by rw [(show Qx (rowI v2) (0+(Int.toNat (j:Int))*1) [.int .i64 e]=rowI (v2.set j e) from QH cI (s:=1) (k:=0) (fun _=>rfl) h2 rfl (by first | decide | simp))]; exact rp cI 1 0 1 h3),hc2,q30_3,trivial⟩ ?_
       have h:=(h g4 g6 g2)
       simp only [VL,List.length_set] at h
       rw [(show Qx (rowI v2) (0+(Int.toNat (j:Int))*1) [.int .i64 e]=rowI (v2.set j e) from QH cI (s:=1) (k:=0) (fun _=>rfl) h2 rfl (by first | decide | simp))]
       exact h
   · have h:=h.2 (odf hc1)
     obtain ⟨q22_2,h⟩:=h
     refine p186_2_2 v4 v6 j v2 g4 g6 g2 e e1 hE ⟨hc0,(⟨by decide,by decide⟩),rfl,rfl,(⟨by decide,by decide⟩),(⟨by decide,by decide⟩),rfl,rfl,(Qz h1),rfl,rfl,(rp cI 1 0 1 h1),(Qz h2),rfl,(rf cI 1 0 1 h2),rfl,(⟨by decide,by decide⟩),q19_1,hc1,rfl,q22_2,trivial⟩ ?_
     have h:=(h g4 g6 g2)
     simp only [VL,List.length_set] at h
     rw [(show Qx (rowI v2) (0+(Int.toNat (j:Int))*1) [.int .i64 e]=rowI (v2.set j e) from QH cI (s:=1) (k:=0) (fun _=>rfl) h2 rfl (by first | decide | simp))]
     exact h
 · have h:=h.2 (odf hc0)
   exact p186_2_3 v4 v6 j v2 g4 g6 g2 hE ⟨hc0,(⟨by decide,by decide⟩),rfl,trivial⟩ (h g2 g4 g6)
theorem p186_3_0 (v2:List Int) (v4:List Int) (v6:List Int) (t:Nat) (tokens:Nat) (g2:Nat) (g4:Nat) (g6:Nat) (e:Int) (e1:Int) {E:Env} {rv:AV} (hE:Qj Try.prog 186 rv E) (ho:AllP [(decide ((t:Int)≤1007))=true,(0:Int)≤0∧(0:Int)<((3:Nat):Int),0=0,0=0,0≤(t:Int)∧(t:Int)<(v2.length:Int),g2=g2,g2=g2,((rowI v2).drop (0+(Int.toNat (t:Int))*1)).take 1=[.int .i64 e],(0:Int)≤0∧(0:Int)<((3:Nat):Int),0=0,0=0,0≤(tokens:Int)∧(tokens:Int)<(v2.length:Int),g2=g2,g2=g2,((rowI v2).drop (0+(Int.toNat (tokens:Int))*1)).take 1=[.int .i64 e1],(decide (e<e1))=true,InR .i64 ((t:Int)+1)])
 (hg:G Try.prog E (VM Try.prog) ⟨([.rsl [.int .i64 1,.int .i64 200,.int .i64 6,.int .i64 1000] 0 2]++jj 5 ([.int .i64 1007,.sl 0 0 0 3 1,J,J,J,J,.int .i64 (t:Int),.int .i64 ((t:Int)+1)]++Js 204)),[⟨true,0,1,false,[.sl 2 g2 0 v2.length 1,.sl 4 g4 0 v4.length 1,.sl 6 g6 0 v6.length 1],true⟩,⟨false,1,1,true,[],false⟩,⟨true,g2,1,true,(rowI v2),true⟩,⟨false,1,1,true,[],false⟩,⟨true,g4,1,true,(rowI v4),true⟩,⟨false,1,1,true,[],false⟩,⟨true,g6,1,true,(rowI v6),true⟩]⟩):G Try.prog E (VM Try.prog) (f186S3 v2 v4 v6 t tokens g2 g4 g6) :=
 Qm (n:=400) (ds:=[]) (cs:=[]) (live:=[0,6,7,12,13]) (m:=7) (evs:=[.b true,.auto,.ld (.int .i64 e),.auto,.ld (.int .i64 e1),.b true,.stop]) (obs:=_) hE.2.1 (hE.nogh _) Qp (by kernel_rfl) ho hg
theorem p186_3_1 (v2:List Int) (v4:List Int) (v6:List Int) (t:Nat) (tokens:Nat) (g2:Nat) (g4:Nat) (g6:Nat) (e:Int) (e1:Int) {E:Env} {rv:AV} (hE:Qj Try.prog 186 rv E) (ho:AllP [(decide ((t:Int)≤1007))=true,(0:Int)≤0∧(0:Int)<((3:Nat):Int),0=0,0=0,0≤(t:Int)∧(t:Int)<(v2.length:Int),g2=g2,g2=g2,((rowI v2).drop (0+(Int.toNat (t:Int))*1)).take 1=[.int .i64 e],(0:Int)≤0∧(0:Int)<((3:Nat):Int),0=0,0=0,0≤(tokens:Int)∧(tokens:Int)<(v2.length:Int),g2=g2,g2=g2,((rowI v2).drop (0+(Int.toNat (tokens:Int))*1)).take 1=[.int .i64 e1],(decide (e<e1))=false,InR .i64 ((t:Int)+1)])
 (hg:G Try.prog E (VM Try.prog) ⟨([.rsl [.int .i64 1,.int .i64 200,.int .i64 6,.int .i64 1000] 0 2]++jj 5 ([.int .i64 1007,.sl 0 0 0 3 1,J,J,J,J,.int .i64 (tokens:Int),.int .i64 ((t:Int)+1)]++Js 204)),[⟨true,0,1,false,[.sl 2 g2 0 v2.length 1,.sl 4 g4 0 v4.length 1,.sl 6 g6 0 v6.length 1],true⟩,⟨false,1,1,true,[],false⟩,⟨true,g2,1,true,(rowI v2),true⟩,⟨false,1,1,true,[],false⟩,⟨true,g4,1,true,(rowI v4),true⟩,⟨false,1,1,true,[],false⟩,⟨true,g6,1,true,(rowI v6),true⟩]⟩):G Try.prog E (VM Try.prog) (f186S3 v2 v4 v6 t tokens g2 g4 g6) :=
 Qm (n:=400) (ds:=[]) (cs:=[]) (live:=[0,6,7,12,13]) (m:=7) (evs:=[.b true,.auto,.ld (.int .i64 e),.auto,.ld (.int .i64 e1),.b false,.stop]) (obs:=_) hE.2.1 (hE.nogh _) Qp (by kernel_rfl) ho hg
theorem p186_3_2 (v2:List Int) (v4:List Int) (v6:List Int) (t:Nat) (tokens:Nat) (g2:Nat) (g4:Nat) (g6:Nat) (e:Int) {E:Env} {res:AV} (hE:Qj Try.prog 186 res E) (ho:AllP [(decide ((t:Int)≤1007))=false,(0:Int)≤0∧(0:Int)<((3:Nat):Int),0=0,0=0,0≤(tokens:Int)∧(tokens:Int)<(v2.length:Int),g2=g2,g2=g2,((rowI v2).drop (0+(Int.toNat (tokens:Int))*1)).take 1=[.int .i64 e],(e == 1152921504606846976)=true])
 (hr:AvLe (.tup [.nilSl,.int .i64 0]) res):G Try.prog E (VM Try.prog) (f186S3 v2 v4 v6 t tokens g2 g4 g6) :=
 Qb (n:=400) (evs:=[.b false,.auto,.ld (.int .i64 e),.b true]) (obs:=_) hE Try.func186 Qp (by kernel_rfl) ho hr
theorem p186_3_3 (v2:List Int) (v4:List Int) (v6:List Int) (t:Nat) (tokens:Nat) (g2:Nat) (g4:Nat) (g6:Nat) (e:Int) {E:Env} {rv:AV} (hE:Qj Try.prog 186 rv E) (ho:AllP [(decide ((t:Int)≤1007))=false,(0:Int)≤0∧(0:Int)<((3:Nat):Int),0=0,0=0,0≤(tokens:Int)∧(tokens:Int)<(v2.length:Int),g2=g2,g2=g2,((rowI v2).drop (0+(Int.toNat (tokens:Int))*1)).take 1=[.int .i64 e],(e == 1152921504606846976)=false,(0:Int)≤2∧(2:Int)≤2∧(2:Int)≤2147483648,true=true,(0:Int)≤0∧(0:Int)<((2:Nat):Int),2≤2,(0:Int)≤0∧(0:Int)<((3:Nat):Int),0=0,0=0,0≤(tokens:Int)∧(tokens:Int)<(v2.length:Int),g2=g2,g2=g2,((rowI v2).drop (0+(Int.toNat (tokens:Int))*1)).take 1=[.int .i64 e]])
 (hg:G Try.prog E (WB Try.prog) ⟨([J,J,J,J,.sl 7 0 0 2 1,.int .i64 e,J,.sl 0 0 0 3 1,J,J,J,J,.int .i64 (tokens:Int),J,.int .i64 0,.ptr 8 0 0,.int .i64 e]++jj 133 ([.rsl [.int .i64 1,.int .i64 200,.int .i64 6,.int .i64 1000] 0 2,.int .i64 2,.int .i64 0]++Js 65)),[⟨true,0,1,false,[.sl 2 g2 0 v2.length 1,.sl 4 g4 0 v4.length 1,.sl 6 g6 0 v6.length 1],true⟩,⟨false,1,1,true,[],false⟩,⟨true,g2,1,true,(rowI v2),true⟩,⟨false,1,1,true,[],false⟩,⟨true,g4,1,true,(rowI v4),true⟩,⟨false,1,1,true,[],false⟩,⟨true,g6,1,true,(rowI v6),true⟩,⟨true,0,1,true,[.int .i64 0,.int .i64 0],true⟩,⟨true,0,1,true,[.int .i64 1,.int .i64 200],false⟩]⟩):G Try.prog E (VM Try.prog) (f186S3 v2 v4 v6 t tokens g2 g4 g6) :=
 Qm (n:=400) (ds:=[]) (cs:=[]) (live:=[4,5,7,12,14,15,16,150,151,152]) (m:=9) (evs:=[.b false,.auto,.ld (.int .i64 e),.b false,.b true,.auto,.auto,.ld (.int .i64 e),.stop]) (obs:=_) hE.2.1 (hE.nogh _) Qp (by kernel_rfl) ho hg
theorem f186W3 (v2:List Int) (v4:List Int) (v6:List Int) (t:Nat) (tokens:Nat) {E:Env} {rv:((List Int) × Int)} (hE:Qj Try.prog 186 (.tup [.rsl (rowI rv.1) 0 rv.1.length,.int .i64 rv.2]) E)
 (h:(((t:Int)≤1007→(∃ e:Int,v2[t]?=some e∧(∃ e1:Int,v2[tokens]?=some e1∧((e<e1→((I6 ((t:Int)+1))∧f186G3 E v2 v4 v6 (t+1) t))∧(¬ (e<e1)→((I6 ((t:Int)+1))∧f186G3 E v2 v4 v6 (t+1) tokens))))))∧(¬ ((t:Int)≤1007)→(∃ e:Int,v2[tokens]?=some e∧((e=1152921504606846976→rv=(([]:List Int),0))∧(¬ (e=1152921504606846976)→f186G5 E e (tokens:Int) e v2 v4 v6 0)))))):f186G3 E v2 v4 v6 t tokens:=by
 intro g2 g4 g6
 rcases bft (decide ((t:Int)≤1007)) with hc0 | hc0
 · have h:=h.1 (odt hc0)
   obtain ⟨e,h1,h⟩:=h
   obtain ⟨e1,h2,h⟩:=h
   rcases bft (decide (e<e1)) with hc1 | hc1
   · have h:=h.1 (odt hc1)
     obtain ⟨q18_2,h⟩:=h
     exact p186_3_0 v2 v4 v6 t tokens g2 g4 g6 e e1 hE ⟨hc0,(⟨by decide,by decide⟩),rfl,rfl,(Qz h1),rfl,rfl,(rp cI 1 0 1 h1),(⟨by decide,by decide⟩),rfl,rfl,(Qz h2),rfl,rfl,(rp cI 1 0 1 h2),hc1,q18_2,trivial⟩ (h g2 g4 g6)
   · have h:=h.2 (odf hc1)
     obtain ⟨q18_2,h⟩:=h
     exact p186_3_1 v2 v4 v6 t tokens g2 g4 g6 e e1 hE ⟨hc0,(⟨by decide,by decide⟩),rfl,rfl,(Qz h1),rfl,rfl,(rp cI 1 0 1 h1),(⟨by decide,by decide⟩),rfl,rfl,(Qz h2),rfl,rfl,(rp cI 1 0 1 h2),hc1,q18_2,trivial⟩ (h g2 g4 g6)
 · have h:=h.2 (odf hc0)
   obtain ⟨e,h1,h⟩:=h
   rcases bft (e == 1152921504606846976) with hc1 | hc1
   · have h:=h.1 (eq_of_beq hc1)
     exact p186_3_2 v2 v4 v6 t tokens g2 g4 g6 e hE ⟨hc0,(⟨by decide,by decide⟩),rfl,rfl,(Qz h1),rfl,rfl,(rp cI 1 0 1 h1),hc1,trivial⟩ (by rw [h]; exact (Wd ⟨Wo,⟨AvLe.of_eq rfl,trivial⟩⟩))
   · have h:=h.2 (ne_of_beq_false hc1)
     exact p186_3_3 v2 v4 v6 t tokens g2 g4 g6 e hE ⟨hc0,(⟨by decide,by decide⟩),rfl,rfl,(Qz h1),rfl,rfl,(rp cI 1 0 1 h1),hc1,(⟨by decide,by decide,by decide⟩),rfl,(⟨by decide,by decide⟩),(by decide),(⟨by decide,by decide⟩),rfl,rfl,(Qz h1),rfl,rfl,(rp cI 1 0 1 h1),trivial⟩ (h g2 g4 g6)
theorem p186_5_0 (price:Int) (tokens:Int) (left:Int) (v2:List Int) (v4:List Int) (v6:List Int) (v7_0:Nat) (g2:Nat) (g4:Nat) (g6:Nat) (e:Int) {E:Env} {rv:AV} (hE:Qj Try.prog 186 rv E) (ho:AllP [(decide (tokens≥1))=true,(0:Int)≤0∧(0:Int)<((3:Nat):Int),0=0,0=0,InR .i64 (tokens - 1),0≤(tokens - 1)∧(tokens - 1)<(v2.length:Int),g2=g2,g2=g2,((rowI v2).drop (0+(Int.toNat (tokens - 1))*1)).take 1=[.int .i64 e],(decide (e<1152921504606846976))=true,(0:Int)≤0∧(0:Int)<((3:Nat):Int),0=0,0=0,InR .i64 (tokens - 1),0≤(tokens - 1)∧(tokens - 1)<(v2.length:Int),g2=g2,g2=g2,((rowI v2).drop (0+(Int.toNat (tokens - 1))*1)).take 1=[.int .i64 e],InR .i64 (e+200),((e+200) == left)=true,InR .i64 (tokens - 1),(0:Int)≤0∧(0:Int)<((2:Nat):Int),0=0,0=0,InR .i64 ((v7_0:Int)+1),(0:Int)≤0∧(0:Int)<((2:Nat):Int),0=0,1≤2,0=0,(0:Int)≤0∧(0:Int)<((3:Nat):Int),0=0,0=0,0≤(tokens - 1)∧(tokens - 1)<(v2.length:Int),g2=g2,g2=g2,((rowI v2).drop (0+(Int.toNat (tokens - 1))*1)).take 1=[.int .i64 e]])
 (hg:G Try.prog E (WB Try.prog) ⟨([J,J,J,J,.sl 7 0 0 2 1,.int .i64 price,J,.sl 0 0 0 3 1,J,J,J,J,.int .i64 (tokens - 1),J,.int .i64 0,.ptr 8 0 0,.int .i64 e]++jj 133 ([.rsl [.int .i64 1,.int .i64 200,.int .i64 6,.int .i64 1000] 0 2,.int .i64 2,.int .i64 0]++Js 65)),[⟨true,0,1,false,[.sl 2 g2 0 v2.length 1,.sl 4 g4 0 v4.length 1,.sl 6 g6 0 v6.length 1],true⟩,⟨false,1,1,true,[],false⟩,⟨true,g2,1,true,(rowI v2),true⟩,⟨false,1,1,true,[],false⟩,⟨true,g4,1,true,(rowI v4),true⟩,⟨false,1,1,true,[],false⟩,⟨true,g6,1,true,(rowI v6),true⟩,⟨true,0,1,true,[.int .i64 ((v7_0:Int)+1),.int .i64 0],true⟩,⟨true,0,1,true,[.int .i64 1,.int .i64 200],false⟩]⟩):G Try.prog E (WB Try.prog) (f186S5 price tokens left v2 v4 v6 v7_0 g2 g4 g6) :=
 Qm (n:=400) (ds:=[]) (cs:=[]) (live:=[4,5,7,12,14,15,16,150,151,152]) (m:=9) (evs:=[.b true,.auto,.auto,.ld (.int .i64 e),.b true,.auto,.auto,.ld (.int .i64 e),.b true,.auto,.auto,.auto,.ld (.int .i64 e),.stop]) (obs:=_) hE.2.1 (hE.nogh _) Qp (by kernel_rfl) ho hg
theorem p186_5_1 (price:Int) (tokens:Int) (left:Int) (v2:List Int) (v4:List Int) (v6:List Int) (v7_0:Nat) (g2:Nat) (g4:Nat) (g6:Nat) (e:Int) (e1:Int) {E:Env} {rv:AV} (hE:Qj Try.prog 186 rv E) (ho:AllP [(decide (tokens≥1))=true,(0:Int)≤0∧(0:Int)<((3:Nat):Int),0=0,0=0,InR .i64 (tokens - 1),0≤(tokens - 1)∧(tokens - 1)<(v2.length:Int),g2=g2,g2=g2,((rowI v2).drop (0+(Int.toNat (tokens - 1))*1)).take 1=[.int .i64 e],(decide (e<1152921504606846976))=true,(0:Int)≤0∧(0:Int)<((3:Nat):Int),0=0,0=0,InR .i64 (tokens - 1),0≤(tokens - 1)∧(tokens - 1)<(v2.length:Int),g2=g2,g2=g2,((rowI v2).drop (0+(Int.toNat (tokens - 1))*1)).take 1=[.int .i64 e],InR .i64 (e+200),((e+200) == left)=false,InR .i64 1,true=true,(0:Int)≤1∧(1:Int)<((2:Nat):Int),2≤2,(0:Int)≤1∧(1:Int)<((3:Nat):Int),0=0,0=0,0≤tokens∧tokens<(v4.length:Int),g4=g4,g4=g4,((rowI v4).drop (0+(Int.toNat tokens)*1)).take 1=[.int .i64 e1]])
 (hg:G Try.prog E (XG Try.prog) ⟨([J,J,J,J,.sl 7 0 0 2 1,.int .i64 price,J,.sl 0 0 0 3 1,J,J,J,J,.int .i64 tokens,J,.int .i64 1,.ptr 9 0 0,.int .i64 e1]++jj 133 ([.rsl [.int .i64 1,.int .i64 200,.int .i64 6,.int .i64 1000] 0 2,.int .i64 2,.int .i64 1]++Js 65)),[⟨true,0,1,false,[.sl 2 g2 0 v2.length 1,.sl 4 g4 0 v4.length 1,.sl 6 g6 0 v6.length 1],true⟩,⟨false,1,1,true,[],false⟩,⟨true,g2,1,true,(rowI v2),true⟩,⟨false,1,1,true,[],false⟩,⟨true,g4,1,true,(rowI v4),true⟩,⟨false,1,1,true,[],false⟩,⟨true,g6,1,true,(rowI v6),true⟩,⟨true,0,1,true,[.int .i64 (v7_0:Int),.int .i64 0],true⟩,⟨true,0,1,true,[.int .i64 1,.int .i64 200],false⟩,⟨true,0,1,true,[.int .i64 6,.int .i64 1000],false⟩]⟩):G Try.prog E (WB Try.prog) (f186S5 price tokens left v2 v4 v6 v7_0 g2 g4 g6) :=
 Qm (n:=400) (ds:=[]) (cs:=[]) (live:=[4,5,7,12,14,15,16,150,151,152]) (m:=10) (evs:=[.b true,.auto,.auto,.ld (.int .i64 e),.b true,.auto,.auto,.ld (.int .i64 e),.b false,.b true,.auto,.auto,.ld (.int .i64 e1),.stop]) (obs:=_) hE.2.1 (hE.nogh _) Qp (by kernel_rfl) ho hg
theorem p186_5_2 (price:Int) (tokens:Int) (left:Int) (v2:List Int) (v4:List Int) (v6:List Int) (v7_0:Nat) (g2:Nat) (g4:Nat) (g6:Nat) (e:Int) (e1:Int) {E:Env} {rv:AV} (hE:Qj Try.prog 186 rv E) (ho:AllP [(decide (tokens≥1))=true,(0:Int)≤0∧(0:Int)<((3:Nat):Int),0=0,0=0,InR .i64 (tokens - 1),0≤(tokens - 1)∧(tokens - 1)<(v2.length:Int),g2=g2,g2=g2,((rowI v2).drop (0+(Int.toNat (tokens - 1))*1)).take 1=[.int .i64 e],(decide (e<1152921504606846976))=false,false=false,InR .i64 1,true=true,(0:Int)≤1∧(1:Int)<((2:Nat):Int),2≤2,(0:Int)≤1∧(1:Int)<((3:Nat):Int),0=0,0=0,0≤tokens∧tokens<(v4.length:Int),g4=g4,g4=g4,((rowI v4).drop (0+(Int.toNat tokens)*1)).take 1=[.int .i64 e1]])
 (hg:G Try.prog E (XG Try.prog) ⟨([J,J,J,J,.sl 7 0 0 2 1,.int .i64 price,J,.sl 0 0 0 3 1,J,J,J,J,.int .i64 tokens,J,.int .i64 1,.ptr 9 0 0,.int .i64 e1]++jj 133 ([.rsl [.int .i64 1,.int .i64 200,.int .i64 6,.int .i64 1000] 0 2,.int .i64 2,.int .i64 1]++Js 65)),[⟨true,0,1,false,[.sl 2 g2 0 v2.length 1,.sl 4 g4 0 v4.length 1,.sl 6 g6 0 v6.length 1],true⟩,⟨false,1,1,true,[],false⟩,⟨true,g2,1,true,(rowI v2),true⟩,⟨false,1,1,true,[],false⟩,⟨true,g4,1,true,(rowI v4),true⟩,⟨false,1,1,true,[],false⟩,⟨true,g6,1,true,(rowI v6),true⟩,⟨true,0,1,true,[.int .i64 (v7_0:Int),.int .i64 0],true⟩,⟨true,0,1,true,[.int .i64 1,.int .i64 200],false⟩,⟨true,0,1,true,[.int .i64 6,.int .i64 1000],false⟩]⟩):G Try.prog E (WB Try.prog) (f186S5 price tokens left v2 v4 v6 v7_0 g2 g4 g6) :=
 Qm (n:=400) (ds:=[]) (cs:=[]) (live:=[4,5,7,12,14,15,16,150,151,152]) (m:=10) (evs:=[.b true,.auto,.auto,.ld (.int .i64 e),.b false,.b false,.b true,.auto,.auto,.ld (.int .i64 e1),.stop]) (obs:=_) hE.2.1 (hE.nogh _) Qp (by kernel_rfl) ho hg
theorem p186_5_3 (price:Int) (tokens:Int) (left:Int) (v2:List Int) (v4:List Int) (v6:List Int) (v7_0:Nat) (g2:Nat) (g4:Nat) (g6:Nat) (e:Int) {E:Env} {rv:AV} (hE:Qj Try.prog 186 rv E) (ho:AllP [(decide (tokens≥1))=false,false=false,false=false,InR .i64 1,true=true,(0:Int)≤1∧(1:Int)<((2:Nat):Int),2≤2,(0:Int)≤1∧(1:Int)<((3:Nat):Int),0=0,0=0,0≤tokens∧tokens<(v4.length:Int),g4=g4,g4=g4,((rowI v4).drop (0+(Int.toNat tokens)*1)).take 1=[.int .i64 e]])
 (hg:G Try.prog E (XG Try.prog) ⟨([J,J,J,J,.sl 7 0 0 2 1,.int .i64 price,J,.sl 0 0 0 3 1,J,J,J,J,.int .i64 tokens,J,.int .i64 1,.ptr 9 0 0,.int .i64 e]++jj 133 ([.rsl [.int .i64 1,.int .i64 200,.int .i64 6,.int .i64 1000] 0 2,.int .i64 2,.int .i64 1]++Js 65)),[⟨true,0,1,false,[.sl 2 g2 0 v2.length 1,.sl 4 g4 0 v4.length 1,.sl 6 g6 0 v6.length 1],true⟩,⟨false,1,1,true,[],false⟩,⟨true,g2,1,true,(rowI v2),true⟩,⟨false,1,1,true,[],false⟩,⟨true,g4,1,true,(rowI v4),true⟩,⟨false,1,1,true,[],false⟩,⟨true,g6,1,true,(rowI v6),true⟩,⟨true,0,1,true,[.int .i64 (v7_0:Int),.int .i64 0],true⟩,⟨true,0,1,true,[.int .i64 1,.int .i64 200],false⟩,⟨true,0,1,true,[.int .i64 6,.int .i64 1000],false⟩]⟩):G Try.prog E (WB Try.prog) (f186S5 price tokens left v2 v4 v6 v7_0 g2 g4 g6) :=
 Qm (n:=400) (ds:=[]) (cs:=[]) (live:=[4,5,7,12,14,15,16,150,151,152]) (m:=10) (evs:=[.b false,.b false,.b false,.b true,.auto,.auto,.ld (.int .i64 e),.stop]) (obs:=_) hE.2.1 (hE.nogh _) Qp (by kernel_rfl) ho hg
theorem f186W5 (price:Int) (tokens:Int) (left:Int) (v2:List Int) (v4:List Int) (v6:List Int) (v7_0:Nat) {E:Env} {rv:((List Int) × Int)} (hE:Qj Try.prog 186 (.tup [.rsl (rowI rv.1) 0 rv.1.length,.int .i64 rv.2]) E)
 (h:((tokens≥1→((I6 (tokens - 1))∧(0≤(tokens - 1)∧(∃ e:Int,v2[Int.toNat (tokens - 1)]?=some e∧((e<1152921504606846976→((I6 (tokens - 1))∧((I6 (e+200))∧(((e+200)=left→((I6 (tokens - 1))∧((I6 ((v7_0:Int)+1))∧f186G5 E price (tokens - 1) e v2 v4 v6 (v7_0+1))))∧(¬ ((e+200)=left)→(0≤tokens∧(∃ e1:Int,v4[Int.toNat tokens]?=some e1∧Ye E price tokens e1 v2 v4 v6 v7_0 0)))))))∧(¬ (e<1152921504606846976)→(0≤tokens∧(∃ e1:Int,v4[Int.toNat tokens]?=some e1∧Ye E price tokens e1 v2 v4 v6 v7_0 0))))))))∧(¬ (tokens≥1)→(0≤tokens∧(∃ e:Int,v4[Int.toNat tokens]?=some e∧Ye E price tokens e v2 v4 v6 v7_0 0))))):f186G5 E price tokens left v2 v4 v6 v7_0:=by
 intro g2 g4 g6
 rcases bft (decide (tokens≥1)) with hc0 | hc0
 · have h:=h.1 (odt hc0)
   obtain ⟨q4_1,h⟩:=h
   obtain ⟨h2,h⟩:=h
   obtain ⟨e,h1,h⟩:=h
   rcases bft (decide (e<1152921504606846976)) with hc1 | hc1
   · have h:=h.1 (odt hc1)
     obtain ⟨q14_2,h⟩:=h
     obtain ⟨q19_2,h⟩:=h
     rcases bft ((e+200) == left) with hc2 | hc2
     · have h:=h.1 (eq_of_beq hc2)
       obtain ⟨q21_3,h⟩:=h
       obtain ⟨q25_3,h⟩:=h
       exact p186_5_0 price tokens left v2 v4 v6 v7_0 g2 g4 g6 e hE ⟨hc0,(⟨by decide,by decide⟩),rfl,rfl,q4_1,(Qo h2 h1),rfl,rfl,(rp cI 1 0 1 h1),hc1,(⟨by decide,by decide⟩),rfl,rfl,q14_2,(Qo h2 h1),rfl,rfl,(rp cI 1 0 1 h1),q19_2,hc2,q21_3,(⟨by decide,by decide⟩),rfl,rfl,q25_3,(⟨by decide,by decide⟩),rfl,(by decide),rfl,(⟨by decide,by decide⟩),rfl,rfl,(Qo h2 h1),rfl,rfl,(rp cI 1 0 1 h1),trivial⟩ (h g2 g4 g6)
     · have h:=h.2 (ne_of_beq_false hc2)
       obtain ⟨h4,h⟩:=h
       obtain ⟨e1,h3,h⟩:=h
       exact p186_5_1 price tokens left v2 v4 v6 v7_0 g2 g4 g6 e e1 hE ⟨hc0,(⟨by decide,by decide⟩),rfl,rfl,q4_1,(Qo h2 h1),rfl,rfl,(rp cI 1 0 1 h1),hc1,(⟨by decide,by decide⟩),rfl,rfl,q14_2,(Qo h2 h1),rfl,rfl,(rp cI 1 0 1 h1),q19_2,hc2,(⟨by decide,by decide⟩),rfl,(⟨by decide,by decide⟩),(by decide),(⟨by decide,by decide⟩),rfl,rfl,(Qo h4 h3),rfl,rfl,(rp cI 1 0 1 h3),trivial⟩ (h g2 g4 g6)
   · have h:=h.2 (odf hc1)
     obtain ⟨h4,h⟩:=h
     obtain ⟨e1,h3,h⟩:=h
     exact p186_5_2 price tokens left v2 v4 v6 v7_0 g2 g4 g6 e e1 hE ⟨hc0,(⟨by decide,by decide⟩),rfl,rfl,q4_1,(Qo h2 h1),rfl,rfl,(rp cI 1 0 1 h1),hc1,rfl,(⟨by decide,by decide⟩),rfl,(⟨by decide,by decide⟩),(by decide),(⟨by decide,by decide⟩),rfl,rfl,(Qo h4 h3),rfl,rfl,(rp cI 1 0 1 h3),trivial⟩ (h g2 g4 g6)
 · have h:=h.2 (odf hc0)
   obtain ⟨h2,h⟩:=h
   obtain ⟨e,h1,h⟩:=h
   exact p186_5_3 price tokens left v2 v4 v6 v7_0 g2 g4 g6 e hE ⟨hc0,rfl,rfl,(⟨by decide,by decide⟩),rfl,(⟨by decide,by decide⟩),(by decide),(⟨by decide,by decide⟩),rfl,rfl,(Qo h2 h1),rfl,rfl,(rp cI 1 0 1 h1),trivial⟩ (h g2 g4 g6)
theorem buy_ok:Pure Try.prog 186 [.rsl [.int .i64 1,.int .i64 200,.int .i64 6,.int .i64 1000] 0 2,.int .i64 7] (.tup [.rsl (rowI [1,1]) 0 2,.int .i64 1200]):=QF Try.func186 f186b fun E hE=>by
 have hl:(List.replicate (Int.toNat (1008:Int)) (1152921504606846976:Int)).length=1008:=by rw [List.length_replicate]; rfl
 -- the last loops
 have e5:Ye E 1200 0 0 (LP c0 1008) (LP c1 1008) r2 1 1:=f186W1005 1200 0 0 _ _ _ 1 1 (rv:=([1,1],1200)) hE ⟨fun h=>by omega,fun _=>rfl⟩
 have a0:(LP c1 1008)[0]?=some 0:=Ym (by omega)
 have a6:(LP c1 1008)[6]?=some 1000:=Ym (by omega)
 have b6:(LP c0 1008)[6]?=some 1000:=Ym (by omega)
 have b5:(LP c0 1008)[5]?=some 1000:=Ym (by omega)
 have b7:(LP c0 1008)[7]?=some 1200:=Ym (by omega)
 have e4:Ye E 1200 6 1000 (LP c0 1008) (LP c1 1008) r2 1 0:=f186W1005 1200 6 1000 _ _ _ 1 0 (rv:=([1,1],1200)) hE
  ⟨fun _=>⟨by omega,by omega,0,a0,fun _=>⟨by omega,by omega,fun _=>⟨by omega,by omega,e5⟩,fun h=>absurd rfl h⟩,fun h=>absurd (by omega) h⟩,fun h=>absurd (by omega) h⟩
 have e3:f186G5 E 1200 6 1000 (LP c0 1008) (LP c1 1008) r2 1:=f186W5 1200 6 1000 _ _ _ 1 (rv:=([1,1],1200)) hE
  ⟨fun _=>⟨by omega,by omega,1000,b5,fun _=>⟨by omega,by omega,fun h=>absurd h (by omega),fun _=>⟨by omega,1000,a6,e4⟩⟩,fun h=>absurd (by omega) h⟩,fun h=>absurd (by omega) h⟩
 have e2:f186G5 E 1200 7 1200 (LP c0 1008) (LP c1 1008) r2 0:=f186W5 1200 7 1200 _ _ _ 0 (rv:=([1,1],1200)) hE
  ⟨fun _=>⟨by omega,by omega,1000,b6,fun _=>⟨by omega,by omega,fun _=>⟨by omega,by omega,e3⟩,fun h=>absurd rfl h⟩,fun h=>absurd (by omega) h⟩,fun h=>absurd (by omega) h⟩
 -- the least price
 have l3:∀ (d t:Nat),t+d=1008→7≤t→f186G3 E (LP c0 1008) (LP c1 1008) r2 t 7:=by
  intro d
  induction d with
  | zero =>
   intro t ht h7
   exact f186W3 _ _ _ t 7 (rv:=([1,1],1200)) hE ⟨fun h=>by omega,fun _=>⟨1200,b7,fun h=>absurd h (by omega),fun _=>e2⟩⟩
  | succ d ih =>
   intro t ht h7
   have hg:(LP c0 1008)[t]?=some (c0 t):=by rw [Ym (by omega),if_pos (by omega)]
   have hge:¬ c0 t<1200:=by unfold c0; omega
   exact f186W3 _ _ _ t 7 (rv:=([1,1],1200)) hE ⟨fun _=>⟨_,hg,1200,b7,fun h=>absurd h hge,fun _=>⟨by omega,ih (t+1) (by omega) (by omega)⟩⟩,fun h=>by omega⟩
 -- the rows
 have l2:∀ (d j:Nat),j+d=1008→qs E (LP c1 1008) r2 j (LP c0 j):=by
  intro d
  induction d with
  | zero =>
   intro j hj
   have ej:j=1008:=by omega
   subst ej
   exact f186W2 _ _ _ _ (rv:=([1,1],1200)) hE ⟨fun h=>by rw [hl] at h; omega,fun _=>l3 1001 7 (by omega) (by omega)⟩
  | succ d ih =>
   intro j hj
   have g1:(LP c1 1008)[j]?=some (c1 j):=by rw [Ym (by omega),if_pos (by omega)]
   have g2:(LP c0 j)[j]?=some NN:=by rw [Ym (by omega),if_neg (by omega)]
   have nx:=ih (j+1) (by omega)
   rw [← LP_set (f:=c0) (j:=j) (by omega)] at nx
   refine f186W2 _ _ j _ (rv:=([1,1],1200)) hE ⟨fun _=>⟨_,g1,_,g2,by omega,fun h1=>?_,fun h1=>⟨by omega,?_⟩⟩,fun h=>by rw [hl] at h; omega⟩
   · have ej:Int.toNat ((j:Int) - 1)=j - 1:=by omega
     have bd:=c0_bd (t:=j - 1) (by omega)
     have g3:((LP c0 j).set j (c1 j))[Int.toNat ((j:Int) - 1)]?=some (c0 (j - 1)):=by rw [ej,List.getElem?_set_ne (by omega),Ym (by omega),if_pos (by omega)]
     have g4:((LP c0 j).set j (c1 j))[j]?=some (c1 j):=List.getElem?_set_self (by rw [qA]; omega)
     refine ⟨by omega,_,g3,fun _=>⟨_,g4,by omega,by omega,?_⟩,fun h=>absurd (by omega) h⟩
     rw [List.set_set,c0_step (by omega) (by omega)]
     exact nx
   · have e0:j=0:=by omega
     subst e0
     exact nx
 have l1:∀ (d j:Nat),j+d=1008→Yr E r2 j (LP c1 j):=by
  intro d
  induction d with
  | zero =>
   intro j hj
   have ej:j=1008:=by omega
   subst ej
   refine f186W1002 _ _ _ (rv:=([1,1],1200)) hE ⟨fun h=>by rw [hl] at h; omega,fun _=>?_⟩
   have:=l2 1008 0 (by omega)
   rw [← LP_zero] at this
   exact this
  | succ d ih =>
   intro j hj
   have g1:=r2_get (j:=j) (by omega)
   have g2:(LP c1 j)[j]?=some NN:=by rw [Ym (by omega),if_neg (by omega)]
   have nx:=ih (j+1) (by omega)
   rw [← LP_set (f:=c1) (j:=j) (by omega)] at nx
   refine f186W1002 _ j _ (rv:=([1,1],1200)) hE ⟨fun _=>⟨_,g1,_,g2,by omega,fun h1=>?_,fun h1=>⟨by omega,?_⟩⟩,fun h=>by rw [hl] at h; omega⟩
   · have ej:Int.toNat ((j:Int) - 6)=j - 6:=by omega
     rw [if_neg (show ¬ j=0 by omega)]
     have g3:((LP c1 j).set j NN)[Int.toNat ((j:Int) - 6)]?=some (c1 (j - 6)):=by rw [ej,List.getElem?_set_ne (by omega),Ym (by omega),if_pos (by omega)]
     have g4:((LP c1 j).set j NN)[j]?=some NN:=List.getElem?_set_self (by rw [qA]; omega)
     refine ⟨by omega,_,g3,fun h2=>⟨_,g4,?_,by omega,?_⟩,fun h2=>⟨by omega,?_⟩⟩
     · by_cases h6:(j - 6) % 6=0
       · have:=Vn (t:=j - 6) (by omega) h6
         omega
       · rw [WN h6] at h2
         exact absurd h2 (by decide)
     · have h6:(j - 6) % 6=0:=Decidable.byContradiction fun h6=>by
        rw [WN h6] at h2
        exact absurd h2 (by decide)
       rw [List.set_set,c1_step (by omega) (by omega) h6]
       exact nx
     · have h6:¬ j % 6=0:=fun h6=>by
        have:=Vn (t:=j - 6) (by omega) (by omega)
        omega
       rw [WN h6] at nx
       exact nx
   · by_cases e0:j=0
     · subst e0
       exact nx
     · rw [if_neg e0]
       have h6:¬ j % 6=0:=by omega
       rw [WN h6] at nx
       exact nx
 have z:(List.replicate (Int.toNat (1008:Int)) (1152921504606846976:Int))[0]?=some NN:=by rw [List.getElem?_replicate,if_pos (by decide)]
 have fin:=l1 1008 0 (by omega)
 rw [← LP_zero] at fin
 exact f186W (rv:=([1,1],1200)) hE ⟨by omega,by omega,by omega,NN,z,fin⟩
end Go.Proofs.Ytemklbioijmjiaa
namespace Go.Proofs.Ytemklbioijmjiaa
open Go Ax
open Go.Proofs
def exF:Fair:=⟨0,0,[5],[0],[⟨1,200⟩,⟨6,1000⟩],0,0,1⟩
theorem f116b:Try.f116.body=some (Qc Try.prog 116):=by kernel_rfl
theorem u116 {a c k:List AV} {r:AV} (h:Pure Try.prog 116 (a++c++k) r):Qe Try.prog (.clos 116 a k) c r:=Qr Try.func116 (by kernel_rfl) f116b h
theorem p116_start_0 {E:Env} {res:AV} (hE:Qj Try.prog 116 res E) (ho:AllP [Qe Try.prog (.clos 186 [] []) [.rsl [.int .i64 1,.int .i64 200,.int .i64 6,.int .i64 1000] 0 2,.int .i64 7] (.tup [.rsl (rowI [1,1]) 0 2,.int .i64 1200]),2 ≠ 0,false=false])
 (hr:AvLe (.tup [.rsl (rowI [1,1]) 0 2,.int .i64 1200,.int .i64 0]) res):G Try.prog E [.code (Qc Try.prog 116)] ⟨[.agg [.int .i64 0,.int .i64 0,.rsl [.int .i64 5] 0 1,.rsl [.int .i64 0] 0 1,.rsl [.int .i64 1,.int .i64 200,.int .i64 6,.int .i64 1000] 0 2,.int .i64 0,.int .i64 0,.int .i64 1],.int .i64 7]++unds (Try.f116.ntmps - 2),[]⟩ :=
 Qb (n:=400) (evs:=[.v (.tup [.rsl (rowI [1,1]) 0 2,.int .i64 1200]),.b false]) (obs:=_) hE Try.func116 Qp (by kernel_rfl) ho hr
theorem f116W {E:Env} {rv:((List Int) × Int × Int)} (hE:Qj Try.prog 116 (.tup [.rsl (rowI rv.1) 0 rv.1.length,.int .i64 rv.2.1,.int .i64 rv.2.2]) E)
 (h:rv=((([1,1]:List Int).take 2),1200,0)):G Try.prog E [.code (Qc Try.prog 116)] ⟨[.agg [.int .i64 0,.int .i64 0,.rsl [.int .i64 5] 0 1,.rsl [.int .i64 0] 0 1,.rsl [.int .i64 1,.int .i64 200,.int .i64 6,.int .i64 1000] 0 2,.int .i64 0,.int .i64 0,.int .i64 1],.int .i64 7]++unds (Try.f116.ntmps - 2),[]⟩:=by
 exact p116_start_0 hE ⟨(u186 buy_ok),(by decide),rfl,trivial⟩ (AvLe.of_eq (by rw [h]; rw [(show AV.rsl (rowI [1,1]) 0 2=AV.rsl (rowI ([1,1]:List Int)) 0 ([1,1]:List Int).length from by rw [show 2=([1,1]:List Int).length from by simp]; try rfl)]; try rfl))
theorem bought_ok:Pure Try.prog 116 [.agg [.int .i64 0,.int .i64 0,.rsl [.int .i64 5] 0 1,.rsl [.int .i64 0] 0 1,.rsl [.int .i64 1,.int .i64 200,.int .i64 6,.int .i64 1000] 0 2,.int .i64 0,.int .i64 0,.int .i64 1],.int .i64 7] (.tup [.rsl (rowI [1,1]) 0 2,.int .i64 1200,.int .i64 0]):=QF Try.func116 f116b fun E hE=>f116W (rv:=([1,1],1200,0)) hE rfl
theorem f48b:Try.f48.body=some (Qc Try.prog 48):=by kernel_rfl
theorem u48 {a c k:List AV} {r:AV} (h:Pure Try.prog 48 (a++c++k) r):Qe Try.prog (.clos 48 a k) c r:=Qr Try.func48 (by kernel_rfl) f48b h
theorem p48_start_0 {E:Env} {res:AV} (hE:Qj Try.prog 48 res E) (ho:AllP [Qe Try.prog (.clos 114 [] []) [.agg [.int .i64 0,.int .i64 0,.rsl [.int .i64 5] 0 1,.rsl [.int .i64 0] 0 1,.rsl [.int .i64 1,.int .i64 200,.int .i64 6,.int .i64 1000] 0 2,.int .i64 0,.int .i64 0,.int .i64 1]] (.int .i64 (Xa exF)),((Xa exF) != 0)=true])
 (hr:AvLe (.tup [.nilSl,.int .i64 0,.int .i64 (Xa exF)]) res):G Try.prog E [.code (Qc Try.prog 48)] ⟨[.agg [.int .i64 0,.int .i64 0,.rsl [.int .i64 5] 0 1,.rsl [.int .i64 0] 0 1,.rsl [.int .i64 1,.int .i64 200,.int .i64 6,.int .i64 1000] 0 2,.int .i64 0,.int .i64 0,.int .i64 1],.int .i64 7]++unds (Try.f48.ntmps - 2),[]⟩ :=
 Qb (n:=400) (evs:=[.v (.int .i64 (Xa exF)),.b true]) (obs:=_) hE Try.func48 Qp (by kernel_rfl) ho hr
theorem p48_start_1 {E:Env} {res:AV} (hE:Qj Try.prog 48 res E) (ho:AllP [Qe Try.prog (.clos 114 [] []) [.agg [.int .i64 0,.int .i64 0,.rsl [.int .i64 5] 0 1,.rsl [.int .i64 0] 0 1,.rsl [.int .i64 1,.int .i64 200,.int .i64 6,.int .i64 1000] 0 2,.int .i64 0,.int .i64 0,.int .i64 1]] (.int .i64 (Xa exF)),((Xa exF) != 0)=false,Qe Try.prog (.clos 115 [] []) [.int .i64 7,.int .i64 0,.int .i64 1000] (.bool (Qa 7 0 1000)),(!(Qa 7 0 1000))=true])
 (hr:AvLe (.tup [.nilSl,.int .i64 0,.int .i64 1]) res):G Try.prog E [.code (Qc Try.prog 48)] ⟨[.agg [.int .i64 0,.int .i64 0,.rsl [.int .i64 5] 0 1,.rsl [.int .i64 0] 0 1,.rsl [.int .i64 1,.int .i64 200,.int .i64 6,.int .i64 1000] 0 2,.int .i64 0,.int .i64 0,.int .i64 1],.int .i64 7]++unds (Try.f48.ntmps - 2),[]⟩ :=
 Qb (n:=400) (evs:=[.v (.int .i64 (Xa exF)),.b false,.v (.bool (Qa 7 0 1000)),.b true]) (obs:=_) hE Try.func48 Qp (by kernel_rfl) ho hr
theorem p48_start_2 {E:Env} {res:AV} (hE:Qj Try.prog 48 res E) (ho:AllP [Qe Try.prog (.clos 114 [] []) [.agg [.int .i64 0,.int .i64 0,.rsl [.int .i64 5] 0 1,.rsl [.int .i64 0] 0 1,.rsl [.int .i64 1,.int .i64 200,.int .i64 6,.int .i64 1000] 0 2,.int .i64 0,.int .i64 0,.int .i64 1]] (.int .i64 (Xa exF)),((Xa exF) != 0)=false,Qe Try.prog (.clos 115 [] []) [.int .i64 7,.int .i64 0,.int .i64 1000] (.bool (Qa 7 0 1000)),(!(Qa 7 0 1000))=false,Qe Try.prog (.clos 116 [] []) [.agg [.int .i64 0,.int .i64 0,.rsl [.int .i64 5] 0 1,.rsl [.int .i64 0] 0 1,.rsl [.int .i64 1,.int .i64 200,.int .i64 6,.int .i64 1000] 0 2,.int .i64 0,.int .i64 0,.int .i64 1],.int .i64 7] (.tup [.rsl (rowI [1,1]) 0 2,.int .i64 1200,.int .i64 0])])
 (hr:AvLe (.tup [.rsl (rowI [1,1]) 0 2,.int .i64 1200,.int .i64 0]) res):G Try.prog E [.code (Qc Try.prog 48)] ⟨[.agg [.int .i64 0,.int .i64 0,.rsl [.int .i64 5] 0 1,.rsl [.int .i64 0] 0 1,.rsl [.int .i64 1,.int .i64 200,.int .i64 6,.int .i64 1000] 0 2,.int .i64 0,.int .i64 0,.int .i64 1],.int .i64 7]++unds (Try.f48.ntmps - 2),[]⟩ :=
 Qb (n:=400) (evs:=[.v (.int .i64 (Xa exF)),.b false,.v (.bool (Qa 7 0 1000)),.b false,.v (.tup [.rsl (rowI [1,1]) 0 2,.int .i64 1200,.int .i64 0])]) (obs:=_) hE Try.func48 Qp (by kernel_rfl) ho hr
theorem f48W {E:Env} {rv:((List Int) × Int × Int)} (hE:Qj Try.prog 48 (.tup [.rsl (rowI rv.1) 0 rv.1.length,.int .i64 rv.2.1,.int .i64 rv.2.2]) E)
 (h:((¬ ((Xa exF)=0)→rv=(([]:List Int),0,(Xa exF)))∧((Xa exF)=0→(((Qa 7 0 1000)=false→rv=(([]:List Int),0,1))∧((Qa 7 0 1000)=true→rv=((([1,1]:List Int).take 2),1200,0)))))):G Try.prog E [.code (Qc Try.prog 48)] ⟨[.agg [.int .i64 0,.int .i64 0,.rsl [.int .i64 5] 0 1,.rsl [.int .i64 0] 0 1,.rsl [.int .i64 1,.int .i64 200,.int .i64 6,.int .i64 1000] 0 2,.int .i64 0,.int .i64 0,.int .i64 1],.int .i64 7]++unds (Try.f48.ntmps - 2),[]⟩:=by
 rcases bft ((Xa exF) != 0) with hc0 | hc0
 · have h:=h.1 (bneT hc0)
   exact p48_start_0 hE ⟨(u114 (Yp exF ⟨by decide,by decide,by decide⟩)),hc0,trivial⟩ (by rw [h]; exact (Wd ⟨Wo,⟨AvLe.of_eq rfl,⟨AvLe.of_eq rfl,trivial⟩⟩⟩))
 · have h:=h.2 (bneF hc0)
   rcases bft (!(Qa 7 0 1000)) with hc1 | hc1
   · have h:=h.1 (bnT hc1)
     exact p48_start_1 hE ⟨(u114 (Yp exF ⟨by decide,by decide,by decide⟩)),hc0,(u115 (Qh 7 0 1000)),hc1,trivial⟩ (by rw [h]; exact (Wd ⟨Wo,⟨AvLe.of_eq rfl,⟨AvLe.of_eq rfl,trivial⟩⟩⟩))
   · have h:=h.2 (bnF hc1)
     exact p48_start_2 hE ⟨(u114 (Yp exF ⟨by decide,by decide,by decide⟩)),hc0,(u115 (Qh 7 0 1000)),hc1,(u116 bought_ok),trivial⟩ (AvLe.of_eq (by rw [h]; rw [(show AV.rsl (rowI [1,1]) 0 2=AV.rsl (rowI ([1,1]:List Int)) 0 ([1,1]:List Int).length from by rw [show 2=([1,1]:List Int).length from by simp]; try rfl)]; try rfl))
theorem exF_ok:Xa exF=0:=by decide
theorem Buy_ok:Pure Try.prog 48 [.agg [.int .i64 0,.int .i64 0,.rsl [.int .i64 5] 0 1,.rsl [.int .i64 0] 0 1,.rsl [.int .i64 1,.int .i64 200,.int .i64 6,.int .i64 1000] 0 2,.int .i64 0,.int .i64 0,.int .i64 1],.int .i64 7] (.tup [.rsl (rowI [1,1]) 0 2,.int .i64 1200,.int .i64 0]):=QF Try.func48 f48b fun E hE=>f48W (rv:=([1,1],1200,0)) hE ⟨fun h=>absurd exF_ok h,fun _=>⟨fun h=>absurd h (by decide),fun _=>rfl⟩⟩
theorem f31b:Try.f31.body=some (Qc Try.prog 31):=by kernel_rfl
theorem u31 {a c k:List AV} {r:AV} (h:Pure Try.prog 31 (a++c++k) r):Qe Try.prog (.clos 31 a k) c r:=Qr Try.func31 (by kernel_rfl) f31b h
def f31K0 (P:Program):List Item:=kAt 400 [.code (Qc P 31)] [.b false,.stop]
def f31S0 (a:(List Int)) (b:(List Int)) (i:Nat):St:=⟨([.rsl (rowI a) 0 a.length,.rsl (rowI b) 0 b.length,J,J,J,.int .i64 (i:Int)]++Js 20),[]⟩
def f31G0 (E:Env) (a:(List Int)) (b:(List Int)) (i:Nat):Prop:=G Try.prog E (f31K0 Try.prog) (f31S0 a b i )
theorem p31_start_0 (a:(List Int)) (b:(List Int)) {E:Env} {res:AV} (hE:Qj Try.prog 31 res E) (ho:AllP [((a.length:Int) != (b.length:Int))=true])
 (hr:AvLe (.bool false) res):G Try.prog E [.code (Qc Try.prog 31)] ⟨[.rsl (rowI a) 0 a.length,.rsl (rowI b) 0 b.length]++unds (Try.f31.ntmps - 2),[]⟩ :=
 Qb (n:=400) (evs:=[.b true]) (obs:=_) hE Try.func31 Qp (by kernel_rfl) ho hr
theorem p31_start_1 (a:(List Int)) (b:(List Int)) {E:Env} {rv:AV} (hE:Qj Try.prog 31 rv E) (ho:AllP [((a.length:Int) != (b.length:Int))=false])
 (hg:G Try.prog E (f31K0 Try.prog) ⟨([.rsl (rowI a) 0 a.length,.rsl (rowI b) 0 b.length,J,J,J,.int .i64 0]++Js 20),[]⟩):G Try.prog E [.code (Qc Try.prog 31)] ⟨[.rsl (rowI a) 0 a.length,.rsl (rowI b) 0 b.length]++unds (Try.f31.ntmps - 2),[]⟩ :=
 Qm (n:=400) (ds:=[]) (cs:=[]) (live:=[0,1,5]) (m:=0) (evs:=[.b false,.stop]) (obs:=_) hE.2.1 (hE.nogh _) Qp (by kernel_rfl) ho hg
theorem f31W (a:(List Int)) (b:(List Int)) {E:Env} {rv:Bool} (hE:Qj Try.prog 31 (.bool rv) E)
 (h:((¬ ((a.length:Int)=(b.length:Int))→rv=false)∧((a.length:Int)=(b.length:Int)→f31G0 E a b 0))):G Try.prog E [.code (Qc Try.prog 31)] ⟨[.rsl (rowI a) 0 a.length,.rsl (rowI b) 0 b.length]++unds (Try.f31.ntmps - 2),[]⟩:=by
 rcases bft ((a.length:Int) != (b.length:Int)) with hc0 | hc0
 · have h:=h.1 (bneT hc0)
   exact p31_start_0 a b hE ⟨hc0,trivial⟩ (AvLe.of_eq (by rw [h]; try rfl))
 · have h:=h.2 (bneF hc0)
   exact p31_start_1 a b hE ⟨hc0,trivial⟩ h
theorem p31_0_0 (a:(List Int)) (b:(List Int)) (i:Nat) (e:Int) (e1:Int) {E:Env} {res:AV} (hE:Qj Try.prog 31 res E) (ho:AllP [(decide ((i:Int)<(a.length:Int)))=true,0≤(i:Int)∧(i:Int)<(a.length:Int),((rowI a).drop (0+(Int.toNat (i:Int))*1)).take 1=[.int .i64 e],0≤(i:Int)∧(i:Int)<(b.length:Int),((rowI b).drop (0+(Int.toNat (i:Int))*1)).take 1=[.int .i64 e1],(e != e1)=true])
 (hr:AvLe (.bool false) res):G Try.prog E (f31K0 Try.prog) (f31S0 a b i ) :=
 Qb (n:=400) (evs:=[.b true,.ld (.int .i64 e),.ld (.int .i64 e1),.b true]) (obs:=_) hE Try.func31 Qp (by kernel_rfl) ho hr
theorem p31_0_1 (a:(List Int)) (b:(List Int)) (i:Nat) (e:Int) (e1:Int) {E:Env} {rv:AV} (hE:Qj Try.prog 31 rv E) (ho:AllP [(decide ((i:Int)<(a.length:Int)))=true,0≤(i:Int)∧(i:Int)<(a.length:Int),((rowI a).drop (0+(Int.toNat (i:Int))*1)).take 1=[.int .i64 e],0≤(i:Int)∧(i:Int)<(b.length:Int),((rowI b).drop (0+(Int.toNat (i:Int))*1)).take 1=[.int .i64 e1],(e != e1)=false,InR .i64 ((i:Int)+1)])
 (hg:G Try.prog E (f31K0 Try.prog) ⟨([.rsl (rowI a) 0 a.length,.rsl (rowI b) 0 b.length,J,J,J,.int .i64 ((i:Int)+1)]++Js 20),[]⟩):G Try.prog E (f31K0 Try.prog) (f31S0 a b i ) :=
 Qm (n:=400) (ds:=[]) (cs:=[]) (live:=[0,1,5]) (m:=0) (evs:=[.b true,.ld (.int .i64 e),.ld (.int .i64 e1),.b false,.stop]) (obs:=_) hE.2.1 (hE.nogh _) Qp (by kernel_rfl) ho hg
theorem p31_0_2 (a:(List Int)) (b:(List Int)) (i:Nat) {E:Env} {res:AV} (hE:Qj Try.prog 31 res E) (ho:AllP [(decide ((i:Int)<(a.length:Int)))=false])
 (hr:AvLe (.bool true) res):G Try.prog E (f31K0 Try.prog) (f31S0 a b i ) :=
 Qb (n:=400) (evs:=[.b false]) (obs:=_) hE Try.func31 Qp (by kernel_rfl) ho hr
theorem f31W0 (a:(List Int)) (b:(List Int)) (i:Nat) {E:Env} {rv:Bool} (hE:Qj Try.prog 31 (.bool rv) E)
 (h:(((i:Int)<(a.length:Int)→(∃ e:Int,a[i]?=some e∧(∃ e1:Int,b[i]?=some e1∧((¬ (e=e1)→rv=false)∧(e=e1→((I6 ((i:Int)+1))∧f31G0 E a b (i+1)))))))∧(¬ ((i:Int)<(a.length:Int))→rv=true))):f31G0 E a b i:=by
 rcases bft (decide ((i:Int)<(a.length:Int))) with hc0 | hc0
 · have h:=h.1 (odt hc0)
   obtain ⟨e,h1,h⟩:=h
   obtain ⟨e1,h2,h⟩:=h
   rcases bft (e != e1) with hc1 | hc1
   · have h:=h.1 (bneT hc1)
     exact p31_0_0 a b i e e1 hE ⟨hc0,(Qz h1),(rp cI 1 0 1 h1),(Qz h2),(rp cI 1 0 1 h2),hc1,trivial⟩ (AvLe.of_eq (by rw [h]; try rfl))
   · have h:=h.2 (bneF hc1)
     obtain ⟨q8_2,h⟩:=h
     exact p31_0_1 a b i e e1 hE ⟨hc0,(Qz h1),(rp cI 1 0 1 h1),(Qz h2),(rp cI 1 0 1 h2),hc1,q8_2,trivial⟩ h
 · have h:=h.2 (odf hc0)
   exact p31_0_2 a b i hE ⟨hc0,trivial⟩ (AvLe.of_eq (by rw [h]; try rfl))
theorem tsame_ok (a b:List Int) (h:a=b∧a.length≤1000000):Pure Try.prog 31 [.rsl (rowI a) 0 a.length,.rsl (rowI b) 0 b.length] (.bool true):=QF Try.func31 f31b fun E hE=>by
 obtain ⟨rfl,hl⟩:=h
 have key:∀ (d i:Nat),i+d=a.length→f31G0 E a a i:=by
  intro d
  induction d with
  | zero=>intro i hi; exact f31W0 a a i (rv:=true) hE ⟨fun h=>by omega,fun _=>rfl⟩
  | succ d ih =>
   intro i hi
   have hx:a[i]?=some (a[i]'(by omega)):=List.getElem?_eq_getElem (by omega)
   exact f31W0 a a i (rv:=true) hE ⟨fun _=>⟨_,hx,_,hx,fun h=>absurd rfl h,fun _=>⟨by omega,ih (i+1) (by omega)⟩⟩,fun h=>by omega⟩
 exact f31W a a (rv:=true) hE ⟨fun h=>absurd rfl h,fun _=>key a.length 0 (by omega)⟩
theorem f13b:Try.f13.body=some (Qc Try.prog 13):=by kernel_rfl
theorem u13 {a c k:List AV} {r:AV} (h:Pure Try.prog 13 (a++c++k) r):Qe Try.prog (.clos 13 a k) c r:=Qr Try.func13 (by kernel_rfl) f13b h
theorem p13_start_0 {E:Env} {res:AV} (hE:Qj Try.prog 13 res E) (ho:AllP [8≤8,YS Try.prog (.clos 48 [] []) [.agg [.int .i64 0,.int .i64 0,.sl 0 0 0 1 1,.sl 1 0 0 1 1,.sl 2 0 0 2 2,.int .i64 0,.int .i64 0,.int .i64 1],.int .i64 7] [⟨true,0,1,true,[.int .i64 5],true⟩,⟨true,0,1,true,[.int .i64 0],true⟩,⟨true,0,2,true,[.int .i64 1,.int .i64 200,.int .i64 6,.int .i64 1000],true⟩] (.tup [.rsl (rowI [1,1]) 0 2,.int .i64 1200,.int .i64 0]) [⟨false,1,1,true,[],false⟩,⟨false,1,1,true,[],false⟩,⟨false,1,2,true,[],false⟩],true=true,true=true,Qe Try.prog (.clos 31 [] []) [.rsl (rowI [1,1]) 0 2,.rsl [.int .i64 1,.int .i64 1] 0 2] (.bool true),0=0])
 (hr:AvLe (.bool true) res):G Try.prog E [.code (Qc Try.prog 13)] ⟨[]++unds (Try.f13.ntmps - 0),[]⟩ :=
 Qb (n:=400) (evs:=[.lent [0,1,2] (.tup [.rsl (rowI [1,1]) 0 2,.int .i64 1200,.int .i64 0]) [⟨false,1,1,true,[],false⟩,⟨false,1,1,true,[],false⟩,⟨false,1,2,true,[],false⟩],.b true,.b true,.v (.bool true)]) (obs:=_) hE Try.func13 Qp (by kernel_rfl) ho hr
theorem f13W {E:Env} {rv:Bool} (hE:Qj Try.prog 13 (.bool rv) E)
 (h:(((([1,1]:List Int).take 2)=([1,1])∧(([1,1]:List Int).take 2).length≤1000000)∧rv=true)):G Try.prog E [.code (Qc Try.prog 13)] ⟨[]++unds (Try.f13.ntmps - 0),[]⟩:=by
 obtain ⟨h1,h⟩:=h
 exact p13_start_0 hE ⟨(by decide),(yl (fv':=.clos 48 [] []) (args':=[.agg [.int .i64 0,.int .i64 0,.rsl [.int .i64 5] 0 1,.rsl [.int .i64 0] 0 1,.rsl [.int .i64 1,.int .i64 200,.int .i64 6,.int .i64 1000] 0 2,.int .i64 0,.int .i64 0,.int .i64 1],.int .i64 7]) (o1:=[]) (o2:=[0=0,0=0,0=0]) (by kernel_rfl) trivial (by kernel_rfl) ⟨rfl,rfl,rfl,trivial⟩ (u48 Buy_ok)),rfl,rfl,(Qe.le (args:=[.rsl (rowI (([1,1]:List Int).take 2)) 0 ((([1,1]:List Int).take 2).length),.rsl (rowI ([1,1])) 0 (([1,1]).length)]) (u31 (tsame_ok (([1,1]:List Int).take 2) ([1,1]) h1)) ⟨(by exact rsl_take cI (s:=1) (fun _=>rfl) (by first | omega | decide | simp)),⟨AvLe.of_eq rfl,trivial⟩⟩),rfl,trivial⟩ (AvLe.of_eq (by rw [h]; try rfl))
theorem XJ:Pure Try.prog 13 [] (.bool true):=QF Try.func13 f13b fun E hE=>f13W (rv:=true) hE ⟨⟨rfl,by decide⟩,rfl⟩
end Go.Proofs.Ytemklbioijmjiaa
namespace Go.Proofs.Ytemklbioijmjiaa
open Go Ax
open Go.Proofs
theorem ownT:ownKnob Try.prog.godebug=none:=by kernel_rfl
theorem laidT:laidOutB Try.prog=true:=by kernel_rfl
theorem tInts (W:World):Dec Try.prog W 34 (List Int) (fun a=>[.rsl (rowI a) 0 a.length]) (fun a=>a.length≤9223372036854775807):=by
 refine Dec.map (WH Try.underlying34 (n:=1) (by kernel_rfl) (by decide) (fun _=>rfl) (fun _=>rfl) (YY Try.underlying3)) (fun x=>x) ?_ ?_
 · exact fun _=>rfl
 · exact fun _ h=>h.1
end Go.Proofs.Ytemklbioijmjiaa
namespace Go.Proofs.Ytemklbioijmjiaa
open Go Ax
open Go.Proofs
theorem Qy:Try.prog.follows .mixedOrders=true:=by kernel_rfl
structure Trn where
 w:Int
 to:Int
def cTrn (t:Trn):List AV:=[.int .i64 t.w,.int .i64 t.to]
def Qs (l:List Trn):List AV:=l.flatMap cTrn
structure Stg where
 kind:Int
 prize:Int
 turns:List Trn
def cStg (x:Stg):List AV:=[.int .i64 x.kind,.int .i64 x.prize,.rsl (Qs x.turns) 0 x.turns.length]
def Qg (l:List Stg):List AV:=l.flatMap cStg
structure Stl where
 stages:List Stg
 worth:List Int
 price:Int
structure Mch where
 s:Stl
 meas:List Int
 mult:List Int
def cMch (m:Mch):List AV:=[.rsl (Qg m.s.stages) 0 m.s.stages.length,.rsl (rowI m.s.worth) 0 m.s.worth.length,.int .i64 m.s.price,.rsl (rowI m.meas) 0 m.meas.length,.rsl (rowI m.mult) 0 m.mult.length]
theorem f69b:Try.f69.body=some (Qc Try.prog 69):=by kernel_rfl
theorem u69 {a c k:List AV} {r:AV} (h:Pure Try.prog 69 (a++c++k) r):Qe Try.prog (.clos 69 a k) c r:=Qr Try.func69 (by kernel_rfl) f69b h
theorem p69_start_0 (n:Int) (lo:Int) (hi:Int) {E:Env} {res:AV} (hE:Qj Try.prog 69 res E) (ho:AllP [(decide (n≥lo))=true])
 (hr:AvLe (.bool (decide (n≤hi))) res):G Try.prog E [.code (Qc Try.prog 69)] ⟨[.int .i64 n,.int .i64 lo,.int .i64 hi]++unds (Try.f69.ntmps - 3),[]⟩ :=
 Qb (n:=400) (evs:=[.b true]) (obs:=_) hE Try.func69 Qy (by kernel_rfl) ho hr
theorem p69_start_1 (n:Int) (lo:Int) (hi:Int) {E:Env} {res:AV} (hE:Qj Try.prog 69 res E) (ho:AllP [(decide (n≥lo))=false])
 (hr:AvLe (.bool false) res):G Try.prog E [.code (Qc Try.prog 69)] ⟨[.int .i64 n,.int .i64 lo,.int .i64 hi]++unds (Try.f69.ntmps - 3),[]⟩ :=
 Qb (n:=400) (evs:=[.b false]) (obs:=_) hE Try.func69 Qy (by kernel_rfl) ho hr
theorem f69W (n:Int) (lo:Int) (hi:Int) {E:Env} {rv:Bool} (hE:Qj Try.prog 69 (.bool rv) E)
 (h:((n≥lo→rv=(decide (n≤hi)))∧(¬ (n≥lo)→rv=false))):G Try.prog E [.code (Qc Try.prog 69)] ⟨[.int .i64 n,.int .i64 lo,.int .i64 hi]++unds (Try.f69.ntmps - 3),[]⟩:=by
 rcases bft (decide (n≥lo)) with hc0 | hc0
 · have h:=h.1 (odt hc0)
   exact p69_start_0 n lo hi hE ⟨hc0,trivial⟩ (AvLe.of_eq (by rw [h]; try rfl))
 · have h:=h.2 (odf hc0)
   exact p69_start_1 n lo hi hE ⟨hc0,trivial⟩ (AvLe.of_eq (by rw [h]; try rfl))
def Qf (n lo hi:Int):Bool:=decide (n≥lo) && decide (n≤hi)
theorem QG (n lo hi:Int):Pure Try.prog 69 [.int .i64 n,.int .i64 lo,.int .i64 hi] (.bool (Qf n lo hi)):=QF Try.func69 f69b fun E hE=>by
 refine f69W n lo hi hE ⟨fun h=>by simp [Qf,h],fun h=>by simp only [Qf]; rw [decide_eq_false h]; rfl⟩
theorem QJ {n lo hi:Int}:Qf n lo hi=true ↔ lo≤n∧n≤hi:=by simp [Qf]
theorem within_not {n lo hi:Int}:Qf n lo hi=false ↔ ¬ (lo≤n∧n≤hi):=by rw [← QJ]; simp
theorem f198b:Try.f198.body=some (Qc Try.prog 198):=by kernel_rfl
theorem u198 {a c k:List AV} {r:AV} (h:Pure Try.prog 198 (a++c++k) r):Qe Try.prog (.clos 198 a k) c r:=Qr Try.func198 (by kernel_rfl) f198b h
def f198K0 (P:Program):List Item:=kAt 400 [.code (Qc P 198)] [.stop]
def f198S0 (a:Int) (b:Int) (a1:Int) (b1:Int):St:=⟨([.int .i64 a1,.int .i64 b1]++Js 11),[]⟩
def f198G0 (E:Env) (a:Int) (b:Int) (a1:Int) (b1:Int):Prop:=G Try.prog E (f198K0 Try.prog) (f198S0 a b a1 b1 )
theorem p198_start_0 (a:Int) (b:Int) {E:Env} {rv:AV} (hE:Qj Try.prog 198 rv E) (ho:AllP [])
 (hg:G Try.prog E (f198K0 Try.prog) ⟨([.int .i64 a,.int .i64 b]++Js 11),[]⟩):G Try.prog E [.code (Qc Try.prog 198)] ⟨[.int .i64 a,.int .i64 b]++unds (Try.f198.ntmps - 2),[]⟩ :=
 Qm (n:=400) (ds:=[]) (cs:=[]) (live:=[0,1]) (m:=0) (evs:=[.stop]) (obs:=_) hE.2.1 (hE.nogh _) Qy (by kernel_rfl) ho hg
theorem f198W (a:Int) (b:Int) {E:Env} {rv:Int} (hE:Qj Try.prog 198 (.int .i64 rv) E)
 (h:f198G0 E a b a b):G Try.prog E [.code (Qc Try.prog 198)] ⟨[.int .i64 a,.int .i64 b]++unds (Try.f198.ntmps - 2),[]⟩:=by
 exact p198_start_0 a b hE trivial h
theorem p198_0_0 (a:Int) (b:Int) (a1:Int) (b1:Int) {E:Env} {rv:AV} (hE:Qj Try.prog 198 rv E) (ho:AllP [(decide (b1 > 0))=true,b1 ≠ 0])
 (hg:G Try.prog E (f198K0 Try.prog) ⟨([.int .i64 b1,.int .i64 (Int.tmod a1 b1)]++Js 11),[]⟩):G Try.prog E (f198K0 Try.prog) (f198S0 a b a1 b1 ) :=
 Qm (n:=400) (ds:=[]) (cs:=[]) (live:=[0,1]) (m:=0) (evs:=[.b true,.stop]) (obs:=_) hE.2.1 (hE.nogh _) Qy (by kernel_rfl) ho hg
theorem p198_0_1 (a:Int) (b:Int) (a1:Int) (b1:Int) {E:Env} {res:AV} (hE:Qj Try.prog 198 res E) (ho:AllP [(decide (b1 > 0))=false])
 (hr:AvLe (.int .i64 (iMax a1 1)) res):G Try.prog E (f198K0 Try.prog) (f198S0 a b a1 b1 ) :=
 Qb (n:=400) (evs:=[.b false]) (obs:=_) hE Try.func198 Qy (by kernel_rfl) ho hr
theorem f198W0 (a:Int) (b:Int) (a1:Int) (b1:Int) {E:Env} {rv:Int} (hE:Qj Try.prog 198 (.int .i64 rv) E)
 (h:((b1 > 0→(b1 ≠ 0∧f198G0 E a b b1 (Int.tmod a1 b1)))∧(¬ (b1 > 0)→rv=(iMax a1 1)))):f198G0 E a b a1 b1:=by
 rcases bft (decide (b1 > 0)) with hc0 | hc0
 · have h:=h.1 (odt hc0)
   obtain ⟨q1_1,h⟩:=h
   exact p198_0_0 a b a1 b1 hE ⟨hc0,q1_1,trivial⟩ h
 · have h:=h.2 (odf hc0)
   exact p198_0_1 a b a1 b1 hE ⟨hc0,trivial⟩ (AvLe.of_eq (by rw [h]; try rfl))
theorem f197b:Try.f197.body=some (Qc Try.prog 197):=by kernel_rfl
theorem u197 {a c k:List AV} {r:AV} (h:Pure Try.prog 197 (a++c++k) r):Qe Try.prog (.clos 197 a k) c r:=Qr Try.func197 (by kernel_rfl) f197b h
theorem p197_start_0 (a:Int) (b:Int) {E:Env} {res:AV} (hE:Qj Try.prog 197 res E) (ho:AllP [InR .i64 (Int.tdiv 1000000000000 b),b ≠ 0,(decide (a > (Int.tdiv 1000000000000 b)))=true])
 (hr:AvLe (.tup [.int .i64 0,.bool false]) res):G Try.prog E [.code (Qc Try.prog 197)] ⟨[.int .i64 a,.int .i64 b]++unds (Try.f197.ntmps - 2),[]⟩ :=
 Qb (n:=400) (evs:=[.b true]) (obs:=_) hE Try.func197 Qy (by kernel_rfl) ho hr
theorem p197_start_1 (a:Int) (b:Int) {E:Env} {res:AV} (hE:Qj Try.prog 197 res E) (ho:AllP [InR .i64 (Int.tdiv 1000000000000 b),b ≠ 0,(decide (a > (Int.tdiv 1000000000000 b)))=false,InR .i64 (a*b)])
 (hr:AvLe (.tup [.int .i64 (a*b),.bool true]) res):G Try.prog E [.code (Qc Try.prog 197)] ⟨[.int .i64 a,.int .i64 b]++unds (Try.f197.ntmps - 2),[]⟩ :=
 Qb (n:=400) (evs:=[.b false]) (obs:=_) hE Try.func197 Qy (by kernel_rfl) ho hr
theorem f197W (a:Int) (b:Int) {E:Env} {rv:(Int × Bool)} (hE:Qj Try.prog 197 (.tup [.int .i64 rv.1,.bool rv.2]) E)
 (h:((I6 (Int.tdiv 1000000000000 b))∧(b ≠ 0∧((a > (Int.tdiv 1000000000000 b)→rv=(0,false))∧(¬ (a > (Int.tdiv 1000000000000 b))→((I6 (a*b))∧rv=((a*b),true))))))):G Try.prog E [.code (Qc Try.prog 197)] ⟨[.int .i64 a,.int .i64 b]++unds (Try.f197.ntmps - 2),[]⟩:=by
 obtain ⟨q0_0,h⟩:=h
 obtain ⟨q1_0,h⟩:=h
 rcases bft (decide (a > (Int.tdiv 1000000000000 b))) with hc0 | hc0
 · have h:=h.1 (odt hc0)
   exact p197_start_0 a b hE ⟨q0_0,q1_0,hc0,trivial⟩ (AvLe.of_eq (by rw [h]; try rfl))
 · have h:=h.2 (odf hc0)
   obtain ⟨q3_1,h⟩:=h
   exact p197_start_1 a b hE ⟨q0_0,q1_0,hc0,q3_1,trivial⟩ (AvLe.of_eq (by rw [h]; try rfl))
theorem f70b:Try.f70.body=some (Qc Try.prog 70):=by kernel_rfl
theorem u70 {a c k:List AV} {r:AV} (h:Pure Try.prog 70 (a++c++k) r):Qe Try.prog (.clos 70 a k) c r:=Qr Try.func70 (by kernel_rfl) f70b h
def f70K0 (P:Program):List Item:=kAt 400 [.code (Qc P 70)] [.stop]
def f70S0 (x:Stg) (sum:Int) (i:Nat):St:=⟨([J,J,.int .i64 sum,J,J,J,.rsl (Qs x.turns) 0 x.turns.length,.int .i64 (x.turns.length:Int),.int .i64 (i:Int)]++Js 9),[⟨true,0,1,true,[.int .i64 x.kind,.int .i64 x.prize,.rsl (Qs x.turns) 0 x.turns.length],false⟩]⟩
def f70G0 (E:Env) (x:Stg) (sum:Int) (i:Nat):Prop:=G Try.prog E (f70K0 Try.prog) (f70S0 x sum i )
theorem p70_start_0 (x:Stg) {E:Env} {rv:AV} (hE:Qj Try.prog 70 rv E) (ho:AllP [])
 (hg:G Try.prog E (f70K0 Try.prog) ⟨([J,J,.int .i64 0,J,J,J,.rsl (Qs x.turns) 0 x.turns.length,.int .i64 (x.turns.length:Int),.int .i64 0]++Js 9),[⟨true,0,1,true,[.int .i64 x.kind,.int .i64 x.prize,.rsl (Qs x.turns) 0 x.turns.length],false⟩]⟩):G Try.prog E [.code (Qc Try.prog 70)] ⟨[.agg [.int .i64 x.kind,.int .i64 x.prize,.rsl (Qs x.turns) 0 x.turns.length]]++unds (Try.f70.ntmps - 1),[]⟩ :=
 Qm (n:=400) (ds:=[]) (cs:=[]) (live:=[2,6,7,8]) (m:=1) (evs:=[.stop]) (obs:=_) hE.2.1 (hE.nogh _) Qy (by kernel_rfl) ho hg
theorem f70W (x:Stg) {E:Env} {rv:Int} (hE:Qj Try.prog 70 (.int .i64 rv) E)
 (h:f70G0 E x 0 0):G Try.prog E [.code (Qc Try.prog 70)] ⟨[.agg [.int .i64 x.kind,.int .i64 x.prize,.rsl (Qs x.turns) 0 x.turns.length]]++unds (Try.f70.ntmps - 1),[]⟩:=by
 exact p70_start_0 x hE trivial h
theorem p70_0_0 (x:Stg) (sum:Int) (i:Nat) (te:Trn) {E:Env} {rv:AV} (hE:Qj Try.prog 70 rv E) (ho:AllP [(decide ((i:Int)<(x.turns.length:Int)))=true,0≤(i:Int)∧(i:Int)<(x.turns.length:Int),((Qs x.turns).drop (0+(Int.toNat (i:Int))*2)).take 2=[.int .i64 te.w,.int .i64 te.to],2≤2,InR .i64 (sum+te.w),InR .i64 ((i:Int)+1)])
 (hg:G Try.prog E (f70K0 Try.prog) ⟨([J,J,.int .i64 (sum+te.w),J,J,J,.rsl (Qs x.turns) 0 x.turns.length,.int .i64 (x.turns.length:Int),.int .i64 ((i:Int)+1)]++Js 9),[⟨true,0,1,true,[.int .i64 x.kind,.int .i64 x.prize,.rsl (Qs x.turns) 0 x.turns.length],false⟩]⟩):G Try.prog E (f70K0 Try.prog) (f70S0 x sum i ) :=
 Qm (n:=400) (ds:=[]) (cs:=[]) (live:=[2,6,7,8]) (m:=1) (evs:=[.b true,.ld (.agg [.int .i64 te.w,.int .i64 te.to]),.stop]) (obs:=_) hE.2.1 (hE.nogh _) Qy (by kernel_rfl) ho hg
theorem p70_0_1 (x:Stg) (sum:Int) (i:Nat) {E:Env} {res:AV} (hE:Qj Try.prog 70 res E) (ho:AllP [(decide ((i:Int)<(x.turns.length:Int)))=false])
 (hr:AvLe (.int .i64 sum) res):G Try.prog E (f70K0 Try.prog) (f70S0 x sum i ) :=
 Qb (n:=400) (evs:=[.b false]) (obs:=_) hE Try.func70 Qy (by kernel_rfl) ho hr
theorem f70W0 (x:Stg) (sum:Int) (i:Nat) {E:Env} {rv:Int} (hE:Qj Try.prog 70 (.int .i64 rv) E)
 (h:(((i:Int)<(x.turns.length:Int)→(∃ te:Trn,x.turns[i]?=some te∧((I6 (sum+te.w))∧((I6 ((i:Int)+1))∧f70G0 E x (sum+te.w) (i+1)))))∧(¬ ((i:Int)<(x.turns.length:Int))→rv=sum))):f70G0 E x sum i:=by
 rcases bft (decide ((i:Int)<(x.turns.length:Int))) with hc0 | hc0
 · have h:=h.1 (odt hc0)
   obtain ⟨te,h1,h⟩:=h
   obtain ⟨q5_1,h⟩:=h
   obtain ⟨q6_1,h⟩:=h
   exact p70_0_0 x sum i te hE ⟨hc0,(Qz h1),(rp cTrn 2 0 2 h1),(by decide),q5_1,q6_1,trivial⟩ h
 · have h:=h.2 (odf hc0)
   exact p70_0_1 x sum i hE ⟨hc0,trivial⟩ (AvLe.of_eq (by rw [h]; try rfl))
theorem f133b:Try.f133.body=some (Qc Try.prog 133):=by kernel_rfl
theorem u133 {a c k:List AV} {r:AV} (h:Pure Try.prog 133 (a++c++k) r):Qe Try.prog (.clos 133 a k) c r:=Qr Try.func133 (by kernel_rfl) f133b h
theorem p133_start_0 (n:Int) {E:Env} {res:AV} (hE:Qj Try.prog 133 res E) (ho:AllP [Qe Try.prog (.clos 69 [] []) [.int .i64 n,.int .i64 0,.int .i64 10000] (.bool (Qf n 0 10000))])
 (hr:AvLe (.bool (!(Qf n 0 10000))) res):G Try.prog E [.code (Qc Try.prog 133)] ⟨[.int .i64 n]++unds (Try.f133.ntmps - 1),[]⟩ :=
 Qb (n:=400) (evs:=[.v (.bool (Qf n 0 10000))]) (obs:=_) hE Try.func133 Qy (by kernel_rfl) ho hr
theorem f133W (n:Int) {E:Env} {rv:Bool} (hE:Qj Try.prog 133 (.bool rv) E)
 (h:rv=(!(Qf n 0 10000))):G Try.prog E [.code (Qc Try.prog 133)] ⟨[.int .i64 n]++unds (Try.f133.ntmps - 1),[]⟩:=by
 exact p133_start_0 n hE ⟨(u69 (QG n 0 10000)),trivial⟩ (AvLe.of_eq (by rw [h]; try rfl))
theorem f196b:Try.f196.body=some (Qc Try.prog 196):=by kernel_rfl
theorem u196 {a c k:List AV} {r:AV} (h:Pure Try.prog 196 (a++c++k) r):Qe Try.prog (.clos 196 a k) c r:=Qr Try.func196 (by kernel_rfl) f196b h
theorem p196_start_0 (t:Trn) (lo hi i:Int) (s:Stl) {E:Env} {res:AV} (hE:Qj Try.prog 196 res E) (ho:AllP [Qe Try.prog (.clos 69 [] []) [.int .i64 t.w,.int .i64 lo,.int .i64 hi] (.bool (Qf t.w lo hi)),(!(Qf t.w lo hi))=true])
 (hr:AvLe (.bool true) res):G Try.prog E [.code (Qc Try.prog 196)] ⟨[.agg [.int .i64 t.w,.int .i64 t.to],.rptr [.int .i64 lo] 0,.rptr [.int .i64 hi] 0,.rptr [.int .i64 i] 0,.rptr [.rsl (Qg s.stages) 0 s.stages.length,.rsl (rowI s.worth) 0 s.worth.length,.int .i64 s.price] 0]++unds (Try.f196.ntmps - 5),[]⟩ :=
 Qb (n:=400) (evs:=[.v (.bool (Qf t.w lo hi)),.b true]) (obs:=_) hE Try.func196 Qy (by kernel_rfl) ho hr
theorem p196_start_1 (t:Trn) (lo hi i:Int) (s:Stl) {E:Env} {res:AV} (hE:Qj Try.prog 196 res E) (ho:AllP [Qe Try.prog (.clos 69 [] []) [.int .i64 t.w,.int .i64 lo,.int .i64 hi] (.bool (Qf t.w lo hi)),(!(Qf t.w lo hi))=false,InR .i64 (i+1),InR .i64 ((s.stages.length:Int) - 1),Qe Try.prog (.clos 69 [] []) [.int .i64 t.to,.int .i64 (i+1),.int .i64 ((s.stages.length:Int) - 1)] (.bool (Qf t.to (i+1) ((s.stages.length:Int) - 1)))])
 (hr:AvLe (.bool (!(Qf t.to (i+1) ((s.stages.length:Int) - 1)))) res):G Try.prog E [.code (Qc Try.prog 196)] ⟨[.agg [.int .i64 t.w,.int .i64 t.to],.rptr [.int .i64 lo] 0,.rptr [.int .i64 hi] 0,.rptr [.int .i64 i] 0,.rptr [.rsl (Qg s.stages) 0 s.stages.length,.rsl (rowI s.worth) 0 s.worth.length,.int .i64 s.price] 0]++unds (Try.f196.ntmps - 5),[]⟩ :=
 Qb (n:=400) (evs:=[.v (.bool (Qf t.w lo hi)),.b false,.v (.bool (Qf t.to (i+1) ((s.stages.length:Int) - 1)))]) (obs:=_) hE Try.func196 Qy (by kernel_rfl) ho hr
theorem f196W (t:Trn) (lo hi i:Int) (s:Stl) {E:Env} {rv:Bool} (hE:Qj Try.prog 196 (.bool rv) E)
 (h:(((Qf t.w lo hi)=false→rv=true)∧((Qf t.w lo hi)=true→((I6 (i+1))∧((I6 ((s.stages.length:Int) - 1))∧rv=(!(Qf t.to (i+1) ((s.stages.length:Int) - 1)))))))):G Try.prog E [.code (Qc Try.prog 196)] ⟨[.agg [.int .i64 t.w,.int .i64 t.to],.rptr [.int .i64 lo] 0,.rptr [.int .i64 hi] 0,.rptr [.int .i64 i] 0,.rptr [.rsl (Qg s.stages) 0 s.stages.length,.rsl (rowI s.worth) 0 s.worth.length,.int .i64 s.price] 0]++unds (Try.f196.ntmps - 5),[]⟩:=by
 rcases bft (!(Qf t.w lo hi)) with hc0 | hc0
 · have h:=h.1 (bnT hc0)
   exact p196_start_0 t lo hi i s hE ⟨(u69 (QG t.w lo hi)),hc0,trivial⟩ (AvLe.of_eq (by rw [h]; try rfl))
 · have h:=h.2 (bnF hc0)
   obtain ⟨q2_1,h⟩:=h
   obtain ⟨q3_1,h⟩:=h
   exact p196_start_1 t lo hi i s hE ⟨(u69 (QG t.w lo hi)),hc0,q2_1,q3_1,(u69 (QG t.to (i+1) ((s.stages.length:Int) - 1))),trivial⟩ (AvLe.of_eq (by rw [h]; try rfl))
/-- The greatest common divisor,as it is looked for. -/
def gcdF:Nat→Int→Int→Int
 | 0,a,_=>a
 | n+1,a,b=>if b > 0 then gcdF n b (Int.tmod a b) else a
def gcdI (a b:Int):Int:=gcdF (Int.toNat b+1) a b
theorem gcdF_eq:∀ {n m:Nat} {a b:Int},0≤a→0≤b→b<n→b<m→gcdF n a b=gcdF m a b
 | 0,m,a,b,_,hb,h,_=>by omega
 | n+1,0,a,b,_,hb,_,h=>by omega
 | n+1,m+1,a,b,ha,hb,h1,h2=>by
  simp only [gcdF]
  split
  · rename_i h0
    have t0:=Int.tmod_nonneg b ha
    have t1:=Int.tmod_lt_of_pos a h0
    exact gcdF_eq hb t0 (by omega) (by omega)
  · rfl
theorem gcd_step {a b:Int} (ha:0≤a) (hb:b > 0):gcdI a b=gcdI b (Int.tmod a b):=by
 have t0:=Int.tmod_nonneg b ha
 have t1:=Int.tmod_lt_of_pos a hb
 rw [gcdI,gcdF,if_pos hb,gcdI]
 exact gcdF_eq (by omega) t0 (by omega) (by omega)
theorem gcd_nonneg {a b:Int} (ha:0≤a) (hb:0≤b):0≤gcdI a b:=by
 have:∀ (n:Nat) (a b:Int),0≤a→0≤b→0≤gcdF n a b:=by
  intro n
  induction n with
  | zero=>intro a b ha _; exact ha
  | succ n ih =>
   intro a b ha hb
   simp only [gcdF]
   split
   · exact ih _ _ hb (Int.tmod_nonneg b ha)
   · exact ha
 exact this _ _ _ ha hb
theorem qu (a b:Int) (h:0≤a∧0≤b):Pure Try.prog 198 [.int .i64 a,.int .i64 b] (.int .i64 (iMax (gcdI a b) 1)):=QF Try.func198 f198b fun E hE=>by
 have key:∀ (d:Nat) (x y:Int),0≤x→0≤y→y≤d→gcdI a b=gcdI x y→f198G0 E a b x y:=by
  intro d
  induction d with
  | zero =>
   intro x y hx hy hd h
   refine f198W0 a b x y (rv:=iMax (gcdI a b) 1) hE ⟨fun h=>by omega,fun h0=>?_⟩
   rw [h,gcdI,gcdF,if_neg h0]
  | succ d ih =>
   intro x y hx hy hd h
   refine f198W0 a b x y (rv:=iMax (gcdI a b) 1) hE ⟨fun h0=>⟨by omega,ih _ _ hy (Int.tmod_nonneg y hx) ?_ (by rw [h,gcd_step hx h0])⟩,fun h0=>?_⟩
   · have:=Int.tmod_lt_of_pos x h0; omega
   · rw [h,gcdI,gcdF,if_neg h0]
 exact f198W a b (rv:=iMax (gcdI a b) 1) hE (key (Int.toNat b) a b h.1 h.2 (by omega) rfl)
def Xi (a b:Int):Int × Bool:=if a > Int.tdiv 1000000000000 b then (0,false) else (a*b,true)
theorem prod_of {a b:Int} (ha:0≤a) (hb:0<b):(Xi a b=(0,false)∧a*b > 1000000000000) ∨ (Xi a b=(a*b,true)∧a*b≤1000000000000):=by
 have e:Int.tdiv 1000000000000 b=1000000000000 / b:=Int.tdiv_eq_ediv_of_nonneg (by omega)
 rw [Xi,e]
 have:a*b≤1000000000000 ↔ a≤1000000000000 / b:=(Int.le_ediv_iff_mul_le hb).symm
 split
 · left; exact ⟨rfl,by omega⟩
 · right; exact ⟨rfl,by omega⟩
theorem Vw (a b:Int) (h:0≤a∧0<b):Pure Try.prog 197 [.int .i64 a,.int .i64 b] (.tup [.int .i64 (Xi a b).1,.bool (Xi a b).2]):=QF Try.func197 f197b fun E hE=>by
 have e:Int.tdiv 1000000000000 b=1000000000000 / b:=Int.tdiv_eq_ediv_of_nonneg (by omega)
 have e1:=Int.ediv_le_self b (show (0:Int)≤1000000000000 by omega)
 have e2:=Int.ediv_nonneg (show (0:Int)≤1000000000000 by omega) (show 0≤b by omega)
 have iff:a*b≤1000000000000 ↔ a≤1000000000000 / b:=(Int.le_ediv_iff_mul_le h.2).symm
 have n0:=Int.mul_nonneg h.1 (show 0≤b by omega)
 refine f197W a b (rv:=Xi a b) hE ⟨by omega,by omega,fun h1=>by rw [Xi,if_pos h1],fun h1=>⟨by omega,by rw [Xi,if_neg h1]⟩⟩
def totI (x:Stg):Int:=(x.turns.map (·.w)).sum
def TotOk (x:Stg):Prop:=x.turns.length≤1000∧∀ t ∈ x.turns,0≤t.w∧t.w≤1000000
theorem tot_bd:∀ {l:List Trn} {B:Int},(∀ t ∈ l,0≤t.w∧t.w≤B)→0≤(l.map (·.w)).sum∧(l.map (·.w)).sum≤B*(l.length:Int)
 | [],B,_=>by simp
 | t :: l,B,h=>by
  have h1:=h t (by simp)
  have h2:=tot_bd (l:=l) (B:=B) fun x hx=>h x (by simp [hx])
  simp only [List.map_cons,List.sum_cons,List.length_cons,Int.natCast_add,Int.mul_add]
  omega
theorem qC (x:Stg) (h:TotOk x):Pure Try.prog 70 [.agg [.int .i64 x.kind,.int .i64 x.prize,.rsl (Qs x.turns) 0 x.turns.length]] (.int .i64 (totI x)):=QF Try.func70 f70b fun E hE=>by
 have key:∀ (d i:Nat) (s:Int),i+d=x.turns.length→s=((x.turns.take i).map (·.w)).sum→f70G0 E x s i:=by
  intro d
  induction d with
  | zero =>
   intro i s hd hs
   refine f70W0 x s i (rv:=totI x) hE ⟨fun h=>by omega,fun _=>?_⟩
   rw [totI,hs,List.take_of_length_le (by omega)]
  | succ d ih =>
   intro i s hd hs
   have hi:x.turns[i]?=some x.turns[i]:=List.getElem?_eq_getElem (by omega)
   have b1:=h.2 _ (List.mem_of_getElem? hi)
   have b2:=tot_bd (l:=x.turns.take i) (B:=1000000) fun t ht=>h.2 t (List.mem_of_mem_take ht)
   have b3:((x.turns.take i).length:Int)≤1000:=by rw [List.length_take]; have:=h.1; omega
   have:=h.1
   refine f70W0 x s i (rv:=totI x) hE ⟨fun _=>⟨_,hi,by omega,by omega,ih (i+1) _ (by omega) ?_⟩,fun h=>by omega⟩
   rw [List.take_add_one,hi,List.map_append,List.sum_append,hs]; simp
 exact f70W x (rv:=totI x) hE (key x.turns.length 0 0 (by omega) (by simp))
theorem bad_ok (n:Int):Pure Try.prog 133 [.int .i64 n] (.bool (!Qf n 0 10000)):=QF Try.func133 f133b fun E hE=>f133W n hE rfl
/-- Whether a turn of the stage 'i' is right; 'n' is how many stages there are. -/
def Xo (lo hi i:Int) (n:Nat) (t:Trn):Bool:=Qf t.w lo hi && Qf t.to (i+1) ((n:Int) - 1)
theorem qn (t:Trn) (lo hi i:Int) (s:Stl) (h:(0≤i∧i≤1000000)∧s.stages.length≤1000000):Pure Try.prog 196 [.agg [.int .i64 t.w,.int .i64 t.to],.rptr [.int .i64 lo] 0,.rptr [.int .i64 hi] 0,.rptr [.int .i64 i] 0,.rptr [.rsl (Qg s.stages) 0 s.stages.length,.rsl (rowI s.worth) 0 s.worth.length,.int .i64 s.price] 0] (.bool (!Xo lo hi i s.stages.length t)):=QF Try.func196 f196b fun E hE =>
 f196W t lo hi i s (rv:=!Xo lo hi i s.stages.length t) hE ⟨fun h1=>by simp [Xo,h1],fun h1=>⟨by omega,by omega,by simp [Xo,h1]⟩⟩
def qE (s:Stl) (i:Nat) (x:Stg):Bool :=
 if x.kind=4 then decide (x.turns.length=0) && Qf x.prize (-1) ((s.worth.length:Int) - 1)
 else Qf x.kind 1 3 && (decide (x.prize=0) && (Qf x.turns.length 1 8 && x.turns.all (Xo (if x.kind=1 then 1 else 0) (if x.kind=1 then 100 else 0) i s.stages.length)))
def XC (s:Stl) (i:Nat):Bool:=match s.stages[i]? with
 | some x=>qE s i x
 | none=>false
end Go.Proofs.Ytemklbioijmjiaa
namespace Go.Proofs.Ytemklbioijmjiaa
open Go Ax
open Go.Proofs
theorem f243b:Try.f243.body=some (Qc Try.prog 243):=by kernel_rfl
theorem u243 {a c k:List AV} {r:AV} (h:Pure Try.prog 243 (a++c++k) r):Qe Try.prog (.clos 243 a k) c r:=Qr Try.func243 (by kernel_rfl) f243b h
def qr (P:Program):List Item:=kAt 400 [.code (Qc P 243)] [.stop]
def f243S0 (l:(List Trn)) (lo hi p:Int) (s:Stl) (i:Nat):St:=⟨([.rsl (Qs l) 0 l.length,.clos 196 [] [.rptr [.int .i64 lo] 0,.rptr [.int .i64 hi] 0,.rptr [.int .i64 p] 0,.rptr [.rsl (Qg s.stages) 0 s.stages.length,.rsl (rowI s.worth) 0 s.worth.length,.int .i64 s.price] 0]]++jj 5 ([.int .i64 (l.length:Int),.int .i64 (i:Int)]++Js 10)),[]⟩
def f243G0 (E:Env) (l:(List Trn)) (lo hi p:Int) (s:Stl) (i:Nat):Prop:=G Try.prog E (qr Try.prog) (f243S0 l lo hi p s i )
theorem p243_start_0 (l:(List Trn)) (lo hi p:Int) (s:Stl) {E:Env} {rv:AV} (hE:Qj Try.prog 243 rv E) (ho:AllP [])
 (hg:G Try.prog E (qr Try.prog) ⟨([.rsl (Qs l) 0 l.length,.clos 196 [] [.rptr [.int .i64 lo] 0,.rptr [.int .i64 hi] 0,.rptr [.int .i64 p] 0,.rptr [.rsl (Qg s.stages) 0 s.stages.length,.rsl (rowI s.worth) 0 s.worth.length,.int .i64 s.price] 0]]++jj 5 ([.int .i64 (l.length:Int),.int .i64 0]++Js 10)),[]⟩):G Try.prog E [.code (Qc Try.prog 243)] ⟨[.rsl (Qs l) 0 l.length,.clos 196 [] [.rptr [.int .i64 lo] 0,.rptr [.int .i64 hi] 0,.rptr [.int .i64 p] 0,.rptr [.rsl (Qg s.stages) 0 s.stages.length,.rsl (rowI s.worth) 0 s.worth.length,.int .i64 s.price] 0]]++unds (Try.f243.ntmps - 2),[]⟩ :=
 Qm (n:=400) (ds:=[]) (cs:=[]) (live:=[0,1,7,8]) (m:=0) (evs:=[.stop]) (obs:=_) hE.2.1 (hE.nogh _) Qy (by kernel_rfl) ho hg
theorem f243W (l:(List Trn)) (lo hi p:Int) (s:Stl) {E:Env} {rv:Int} (hE:Qj Try.prog 243 (.int .i64 rv) E)
 (h:f243G0 E l lo hi p s 0):G Try.prog E [.code (Qc Try.prog 243)] ⟨[.rsl (Qs l) 0 l.length,.clos 196 [] [.rptr [.int .i64 lo] 0,.rptr [.int .i64 hi] 0,.rptr [.int .i64 p] 0,.rptr [.rsl (Qg s.stages) 0 s.stages.length,.rsl (rowI s.worth) 0 s.worth.length,.int .i64 s.price] 0]]++unds (Try.f243.ntmps - 2),[]⟩:=by
 exact p243_start_0 l lo hi p s hE trivial h
theorem p243_0_0 (l:(List Trn)) (lo hi p:Int) (s:Stl) (i:Nat) (te:Trn) {E:Env} {res:AV} (hE:Qj Try.prog 243 res E) (ho:AllP [(decide ((i:Int)<(l.length:Int)))=true,0≤(i:Int)∧(i:Int)<(l.length:Int),((Qs l).drop (0+(Int.toNat (i:Int))*2)).take 2=[.int .i64 te.w,.int .i64 te.to],Qe Try.prog (.clos 196 [] [.rptr [.int .i64 lo] 0,.rptr [.int .i64 hi] 0,.rptr [.int .i64 p] 0,.rptr [.rsl (Qg s.stages) 0 s.stages.length,.rsl (rowI s.worth) 0 s.worth.length,.int .i64 s.price] 0]) [.agg [.int .i64 te.w,.int .i64 te.to]] (.bool (!Xo lo hi p s.stages.length te)),(!Xo lo hi p s.stages.length te)=true])
 (hr:AvLe (.int .i64 (i:Int)) res):G Try.prog E (qr Try.prog) (f243S0 l lo hi p s i ) :=
 Qb (n:=400) (evs:=[.b true,.ld (.agg [.int .i64 te.w,.int .i64 te.to]),.v (.bool (!Xo lo hi p s.stages.length te)),.b true]) (obs:=_) hE Try.func243 Qy (by kernel_rfl) ho hr
theorem p243_0_1 (l:(List Trn)) (lo hi p:Int) (s:Stl) (i:Nat) (te:Trn) {E:Env} {rv:AV} (hE:Qj Try.prog 243 rv E) (ho:AllP [(decide ((i:Int)<(l.length:Int)))=true,0≤(i:Int)∧(i:Int)<(l.length:Int),((Qs l).drop (0+(Int.toNat (i:Int))*2)).take 2=[.int .i64 te.w,.int .i64 te.to],Qe Try.prog (.clos 196 [] [.rptr [.int .i64 lo] 0,.rptr [.int .i64 hi] 0,.rptr [.int .i64 p] 0,.rptr [.rsl (Qg s.stages) 0 s.stages.length,.rsl (rowI s.worth) 0 s.worth.length,.int .i64 s.price] 0]) [.agg [.int .i64 te.w,.int .i64 te.to]] (.bool (!Xo lo hi p s.stages.length te)),(!Xo lo hi p s.stages.length te)=false,InR .i64 ((i:Int)+1)])
 (hg:G Try.prog E (qr Try.prog) ⟨([.rsl (Qs l) 0 l.length,.clos 196 [] [.rptr [.int .i64 lo] 0,.rptr [.int .i64 hi] 0,.rptr [.int .i64 p] 0,.rptr [.rsl (Qg s.stages) 0 s.stages.length,.rsl (rowI s.worth) 0 s.worth.length,.int .i64 s.price] 0]]++jj 5 ([.int .i64 (l.length:Int),.int .i64 ((i:Int)+1)]++Js 10)),[]⟩):G Try.prog E (qr Try.prog) (f243S0 l lo hi p s i ) :=
 Qm (n:=400) (ds:=[]) (cs:=[]) (live:=[0,1,7,8]) (m:=0) (evs:=[.b true,.ld (.agg [.int .i64 te.w,.int .i64 te.to]),.v (.bool (!Xo lo hi p s.stages.length te)),.b false,.stop]) (obs:=_) hE.2.1 (hE.nogh _) Qy (by kernel_rfl) ho hg
theorem p243_0_2 (l:(List Trn)) (lo hi p:Int) (s:Stl) (i:Nat) {E:Env} {res:AV} (hE:Qj Try.prog 243 res E) (ho:AllP [(decide ((i:Int)<(l.length:Int)))=false])
 (hr:AvLe (.int .i64 (-1)) res):G Try.prog E (qr Try.prog) (f243S0 l lo hi p s i ) :=
 Qb (n:=400) (evs:=[.b false]) (obs:=_) hE Try.func243 Qy (by kernel_rfl) ho hr
theorem f243W0 (l:(List Trn)) (lo hi p:Int) (s:Stl) (i:Nat) {E:Env} {rv:Int} (hE:Qj Try.prog 243 (.int .i64 rv) E)
 (h:(((i:Int)<(l.length:Int)→(∃ te:Trn,l[i]?=some te∧(((0≤p∧p≤1000000)∧s.stages.length≤1000000)∧(((!Xo lo hi p s.stages.length te)=true→rv=(i:Int))∧((!Xo lo hi p s.stages.length te)=false→((I6 ((i:Int)+1))∧f243G0 E l lo hi p s (i+1)))))))∧(¬ ((i:Int)<(l.length:Int))→rv=(-1)))):f243G0 E l lo hi p s i:=by
 rcases bft (decide ((i:Int)<(l.length:Int))) with hc0 | hc0
 · have h:=h.1 (odt hc0)
   obtain ⟨te,h1,h⟩:=h
   obtain ⟨h2,h⟩:=h
   rcases bft (!Xo lo hi p s.stages.length te) with hc1 | hc1
   · have h:=h.1 hc1
     exact p243_0_0 l lo hi p s i te hE ⟨hc0,(Qz h1),(rp cTrn 2 0 2 h1),(u196 (qn te lo hi p s h2)),hc1,trivial⟩ (AvLe.of_eq (by rw [h]; try rfl))
   · have h:=h.2 hc1
     obtain ⟨q6_2,h⟩:=h
     exact p243_0_1 l lo hi p s i te hE ⟨hc0,(Qz h1),(rp cTrn 2 0 2 h1),(u196 (qn te lo hi p s h2)),hc1,q6_2,trivial⟩ h
 · have h:=h.2 (odf hc0)
   exact p243_0_2 l lo hi p s i hE ⟨hc0,trivial⟩ (AvLe.of_eq (by rw [h]; try rfl))
def Yv {α:Type} (p:α→Bool) (l:List α):Int:=match l.findIdx? p with
 | some i=>(i:Int)
 | none=>-1
theorem qm {α:Type} (p:α→Bool) (l:List α):∀ (d i:Nat),i+d=l.length→(∀ j x,j<i→l[j]?=some x→p x=false)→∀ (Q:Nat→Prop),(∀ i,i<l.length→(∀ x,l[i]?=some x→(p x=true→Yv p l=i))→(∀ x,l[i]?=some x→p x=false→Q (i+1))→Q i) →
 ((∀ x ∈ l,p x=false)→Yv p l=-1→Q l.length)→Q i:=by
 intro d
 induction d with
 | zero =>
  intro i hi hp Q h1 h2
  have:i=l.length:=by omega
  subst this
  have hall:∀ x ∈ l,p x=false:=fun x hx=>by
   obtain ⟨j,hj⟩:=List.getElem?_of_mem hx
   exact hp j x (List.getElem?_eq_some_iff.1 hj).1 hj
  exact h2 hall (by simp only [Yv]; rw [List.findIdx?_eq_none_iff.2 hall])
 | succ d ih =>
  intro i hi hp Q h1 h2
  refine h1 i (by omega) (fun x hx hpx=>?_) (fun x hx hpx=>ih (i+1) (by omega) (fun j y hj hy=>?_) Q h1 h2)
  · have:l.findIdx? p=some i:=by
     rw [List.findIdx?_eq_some_iff_getElem]
     have hlt:=(List.getElem?_eq_some_iff.1 hx).1
     have he:=(List.getElem?_eq_some_iff.1 hx).2
     refine ⟨hlt,by rw [he]; exact hpx,fun j hj=>?_⟩
     have:=hp j _ hj (List.getElem?_eq_getElem (by omega))
     simp [this]
    simp only [Yv,this]
  · rcases Nat.lt_or_ge j i with h | h
    · exact hp j y h hy
    · have:j=i:=by omega
      subst this
      rw [hx] at hy; cases hy; exact hpx
theorem idxG_anyS {α:Type} (p:α→Bool) (l:List α):decide (Yv p l≥0)=l.any p:=by
 cases h:l.findIdx? p with
 | none =>
  have e:Yv p l=-1:=by simp only [Yv,h]
  rw [e]
  rw [List.findIdx?_eq_none_iff] at h
  rw [show l.any p=false from by simpa using fun x hx=>by simpa using h x hx]; rfl
 | some i =>
  have e:Yv p l=(i:Int):=by simp only [Yv,h]
  rw [e]
  have:=List.findIdx?_eq_some_iff_getElem.1 h
  obtain ⟨h1,h2,-⟩:=this
  have:l.any p=true:=by rw [List.any_eq_true]; exact ⟨l[i],List.getElem_mem _,h2⟩
  rw [this]; simp
theorem idxT_ok (l:List Trn) (lo hi p:Int) (s:Stl) (h:((0≤p∧p≤1000000)∧s.stages.length≤1000000)∧l.length≤9223372036854775807) :
 Pure Try.prog 243 [.rsl (Qs l) 0 l.length,.clos 196 [] [.rptr [.int .i64 lo] 0,.rptr [.int .i64 hi] 0,.rptr [.int .i64 p] 0,.rptr [.rsl (Qg s.stages) 0 s.stages.length,.rsl (rowI s.worth) 0 s.worth.length,.int .i64 s.price] 0]] (.int .i64 (Yv (fun t=>!Xo lo hi p s.stages.length t) l)):=QF Try.func243 f243b fun E hE=>by
 refine f243W l lo hi p s hE (qm (fun t=>!Xo lo hi p s.stages.length t) l l.length 0 (by omega) (fun j x hj=>by omega) (fun i=>f243G0 E l lo hi p s i) (fun i hi' h1 h2=>?_) (fun _ h2=>?_))
 · have hx:l[i]?=some l[i]:=List.getElem?_eq_getElem hi'
   exact f243W0 l lo hi p s i hE ⟨fun _=>⟨_,hx,h.1,fun hp=>h1 _ hx hp,fun hp=>⟨by omega,h2 _ hx hp⟩⟩,fun h=>by omega⟩
 · exact f243W0 l lo hi p s _ hE ⟨fun h=>by omega,fun _=>h2⟩
theorem f195b:Try.f195.body=some (Qc Try.prog 195):=by kernel_rfl
theorem u195 {a c k:List AV} {r:AV} (h:Pure Try.prog 195 (a++c++k) r):Qe Try.prog (.clos 195 a k) c r:=Qr Try.func195 (by kernel_rfl) f195b h
theorem p195_start_0 (l:(List Trn)) (lo hi p:Int) (s:Stl) {E:Env} {res:AV} (hE:Qj Try.prog 195 res E) (ho:AllP [Qe Try.prog (.clos 243 [] []) [.rsl (Qs l) 0 l.length,.clos 196 [] [.rptr [.int .i64 lo] 0,.rptr [.int .i64 hi] 0,.rptr [.int .i64 p] 0,.rptr [.rsl (Qg s.stages) 0 s.stages.length,.rsl (rowI s.worth) 0 s.worth.length,.int .i64 s.price] 0]] (.int .i64 (Yv (fun t=>!Xo lo hi p s.stages.length t) l))])
 (hr:AvLe (.bool (decide ((Yv (fun t=>!Xo lo hi p s.stages.length t) l)≥0))) res):G Try.prog E [.code (Qc Try.prog 195)] ⟨[.rsl (Qs l) 0 l.length,.clos 196 [] [.rptr [.int .i64 lo] 0,.rptr [.int .i64 hi] 0,.rptr [.int .i64 p] 0,.rptr [.rsl (Qg s.stages) 0 s.stages.length,.rsl (rowI s.worth) 0 s.worth.length,.int .i64 s.price] 0]]++unds (Try.f195.ntmps - 2),[]⟩ :=
 Qb (n:=400) (evs:=[.v (.int .i64 (Yv (fun t=>!Xo lo hi p s.stages.length t) l))]) (obs:=_) hE Try.func195 Qy (by kernel_rfl) ho hr
theorem f195W (l:(List Trn)) (lo hi p:Int) (s:Stl) {E:Env} {rv:Bool} (hE:Qj Try.prog 195 (.bool rv) E)
 (h:((((0≤p∧p≤1000000)∧s.stages.length≤1000000)∧l.length≤9223372036854775807)∧rv=(decide ((Yv (fun t=>!Xo lo hi p s.stages.length t) l)≥0)))):G Try.prog E [.code (Qc Try.prog 195)] ⟨[.rsl (Qs l) 0 l.length,.clos 196 [] [.rptr [.int .i64 lo] 0,.rptr [.int .i64 hi] 0,.rptr [.int .i64 p] 0,.rptr [.rsl (Qg s.stages) 0 s.stages.length,.rsl (rowI s.worth) 0 s.worth.length,.int .i64 s.price] 0]]++unds (Try.f195.ntmps - 2),[]⟩:=by
 obtain ⟨h1,h⟩:=h
 exact p195_start_0 l lo hi p s hE ⟨(u243 (idxT_ok l lo hi p s h1)),trivial⟩ (AvLe.of_eq (by rw [h]; try rfl))
theorem anyT_ok (l:List Trn) (lo hi p:Int) (s:Stl) (h:((0≤p∧p≤1000000)∧s.stages.length≤1000000)∧l.length≤9223372036854775807) :
 Pure Try.prog 195 [.rsl (Qs l) 0 l.length,.clos 196 [] [.rptr [.int .i64 lo] 0,.rptr [.int .i64 hi] 0,.rptr [.int .i64 p] 0,.rptr [.rsl (Qg s.stages) 0 s.stages.length,.rsl (rowI s.worth) 0 s.worth.length,.int .i64 s.price] 0]] (.bool (l.any fun t=>!Xo lo hi p s.stages.length t)):=QF Try.func195 f195b fun E hE =>
 f195W l lo hi p s hE ⟨h,(idxG_anyS _ _).symm⟩
theorem f134b:Try.f134.body=some (Qc Try.prog 134):=by kernel_rfl
theorem u134 {a c k:List AV} {r:AV} (h:Pure Try.prog 134 (a++c++k) r):Qe Try.prog (.clos 134 a k) c r:=Qr Try.func134 (by kernel_rfl) f134b h
theorem p134_start_0 (s:Stl) (i:Int) (se:Stg) {E:Env} {res:AV} (hE:Qj Try.prog 134 res E) (ho:AllP [0≤i∧i<(s.stages.length:Int),((Qg s.stages).drop (0+(Int.toNat i)*3)).take 3=[.int .i64 se.kind,.int .i64 se.prize,.rsl (Qs se.turns) 0 se.turns.length],3≤3,1≤1,1≤1,(se.kind == 4)=true,((se.turns.length:Int) == 0)=true,InR .i64 ((s.worth.length:Int) - 1),Qe Try.prog (.clos 69 [] []) [.int .i64 se.prize,.int .i64 (-1),.int .i64 ((s.worth.length:Int) - 1)] (.bool (Qf se.prize (-1) ((s.worth.length:Int) - 1)))])
 (hr:AvLe (.bool (Qf se.prize (-1) ((s.worth.length:Int) - 1))) res):G Try.prog E [.code (Qc Try.prog 134)] ⟨[.agg [.rsl (Qg s.stages) 0 s.stages.length,.rsl (rowI s.worth) 0 s.worth.length,.int .i64 s.price],.int .i64 i]++unds (Try.f134.ntmps - 2),[]⟩ :=
 Qb (n:=400) (evs:=[.auto,.auto,.ld (.agg [.int .i64 se.kind,.int .i64 se.prize,.rsl (Qs se.turns) 0 se.turns.length]),.b true,.b true,.v (.bool (Qf se.prize (-1) ((s.worth.length:Int) - 1)))]) (obs:=_) hE Try.func134 Qy (by kernel_rfl) ho hr
theorem p134_start_1 (s:Stl) (i:Int) (se:Stg) {E:Env} {res:AV} (hE:Qj Try.prog 134 res E) (ho:AllP [0≤i∧i<(s.stages.length:Int),((Qg s.stages).drop (0+(Int.toNat i)*3)).take 3=[.int .i64 se.kind,.int .i64 se.prize,.rsl (Qs se.turns) 0 se.turns.length],3≤3,1≤1,1≤1,(se.kind == 4)=true,((se.turns.length:Int) == 0)=false])
 (hr:AvLe (.bool false) res):G Try.prog E [.code (Qc Try.prog 134)] ⟨[.agg [.rsl (Qg s.stages) 0 s.stages.length,.rsl (rowI s.worth) 0 s.worth.length,.int .i64 s.price],.int .i64 i]++unds (Try.f134.ntmps - 2),[]⟩ :=
 Qb (n:=400) (evs:=[.auto,.auto,.ld (.agg [.int .i64 se.kind,.int .i64 se.prize,.rsl (Qs se.turns) 0 se.turns.length]),.b true,.b false]) (obs:=_) hE Try.func134 Qy (by kernel_rfl) ho hr
theorem p134_start_2 (s:Stl) (i:Int) (se:Stg) {E:Env} {res:AV} (hE:Qj Try.prog 134 res E) (ho:AllP [0≤i∧i<(s.stages.length:Int),((Qg s.stages).drop (0+(Int.toNat i)*3)).take 3=[.int .i64 se.kind,.int .i64 se.prize,.rsl (Qs se.turns) 0 se.turns.length],3≤3,1≤1,1≤1,(se.kind == 4)=false,(se.kind == 1)=true,1≤1,1≤1,(se.prize == 0)=true,Qe Try.prog (.clos 69 [] []) [.int .i64 (se.turns.length:Int),.int .i64 1,.int .i64 8] (.bool (Qf (se.turns.length:Int) 1 8)),(Qf (se.turns.length:Int) 1 8)=true,Qe Try.prog (.clos 195 [] []) [.rsl (Qs se.turns) 0 se.turns.length,.clos 196 [] [.rptr [.int .i64 1] 0,.rptr [.int .i64 100] 0,.rptr [.int .i64 i] 0,.rptr [.rsl (Qg s.stages) 0 s.stages.length,.rsl (rowI s.worth) 0 s.worth.length,.int .i64 s.price] 0]] (.bool (se.turns.any (fun t=>!Xo 1 100 i s.stages.length t)))])
 (hr:AvLe (.bool (!(se.turns.any (fun t=>!Xo 1 100 i s.stages.length t)))) res):G Try.prog E [.code (Qc Try.prog 134)] ⟨[.agg [.rsl (Qg s.stages) 0 s.stages.length,.rsl (rowI s.worth) 0 s.worth.length,.int .i64 s.price],.int .i64 i]++unds (Try.f134.ntmps - 2),[]⟩ :=
 Qb (n:=400) (evs:=[.auto,.auto,.ld (.agg [.int .i64 se.kind,.int .i64 se.prize,.rsl (Qs se.turns) 0 se.turns.length]),.b false,.b true,.b true,.v (.bool (Qf (se.turns.length:Int) 1 8)),.b true,.v (.bool (se.turns.any (fun t=>!Xo 1 100 i s.stages.length t)))]) (obs:=_) hE Try.func134 Qy (by kernel_rfl) ho hr
theorem p134_start_3 (s:Stl) (i:Int) (se:Stg) {E:Env} {res:AV} (hE:Qj Try.prog 134 res E) (ho:AllP [0≤i∧i<(s.stages.length:Int),((Qg s.stages).drop (0+(Int.toNat i)*3)).take 3=[.int .i64 se.kind,.int .i64 se.prize,.rsl (Qs se.turns) 0 se.turns.length],3≤3,1≤1,1≤1,(se.kind == 4)=false,(se.kind == 1)=true,1≤1,1≤1,(se.prize == 0)=true,Qe Try.prog (.clos 69 [] []) [.int .i64 (se.turns.length:Int),.int .i64 1,.int .i64 8] (.bool (Qf (se.turns.length:Int) 1 8)),(Qf (se.turns.length:Int) 1 8)=false])
 (hr:AvLe (.bool false) res):G Try.prog E [.code (Qc Try.prog 134)] ⟨[.agg [.rsl (Qg s.stages) 0 s.stages.length,.rsl (rowI s.worth) 0 s.worth.length,.int .i64 s.price],.int .i64 i]++unds (Try.f134.ntmps - 2),[]⟩ :=
 Qb (n:=400) (evs:=[.auto,.auto,.ld (.agg [.int .i64 se.kind,.int .i64 se.prize,.rsl (Qs se.turns) 0 se.turns.length]),.b false,.b true,.b true,.v (.bool (Qf (se.turns.length:Int) 1 8)),.b false]) (obs:=_) hE Try.func134 Qy (by kernel_rfl) ho hr
theorem p134_start_4 (s:Stl) (i:Int) (se:Stg) {E:Env} {res:AV} (hE:Qj Try.prog 134 res E) (ho:AllP [0≤i∧i<(s.stages.length:Int),((Qg s.stages).drop (0+(Int.toNat i)*3)).take 3=[.int .i64 se.kind,.int .i64 se.prize,.rsl (Qs se.turns) 0 se.turns.length],3≤3,1≤1,1≤1,(se.kind == 4)=false,(se.kind == 1)=true,1≤1,1≤1,(se.prize == 0)=false,false=false])
 (hr:AvLe (.bool false) res):G Try.prog E [.code (Qc Try.prog 134)] ⟨[.agg [.rsl (Qg s.stages) 0 s.stages.length,.rsl (rowI s.worth) 0 s.worth.length,.int .i64 s.price],.int .i64 i]++unds (Try.f134.ntmps - 2),[]⟩ :=
 Qb (n:=400) (evs:=[.auto,.auto,.ld (.agg [.int .i64 se.kind,.int .i64 se.prize,.rsl (Qs se.turns) 0 se.turns.length]),.b false,.b true,.b false,.b false]) (obs:=_) hE Try.func134 Qy (by kernel_rfl) ho hr
theorem p134_start_5 (s:Stl) (i:Int) (se:Stg) {E:Env} {res:AV} (hE:Qj Try.prog 134 res E) (ho:AllP [0≤i∧i<(s.stages.length:Int),((Qg s.stages).drop (0+(Int.toNat i)*3)).take 3=[.int .i64 se.kind,.int .i64 se.prize,.rsl (Qs se.turns) 0 se.turns.length],3≤3,1≤1,1≤1,(se.kind == 4)=false,(se.kind == 1)=false,(se.kind == 2)=true,(se.kind == 2)=true,(se.prize == 0)=true,Qe Try.prog (.clos 69 [] []) [.int .i64 (se.turns.length:Int),.int .i64 1,.int .i64 8] (.bool (Qf (se.turns.length:Int) 1 8)),(Qf (se.turns.length:Int) 1 8)=true,Qe Try.prog (.clos 195 [] []) [.rsl (Qs se.turns) 0 se.turns.length,.clos 196 [] [.rptr [.int .i64 0] 0,.rptr [.int .i64 0] 0,.rptr [.int .i64 i] 0,.rptr [.rsl (Qg s.stages) 0 s.stages.length,.rsl (rowI s.worth) 0 s.worth.length,.int .i64 s.price] 0]] (.bool (se.turns.any (fun t=>!Xo 0 0 i s.stages.length t)))])
 (hr:AvLe (.bool (!(se.turns.any (fun t=>!Xo 0 0 i s.stages.length t)))) res):G Try.prog E [.code (Qc Try.prog 134)] ⟨[.agg [.rsl (Qg s.stages) 0 s.stages.length,.rsl (rowI s.worth) 0 s.worth.length,.int .i64 s.price],.int .i64 i]++unds (Try.f134.ntmps - 2),[]⟩ :=
 Qb (n:=400) (evs:=[.auto,.auto,.ld (.agg [.int .i64 se.kind,.int .i64 se.prize,.rsl (Qs se.turns) 0 se.turns.length]),.b false,.b false,.b true,.b true,.b true,.v (.bool (Qf (se.turns.length:Int) 1 8)),.b true,.v (.bool (se.turns.any (fun t=>!Xo 0 0 i s.stages.length t)))]) (obs:=_) hE Try.func134 Qy (by kernel_rfl) ho hr
theorem p134_start_6 (s:Stl) (i:Int) (se:Stg) {E:Env} {res:AV} (hE:Qj Try.prog 134 res E) (ho:AllP [0≤i∧i<(s.stages.length:Int),((Qg s.stages).drop (0+(Int.toNat i)*3)).take 3=[.int .i64 se.kind,.int .i64 se.prize,.rsl (Qs se.turns) 0 se.turns.length],3≤3,1≤1,1≤1,(se.kind == 4)=false,(se.kind == 1)=false,(se.kind == 2)=true,(se.kind == 2)=true,(se.prize == 0)=true,Qe Try.prog (.clos 69 [] []) [.int .i64 (se.turns.length:Int),.int .i64 1,.int .i64 8] (.bool (Qf (se.turns.length:Int) 1 8)),(Qf (se.turns.length:Int) 1 8)=false])
 (hr:AvLe (.bool false) res):G Try.prog E [.code (Qc Try.prog 134)] ⟨[.agg [.rsl (Qg s.stages) 0 s.stages.length,.rsl (rowI s.worth) 0 s.worth.length,.int .i64 s.price],.int .i64 i]++unds (Try.f134.ntmps - 2),[]⟩ :=
 Qb (n:=400) (evs:=[.auto,.auto,.ld (.agg [.int .i64 se.kind,.int .i64 se.prize,.rsl (Qs se.turns) 0 se.turns.length]),.b false,.b false,.b true,.b true,.b true,.v (.bool (Qf (se.turns.length:Int) 1 8)),.b false]) (obs:=_) hE Try.func134 Qy (by kernel_rfl) ho hr
theorem p134_start_7 (s:Stl) (i:Int) (se:Stg) {E:Env} {res:AV} (hE:Qj Try.prog 134 res E) (ho:AllP [0≤i∧i<(s.stages.length:Int),((Qg s.stages).drop (0+(Int.toNat i)*3)).take 3=[.int .i64 se.kind,.int .i64 se.prize,.rsl (Qs se.turns) 0 se.turns.length],3≤3,1≤1,1≤1,(se.kind == 4)=false,(se.kind == 1)=false,(se.kind == 2)=true,(se.kind == 2)=true,(se.prize == 0)=false,false=false])
 (hr:AvLe (.bool false) res):G Try.prog E [.code (Qc Try.prog 134)] ⟨[.agg [.rsl (Qg s.stages) 0 s.stages.length,.rsl (rowI s.worth) 0 s.worth.length,.int .i64 s.price],.int .i64 i]++unds (Try.f134.ntmps - 2),[]⟩ :=
 Qb (n:=400) (evs:=[.auto,.auto,.ld (.agg [.int .i64 se.kind,.int .i64 se.prize,.rsl (Qs se.turns) 0 se.turns.length]),.b false,.b false,.b true,.b true,.b false,.b false]) (obs:=_) hE Try.func134 Qy (by kernel_rfl) ho hr
theorem p134_start_8 (s:Stl) (i:Int) (se:Stg) {E:Env} {res:AV} (hE:Qj Try.prog 134 res E) (ho:AllP [0≤i∧i<(s.stages.length:Int),((Qg s.stages).drop (0+(Int.toNat i)*3)).take 3=[.int .i64 se.kind,.int .i64 se.prize,.rsl (Qs se.turns) 0 se.turns.length],3≤3,1≤1,1≤1,(se.kind == 4)=false,(se.kind == 1)=false,(se.kind == 2)=true,(se.kind == 2)=false])
 (hr:AvLe (.bool false) res):G Try.prog E [.code (Qc Try.prog 134)] ⟨[.agg [.rsl (Qg s.stages) 0 s.stages.length,.rsl (rowI s.worth) 0 s.worth.length,.int .i64 s.price],.int .i64 i]++unds (Try.f134.ntmps - 2),[]⟩ :=
 Qb (n:=400) (evs:=[.auto,.auto,.ld (.agg [.int .i64 se.kind,.int .i64 se.prize,.rsl (Qs se.turns) 0 se.turns.length]),.b false,.b false,.b true,.b false]) (obs:=_) hE Try.func134 Qy (by kernel_rfl) ho hr
theorem p134_start_9 (s:Stl) (i:Int) (se:Stg) {E:Env} {res:AV} (hE:Qj Try.prog 134 res E) (ho:AllP [0≤i∧i<(s.stages.length:Int),((Qg s.stages).drop (0+(Int.toNat i)*3)).take 3=[.int .i64 se.kind,.int .i64 se.prize,.rsl (Qs se.turns) 0 se.turns.length],3≤3,1≤1,1≤1,(se.kind == 4)=false,(se.kind == 1)=false,(se.kind == 2)=false,(se.kind == 3)=true,(se.prize == 0)=true,Qe Try.prog (.clos 69 [] []) [.int .i64 (se.turns.length:Int),.int .i64 1,.int .i64 8] (.bool (Qf (se.turns.length:Int) 1 8)),(Qf (se.turns.length:Int) 1 8)=true,Qe Try.prog (.clos 195 [] []) [.rsl (Qs se.turns) 0 se.turns.length,.clos 196 [] [.rptr [.int .i64 0] 0,.rptr [.int .i64 0] 0,.rptr [.int .i64 i] 0,.rptr [.rsl (Qg s.stages) 0 s.stages.length,.rsl (rowI s.worth) 0 s.worth.length,.int .i64 s.price] 0]] (.bool (se.turns.any (fun t=>!Xo 0 0 i s.stages.length t)))])
 (hr:AvLe (.bool (!(se.turns.any (fun t=>!Xo 0 0 i s.stages.length t)))) res):G Try.prog E [.code (Qc Try.prog 134)] ⟨[.agg [.rsl (Qg s.stages) 0 s.stages.length,.rsl (rowI s.worth) 0 s.worth.length,.int .i64 s.price],.int .i64 i]++unds (Try.f134.ntmps - 2),[]⟩ :=
 Qb (n:=400) (evs:=[.auto,.auto,.ld (.agg [.int .i64 se.kind,.int .i64 se.prize,.rsl (Qs se.turns) 0 se.turns.length]),.b false,.b false,.b false,.b true,.b true,.v (.bool (Qf (se.turns.length:Int) 1 8)),.b true,.v (.bool (se.turns.any (fun t=>!Xo 0 0 i s.stages.length t)))]) (obs:=_) hE Try.func134 Qy (by kernel_rfl) ho hr
theorem yf (s:Stl) (i:Int) (se:Stg) {E:Env} {res:AV} (hE:Qj Try.prog 134 res E) (ho:AllP [0≤i∧i<(s.stages.length:Int),((Qg s.stages).drop (0+(Int.toNat i)*3)).take 3=[.int .i64 se.kind,.int .i64 se.prize,.rsl (Qs se.turns) 0 se.turns.length],3≤3,1≤1,1≤1,(se.kind == 4)=false,(se.kind == 1)=false,(se.kind == 2)=false,(se.kind == 3)=true,(se.prize == 0)=true,Qe Try.prog (.clos 69 [] []) [.int .i64 (se.turns.length:Int),.int .i64 1,.int .i64 8] (.bool (Qf (se.turns.length:Int) 1 8)),(Qf (se.turns.length:Int) 1 8)=false])
 (hr:AvLe (.bool false) res):G Try.prog E [.code (Qc Try.prog 134)] ⟨[.agg [.rsl (Qg s.stages) 0 s.stages.length,.rsl (rowI s.worth) 0 s.worth.length,.int .i64 s.price],.int .i64 i]++unds (Try.f134.ntmps - 2),[]⟩ :=
 Qb (n:=400) (evs:=[.auto,.auto,.ld (.agg [.int .i64 se.kind,.int .i64 se.prize,.rsl (Qs se.turns) 0 se.turns.length]),.b false,.b false,.b false,.b true,.b true,.v (.bool (Qf (se.turns.length:Int) 1 8)),.b false]) (obs:=_) hE Try.func134 Qy (by kernel_rfl) ho hr
theorem ye (s:Stl) (i:Int) (se:Stg) {E:Env} {res:AV} (hE:Qj Try.prog 134 res E) (ho:AllP [0≤i∧i<(s.stages.length:Int),((Qg s.stages).drop (0+(Int.toNat i)*3)).take 3=[.int .i64 se.kind,.int .i64 se.prize,.rsl (Qs se.turns) 0 se.turns.length],3≤3,1≤1,1≤1,(se.kind == 4)=false,(se.kind == 1)=false,(se.kind == 2)=false,(se.kind == 3)=true,(se.prize == 0)=false,false=false])
 (hr:AvLe (.bool false) res):G Try.prog E [.code (Qc Try.prog 134)] ⟨[.agg [.rsl (Qg s.stages) 0 s.stages.length,.rsl (rowI s.worth) 0 s.worth.length,.int .i64 s.price],.int .i64 i]++unds (Try.f134.ntmps - 2),[]⟩ :=
 Qb (n:=400) (evs:=[.auto,.auto,.ld (.agg [.int .i64 se.kind,.int .i64 se.prize,.rsl (Qs se.turns) 0 se.turns.length]),.b false,.b false,.b false,.b true,.b false,.b false]) (obs:=_) hE Try.func134 Qy (by kernel_rfl) ho hr
theorem yd (s:Stl) (i:Int) (se:Stg) {E:Env} {res:AV} (hE:Qj Try.prog 134 res E) (ho:AllP [0≤i∧i<(s.stages.length:Int),((Qg s.stages).drop (0+(Int.toNat i)*3)).take 3=[.int .i64 se.kind,.int .i64 se.prize,.rsl (Qs se.turns) 0 se.turns.length],3≤3,1≤1,1≤1,(se.kind == 4)=false,(se.kind == 1)=false,(se.kind == 2)=false,(se.kind == 3)=false])
 (hr:AvLe (.bool false) res):G Try.prog E [.code (Qc Try.prog 134)] ⟨[.agg [.rsl (Qg s.stages) 0 s.stages.length,.rsl (rowI s.worth) 0 s.worth.length,.int .i64 s.price],.int .i64 i]++unds (Try.f134.ntmps - 2),[]⟩ :=
 Qb (n:=400) (evs:=[.auto,.auto,.ld (.agg [.int .i64 se.kind,.int .i64 se.prize,.rsl (Qs se.turns) 0 se.turns.length]),.b false,.b false,.b false,.b false]) (obs:=_) hE Try.func134 Qy (by kernel_rfl) ho hr
theorem f134W (s:Stl) (i:Int) {E:Env} {rv:Bool} (hE:Qj Try.prog 134 (.bool rv) E)
 (h:(0≤i∧(∃ se:Stg,s.stages[Int.toNat i]?=some se∧((se.kind=4→(((se.turns.length:Int)=0→((I6 ((s.worth.length:Int) - 1))∧rv=(Qf se.prize (-1) ((s.worth.length:Int) - 1))))∧(¬ ((se.turns.length:Int)=0)→rv=false)))∧(¬ (se.kind=4)→((se.kind=1→((se.prize=0→(((Qf (se.turns.length:Int) 1 8)=true→((((0≤i∧i≤1000000)∧s.stages.length≤1000000)∧se.turns.length≤9223372036854775807)∧rv=(!(se.turns.any (fun t=>!Xo 1 100 i s.stages.length t)))))∧((Qf (se.turns.length:Int) 1 8)=false→rv=false)))∧(¬ (se.prize=0)→rv=false)))∧(¬ (se.kind=1)→((se.kind=2→((se.kind=2→((se.prize=0→(((Qf (se.turns.length:Int) 1 8)=true→((((0≤i∧i≤1000000)∧s.stages.length≤1000000)∧se.turns.length≤9223372036854775807)∧rv=(!(se.turns.any (fun t=>!Xo 0 0 i s.stages.length t)))))∧((Qf (se.turns.length:Int) 1 8)=false→rv=false)))∧(¬ (se.prize=0)→rv=false)))∧(¬ (se.kind=2)→rv=false)))∧(¬ (se.kind=2)→((se.kind=3→((se.prize=0→(((Qf (se.turns.length:Int) 1 8)=true→((((0≤i∧i≤1000000)∧s.stages.length≤1000000)∧se.turns.length≤9223372036854775807)∧rv=(!(se.turns.any (fun t=>!Xo 0 0 i s.stages.length t)))))∧((Qf (se.turns.length:Int) 1 8)=false→rv=false)))∧(¬ (se.prize=0)→rv=false)))∧(¬ (se.kind=3)→rv=false))))))))))):G Try.prog E [.code (Qc Try.prog 134)] ⟨[.agg [.rsl (Qg s.stages) 0 s.stages.length,.rsl (rowI s.worth) 0 s.worth.length,.int .i64 s.price],.int .i64 i]++unds (Try.f134.ntmps - 2),[]⟩:=by
 obtain ⟨h2,h⟩:=h
 obtain ⟨se,h1,h⟩:=h
 rcases bft (se.kind == 4) with hc0 | hc0
 · have h:=h.1 (eq_of_beq hc0)
   rcases bft ((se.turns.length:Int) == 0) with hc1 | hc1
   · have h:=h.1 (eq_of_beq hc1)
     obtain ⟨q8_2,h⟩:=h
     exact p134_start_0 s i se hE ⟨(Qo h2 h1),(rp cStg 3 0 3 h1),(by decide),(by decide),(by decide),hc0,hc1,q8_2,(u69 (QG se.prize (-1) ((s.worth.length:Int) - 1))),trivial⟩ (AvLe.of_eq (by rw [h]; try rfl))
   · have h:=h.2 (ne_of_beq_false hc1)
     exact p134_start_1 s i se hE ⟨(Qo h2 h1),(rp cStg 3 0 3 h1),(by decide),(by decide),(by decide),hc0,hc1,trivial⟩ (AvLe.of_eq (by rw [h]; try rfl))
 · have h:=h.2 (ne_of_beq_false hc0)
   rcases bft (se.kind == 1) with hc1 | hc1
   · have h:=h.1 (eq_of_beq hc1)
     rcases bft (se.prize == 0) with hc2 | hc2
     · have h:=h.1 (eq_of_beq hc2)
       rcases bft (Qf (se.turns.length:Int) 1 8) with hc3 | hc3
       · have h:=h.1 hc3
         obtain ⟨h3,h⟩:=h
         exact p134_start_2 s i se hE ⟨(Qo h2 h1),(rp cStg 3 0 3 h1),(by decide),(by decide),(by decide),hc0,hc1,(by decide),(by decide),hc2,(u69 (QG (se.turns.length:Int) 1 8)),hc3,(u195 (anyT_ok se.turns 1 100 i s h3)),trivial⟩ (AvLe.of_eq (by rw [h]; try rfl))
       · have h:=h.2 hc3
         exact p134_start_3 s i se hE ⟨(Qo h2 h1),(rp cStg 3 0 3 h1),(by decide),(by decide),(by decide),hc0,hc1,(by decide),(by decide),hc2,(u69 (QG (se.turns.length:Int) 1 8)),hc3,trivial⟩ (AvLe.of_eq (by rw [h]; try rfl))
     · have h:=h.2 (ne_of_beq_false hc2)
       exact p134_start_4 s i se hE ⟨(Qo h2 h1),(rp cStg 3 0 3 h1),(by decide),(by decide),(by decide),hc0,hc1,(by decide),(by decide),hc2,rfl,trivial⟩ (AvLe.of_eq (by rw [h]; try rfl))
   · have h:=h.2 (ne_of_beq_false hc1)
     rcases bft (se.kind == 2) with hc2 | hc2
     · have h:=h.1 (eq_of_beq hc2)
       rcases bft (se.kind == 2) with hc3 | hc3
       · have h:=h.1 (eq_of_beq hc3)
         rcases bft (se.prize == 0) with hc4 | hc4
         · have h:=h.1 (eq_of_beq hc4)
           rcases bft (Qf (se.turns.length:Int) 1 8) with hc5 | hc5
           · have h:=h.1 hc5
             obtain ⟨h3,h⟩:=h
             exact p134_start_5 s i se hE ⟨(Qo h2 h1),(rp cStg 3 0 3 h1),(by decide),(by decide),(by decide),hc0,hc1,hc2,hc3,hc4,(u69 (QG (se.turns.length:Int) 1 8)),hc5,(u195 (anyT_ok se.turns 0 0 i s h3)),trivial⟩ (AvLe.of_eq (by rw [h]; try rfl))
           · have h:=h.2 hc5
             exact p134_start_6 s i se hE ⟨(Qo h2 h1),(rp cStg 3 0 3 h1),(by decide),(by decide),(by decide),hc0,hc1,hc2,hc3,hc4,(u69 (QG (se.turns.length:Int) 1 8)),hc5,trivial⟩ (AvLe.of_eq (by rw [h]; try rfl))
         · have h:=h.2 (ne_of_beq_false hc4)
           exact p134_start_7 s i se hE ⟨(Qo h2 h1),(rp cStg 3 0 3 h1),(by decide),(by decide),(by decide),hc0,hc1,hc2,hc3,hc4,rfl,trivial⟩ (AvLe.of_eq (by rw [h]; try rfl))
       · have h:=h.2 (ne_of_beq_false hc3)
         exact p134_start_8 s i se hE ⟨(Qo h2 h1),(rp cStg 3 0 3 h1),(by decide),(by decide),(by decide),hc0,hc1,hc2,hc3,trivial⟩ (AvLe.of_eq (by rw [h]; try rfl))
     · have h:=h.2 (ne_of_beq_false hc2)
       rcases bft (se.kind == 3) with hc3 | hc3
       · have h:=h.1 (eq_of_beq hc3)
         rcases bft (se.prize == 0) with hc4 | hc4
         · have h:=h.1 (eq_of_beq hc4)
           rcases bft (Qf (se.turns.length:Int) 1 8) with hc5 | hc5
           · have h:=h.1 hc5
             obtain ⟨h3,h⟩:=h
             exact p134_start_9 s i se hE ⟨(Qo h2 h1),(rp cStg 3 0 3 h1),(by decide),(by decide),(by decide),hc0,hc1,hc2,hc3,hc4,(u69 (QG (se.turns.length:Int) 1 8)),hc5,(u195 (anyT_ok se.turns 0 0 i s h3)),trivial⟩ (AvLe.of_eq (by rw [h]; try rfl))
           · have h:=h.2 hc5
             exact yf s i se hE ⟨(Qo h2 h1),(rp cStg 3 0 3 h1),(by decide),(by decide),(by decide),hc0,hc1,hc2,hc3,hc4,(u69 (QG (se.turns.length:Int) 1 8)),hc5,trivial⟩ (AvLe.of_eq (by rw [h]; try rfl))
         · have h:=h.2 (ne_of_beq_false hc4)
           exact ye s i se hE ⟨(Qo h2 h1),(rp cStg 3 0 3 h1),(by decide),(by decide),(by decide),hc0,hc1,hc2,hc3,hc4,rfl,trivial⟩ (AvLe.of_eq (by rw [h]; try rfl))
       · have h:=h.2 (ne_of_beq_false hc3)
         exact yd s i se hE ⟨(Qo h2 h1),(rp cStg 3 0 3 h1),(by decide),(by decide),(by decide),hc0,hc1,hc2,hc3,trivial⟩ (AvLe.of_eq (by rw [h]; try rfl))
theorem all_not {α:Type} {p:α→Bool}:∀ {l:List α},(!(l.any fun t=>!p t))=l.all p
 | []=>rfl
 | x :: l=>by rw [List.any_cons,List.all_cons,← all_not (l:=l)]; cases p x <;> simp
theorem formed_ok (s:Stl) (i:Nat) (h:i<s.stages.length∧s.stages.length≤1000000∧s.worth.length≤1000000):Pure Try.prog 134 [.agg [.rsl (Qg s.stages) 0 s.stages.length,.rsl (rowI s.worth) 0 s.worth.length,.int .i64 s.price],.int .i64 (i:Int)] (.bool (XC s i)):=QF Try.func134 f134b fun E hE=>by
 have hi:s.stages[i]?=some s.stages[i]:=List.getElem?_eq_getElem h.1
 have hr:XC s i=qE s i s.stages[i]:=by rw [XC,hi]
 generalize s.stages[i]=x at hi hr
 have fin:∀ {lo hi:Int},¬ x.kind=4→Qf x.kind 1 3=true→(if x.kind=1 then (1:Int) else 0)=lo→(if x.kind=1 then (100:Int) else 0)=hi→x.prize=0→Qf x.turns.length 1 8=true→XC s i=!(x.turns.any fun t=>!Xo lo hi i s.stages.length t):=fun {lo hi} h1 h2 e1 e2 h3 h4=>by
  rw [hr,qE,if_neg h1,h2,decide_eq_true h3,h4,e1,e2,all_not]; simp
 have b1:∀ (h1:¬ x.kind=4),¬ x.prize=0→XC s i=false:=fun h1 h3=>by rw [hr,qE,if_neg h1,decide_eq_false h3]; simp
 have b2:∀ (h1:¬ x.kind=4),Qf x.turns.length 1 8=false→XC s i=false:=fun h1 h3=>by rw [hr,qE,if_neg h1,h3]; simp
 have b3:∀ (h1:¬ x.kind=4),Qf x.kind 1 3=false→XC s i=false:=fun h1 h3=>by rw [hr,qE,if_neg h1,h3]; simp
 have pre:Qf x.turns.length 1 8=true→((0≤(i:Int)∧(i:Int)≤1000000)∧s.stages.length≤1000000)∧x.turns.length≤9223372036854775807:=fun h4=>by have:=QJ.1 h4; omega
 refine f134W s i (rv:=XC s i) hE ⟨by omega,x,by rw [show Int.toNat (i:Int)=i by omega]; exact hi,fun h1=>⟨fun h2=>⟨by omega,?_⟩,fun h2=>?_⟩,fun h1 =>
  ⟨fun k1=>⟨fun h3=>⟨fun h4=>⟨pre h4,fin h1 (QJ.2 (by omega)) (if_pos k1) (if_pos k1) h3 h4⟩,b2 h1⟩,b1 h1⟩,fun k1 =>
  ⟨fun k2=>⟨fun _=>⟨fun h3=>⟨fun h4=>⟨pre h4,fin h1 (QJ.2 (by omega)) (if_neg k1) (if_neg k1) h3 h4⟩,b2 h1⟩,b1 h1⟩,fun h=>absurd k2 h⟩,fun k2 =>
  ⟨fun k3=>⟨fun h3=>⟨fun h4=>⟨pre h4,fin h1 (QJ.2 (by omega)) (if_neg k1) (if_neg k1) h3 h4⟩,b2 h1⟩,b1 h1⟩,fun k3=>b3 h1 (within_not.2 (by omega))⟩⟩⟩⟩
 · rw [hr,qE,if_pos h1,decide_eq_true (by omega)]; rfl
 · rw [hr,qE,if_pos h1,decide_eq_false (by omega)]; rfl
theorem f59b:Try.f59.body=some (Qc Try.prog 59):=by kernel_rfl
theorem u59 {a c k:List AV} {r:AV} (h:Pure Try.prog 59 (a++c++k) r):Qe Try.prog (.clos 59 a k) c r:=Qr Try.func59 (by kernel_rfl) f59b h
def f59K0 (P:Program):List Item:=kAt 400 [.code (Qc P 59)] [.stop]
def f59S0 (l:(List Int)) (i:Nat):St:=⟨([.rsl (rowI l) 0 l.length,.clos 133 [] []]++jj 5 ([.int .i64 (l.length:Int),.int .i64 (i:Int)]++Js 10)),[]⟩
def f59G0 (E:Env) (l:(List Int)) (i:Nat):Prop:=G Try.prog E (f59K0 Try.prog) (f59S0 l i )
theorem p59_start_0 (l:(List Int)) {E:Env} {rv:AV} (hE:Qj Try.prog 59 rv E) (ho:AllP [])
 (hg:G Try.prog E (f59K0 Try.prog) ⟨([.rsl (rowI l) 0 l.length,.clos 133 [] []]++jj 5 ([.int .i64 (l.length:Int),.int .i64 0]++Js 10)),[]⟩):G Try.prog E [.code (Qc Try.prog 59)] ⟨[.rsl (rowI l) 0 l.length,.clos 133 [] []]++unds (Try.f59.ntmps - 2),[]⟩ :=
 Qm (n:=400) (ds:=[]) (cs:=[]) (live:=[0,1,7,8]) (m:=0) (evs:=[.stop]) (obs:=_) hE.2.1 (hE.nogh _) Qy (by kernel_rfl) ho hg
theorem f59W (l:(List Int)) {E:Env} {rv:Int} (hE:Qj Try.prog 59 (.int .i64 rv) E)
 (h:f59G0 E l 0):G Try.prog E [.code (Qc Try.prog 59)] ⟨[.rsl (rowI l) 0 l.length,.clos 133 [] []]++unds (Try.f59.ntmps - 2),[]⟩:=by
 exact p59_start_0 l hE trivial h
theorem p59_0_0 (l:(List Int)) (i:Nat) (e:Int) {E:Env} {res:AV} (hE:Qj Try.prog 59 res E) (ho:AllP [(decide ((i:Int)<(l.length:Int)))=true,0≤(i:Int)∧(i:Int)<(l.length:Int),((rowI l).drop (0+(Int.toNat (i:Int))*1)).take 1=[.int .i64 e],Qe Try.prog (.clos 133 [] []) [.int .i64 e] (.bool (!Qf e 0 10000)),(!Qf e 0 10000)=true])
 (hr:AvLe (.int .i64 (i:Int)) res):G Try.prog E (f59K0 Try.prog) (f59S0 l i ) :=
 Qb (n:=400) (evs:=[.b true,.ld (.int .i64 e),.v (.bool (!Qf e 0 10000)),.b true]) (obs:=_) hE Try.func59 Qy (by kernel_rfl) ho hr
theorem p59_0_1 (l:(List Int)) (i:Nat) (e:Int) {E:Env} {rv:AV} (hE:Qj Try.prog 59 rv E) (ho:AllP [(decide ((i:Int)<(l.length:Int)))=true,0≤(i:Int)∧(i:Int)<(l.length:Int),((rowI l).drop (0+(Int.toNat (i:Int))*1)).take 1=[.int .i64 e],Qe Try.prog (.clos 133 [] []) [.int .i64 e] (.bool (!Qf e 0 10000)),(!Qf e 0 10000)=false,InR .i64 ((i:Int)+1)])
 (hg:G Try.prog E (f59K0 Try.prog) ⟨([.rsl (rowI l) 0 l.length,.clos 133 [] []]++jj 5 ([.int .i64 (l.length:Int),.int .i64 ((i:Int)+1)]++Js 10)),[]⟩):G Try.prog E (f59K0 Try.prog) (f59S0 l i ) :=
 Qm (n:=400) (ds:=[]) (cs:=[]) (live:=[0,1,7,8]) (m:=0) (evs:=[.b true,.ld (.int .i64 e),.v (.bool (!Qf e 0 10000)),.b false,.stop]) (obs:=_) hE.2.1 (hE.nogh _) Qy (by kernel_rfl) ho hg
theorem p59_0_2 (l:(List Int)) (i:Nat) {E:Env} {res:AV} (hE:Qj Try.prog 59 res E) (ho:AllP [(decide ((i:Int)<(l.length:Int)))=false])
 (hr:AvLe (.int .i64 (-1)) res):G Try.prog E (f59K0 Try.prog) (f59S0 l i ) :=
 Qb (n:=400) (evs:=[.b false]) (obs:=_) hE Try.func59 Qy (by kernel_rfl) ho hr
theorem f59W0 (l:(List Int)) (i:Nat) {E:Env} {rv:Int} (hE:Qj Try.prog 59 (.int .i64 rv) E)
 (h:(((i:Int)<(l.length:Int)→(∃ e:Int,l[i]?=some e∧(((!Qf e 0 10000)=true→rv=(i:Int))∧((!Qf e 0 10000)=false→((I6 ((i:Int)+1))∧f59G0 E l (i+1))))))∧(¬ ((i:Int)<(l.length:Int))→rv=(-1)))):f59G0 E l i:=by
 rcases bft (decide ((i:Int)<(l.length:Int))) with hc0 | hc0
 · have h:=h.1 (odt hc0)
   obtain ⟨e,h1,h⟩:=h
   rcases bft (!Qf e 0 10000) with hc1 | hc1
   · have h:=h.1 hc1
     exact p59_0_0 l i e hE ⟨hc0,(Qz h1),(rp cI 1 0 1 h1),(u133 (bad_ok e)),hc1,trivial⟩ (AvLe.of_eq (by rw [h]; try rfl))
   · have h:=h.2 hc1
     obtain ⟨q6_2,h⟩:=h
     exact p59_0_1 l i e hE ⟨hc0,(Qz h1),(rp cI 1 0 1 h1),(u133 (bad_ok e)),hc1,q6_2,trivial⟩ h
 · have h:=h.2 (odf hc0)
   exact p59_0_2 l i hE ⟨hc0,trivial⟩ (AvLe.of_eq (by rw [h]; try rfl))
theorem idxB_ok (l:List Int) (h:l.length≤9223372036854775807):Pure Try.prog 59 [.rsl (rowI l) 0 l.length,.clos 133 [] []] (.int .i64 (Yv (fun n=>!Qf n 0 10000) l)):=QF Try.func59 f59b fun E hE=>by
 refine f59W l hE (qm (fun n=>!Qf n 0 10000) l l.length 0 (by omega) (fun j x hj=>by omega) (fun i=>f59G0 E l i) (fun i hi' h1 h2=>?_) (fun _ h2=>?_))
 · have hx:l[i]?=some l[i]:=List.getElem?_eq_getElem hi'
   exact f59W0 l i hE ⟨fun _=>⟨_,hx,fun hp=>h1 _ hx hp,fun hp=>⟨by omega,h2 _ hx hp⟩⟩,fun h=>by omega⟩
 · exact f59W0 l _ hE ⟨fun h=>by omega,fun _=>h2⟩
theorem f76b:Try.f76.body=some (Qc Try.prog 76):=by kernel_rfl
theorem u76 {a c k:List AV} {r:AV} (h:Pure Try.prog 76 (a++c++k) r):Qe Try.prog (.clos 76 a k) c r:=Qr Try.func76 (by kernel_rfl) f76b h
theorem p76_start_0 (l:(List Int)) {E:Env} {res:AV} (hE:Qj Try.prog 76 res E) (ho:AllP [Qe Try.prog (.clos 59 [] []) [.rsl (rowI l) 0 l.length,.clos 133 [] []] (.int .i64 (Yv (fun n=>!Qf n 0 10000) l))])
 (hr:AvLe (.bool (decide ((Yv (fun n=>!Qf n 0 10000) l)≥0))) res):G Try.prog E [.code (Qc Try.prog 76)] ⟨[.rsl (rowI l) 0 l.length,.clos 133 [] []]++unds (Try.f76.ntmps - 2),[]⟩ :=
 Qb (n:=400) (evs:=[.v (.int .i64 (Yv (fun n=>!Qf n 0 10000) l))]) (obs:=_) hE Try.func76 Qy (by kernel_rfl) ho hr
theorem f76W (l:(List Int)) {E:Env} {rv:Bool} (hE:Qj Try.prog 76 (.bool rv) E)
 (h:((l.length≤9223372036854775807)∧rv=(decide ((Yv (fun n=>!Qf n 0 10000) l)≥0)))):G Try.prog E [.code (Qc Try.prog 76)] ⟨[.rsl (rowI l) 0 l.length,.clos 133 [] []]++unds (Try.f76.ntmps - 2),[]⟩:=by
 obtain ⟨h1,h⟩:=h
 exact p76_start_0 l hE ⟨(u59 (idxB_ok l h1)),trivial⟩ (AvLe.of_eq (by rw [h]; try rfl))
theorem anyB_ok (l:List Int) (h:l.length≤9223372036854775807):Pure Try.prog 76 [.rsl (rowI l) 0 l.length,.clos 133 [] []] (.bool (l.any fun n=>!Qf n 0 10000)):=QF Try.func76 f76b fun E hE =>
 f76W l hE ⟨h,(idxG_anyS _ _).symm⟩
theorem f135b:Try.f135.body=some (Qc Try.prog 135):=by kernel_rfl
def WC (P:Program):List Item:=kAt 400 [.code (Qc P 135)] [.stop]
def f135S0 (i:Int) (s:Stl) (me mu:List Int) (ga gb:Nat) (i1:(List Trn)) (i11:Nat) (v3_0:Int) (v3_1:Int) (v3_2:(List Trn)) (multiple:Int) (ok:Bool) (i111:Nat):St:=⟨([.ptr 0 0 0,.int .i64 i,J,J,J,.ptr 3 0 0,.int .i64 multiple,.bool ok]++jj 12 ([.rsl (Qs i1) 0 i1.length,.int .i64 (i11:Int),.int .i64 (i111:Int)]++Js 55)),[⟨true,0,1,false,[.rsl (Qg s.stages) 0 s.stages.length,.rsl (rowI s.worth) 0 s.worth.length,.int .i64 s.price,.sl 1 ga 0 me.length 1,.sl 2 gb 0 mu.length 1],false⟩,⟨true,ga,1,true,(rowI me),true⟩,⟨true,gb,1,true,(rowI mu),true⟩,⟨true,0,1,true,[.int .i64 v3_0,.int .i64 v3_1,.rsl (Qs v3_2) 0 v3_2.length],false⟩]⟩
def f135G0 (E:Env) (i:Int) (s:Stl) (me mu:List Int) (ga gb:Nat) (i1:(List Trn)) (i11:Nat) (v3_0:Int) (v3_1:Int) (v3_2:(List Trn)) (multiple:Int) (ok:Bool) (i111:Nat):Prop:=G Try.prog E (WC Try.prog) (f135S0 i s me mu ga gb i1 i11 v3_0 v3_1 v3_2 multiple ok i111 )
theorem p135_start_0 (i:Int) (s:Stl) (me mu:List Int) (ga gb:Nat) (se:Stg) {E:Env} {rv:AV} {bs2:List Blk} (hE:LentE Try.prog 135 [.sl 2 gb 0 0 1] rv bs2 E) (ho:AllP [0≤i∧i<(s.stages.length:Int),((Qg s.stages).drop (0+(Int.toNat i)*3)).take 3=[.int .i64 se.kind,.int .i64 se.prize,.rsl (Qs se.turns) 0 se.turns.length],3≤3])
 (hg:G Try.prog E (WC Try.prog) ⟨([.ptr 0 0 0,.int .i64 i,J,J,J,.ptr 3 0 0,.int .i64 1,.bool true]++jj 12 ([.rsl (Qs se.turns) 0 se.turns.length,.int .i64 (se.turns.length:Int),.int .i64 0]++Js 55)),[⟨true,0,1,false,[.rsl (Qg s.stages) 0 s.stages.length,.rsl (rowI s.worth) 0 s.worth.length,.int .i64 s.price,.sl 1 ga 0 me.length 1,.sl 2 gb 0 mu.length 1],false⟩,⟨true,ga,1,true,(rowI me),true⟩,⟨true,gb,1,true,(rowI mu),true⟩,⟨true,0,1,true,[.int .i64 se.kind,.int .i64 se.prize,.rsl (Qs se.turns) 0 se.turns.length],false⟩]⟩):G Try.prog E [.code (Qc Try.prog 135)] ⟨[.ptr 0 0 0,.int .i64 i]++unds (Try.f135.ntmps - 2),[⟨true,0,1,false,[.rsl (Qg s.stages) 0 s.stages.length,.rsl (rowI s.worth) 0 s.worth.length,.int .i64 s.price,.sl 1 ga 0 me.length 1,.sl 2 gb 0 mu.length 1],false⟩,⟨true,ga,1,true,(rowI me),true⟩,⟨true,gb,1,true,(rowI mu),true⟩]⟩ :=
 Qm (n:=400) (ds:=[]) (cs:=[]) (live:=[0,1,5,6,7,20,21,22]) (m:=4) (evs:=[.auto,.ld (.agg [.int .i64 se.kind,.int .i64 se.prize,.rsl (Qs se.turns) 0 se.turns.length]),.stop]) (obs:=_) hE.kind (hE.nogh (by kernel_rfl)) Qy (by kernel_rfl) ho hg
theorem f135W (i:Int) (s:Stl) (me mu:List Int) (ga gb:Nat) {E:Env} {rv:Bool} {me2:List Int} {mu2:List Int} (hE:LentE Try.prog 135 [.sl 2 gb 0 0 1] (.bool rv) [⟨true,0,1,false,[.rsl (Qg s.stages) 0 s.stages.length,.rsl (rowI s.worth) 0 s.worth.length,.int .i64 s.price,.sl 1 ga 0 me.length 1,.sl 2 gb 0 mu.length 1],false⟩,⟨true,ga,1,true,(rowI me2),true⟩,⟨true,gb,1,true,(rowI mu2),true⟩] E)
 (h:(0≤i∧(∃ se:Stg,s.stages[Int.toNat i]?=some se∧f135G0 E i s me mu ga gb se.turns se.turns.length se.kind se.prize se.turns 1 true 0))):G Try.prog E [.code (Qc Try.prog 135)] ⟨[.ptr 0 0 0,.int .i64 i]++unds (Try.f135.ntmps - 2),[⟨true,0,1,false,[.rsl (Qg s.stages) 0 s.stages.length,.rsl (rowI s.worth) 0 s.worth.length,.int .i64 s.price,.sl 1 ga 0 me.length 1,.sl 2 gb 0 mu.length 1],false⟩,⟨true,ga,1,true,(rowI me),true⟩,⟨true,gb,1,true,(rowI mu),true⟩]⟩:=by
 obtain ⟨h2,h⟩:=h
 obtain ⟨se,h1,h⟩:=h
 exact p135_start_0 i s me mu ga gb se hE ⟨(Qo h2 h1),(rp cStg 3 0 3 h1),(by decide),trivial⟩ h
theorem p135_0_0 (i:Int) (s:Stl) (me mu:List Int) (ga gb:Nat) (i1:(List Trn)) (i11:Nat) (v3_0:Int) (v3_1:Int) (v3_2:(List Trn)) (multiple:Int) (ok:Bool) (i111:Nat) (te:Trn) (e:Int) {E:Env} {res:AV} {bs2:List Blk} (hE:LentE Try.prog 135 [.sl 2 gb 0 0 1] res bs2 E) (ho:AllP [(decide ((i111:Int)<(i11:Int)))=true,0≤(i111:Int)∧(i111:Int)<(i1.length:Int),((Qs i1).drop (0+(Int.toNat (i111:Int))*2)).take 2=[.int .i64 te.w,.int .i64 te.to],2≤2,0≤te.to∧te.to<(me.length:Int),ga=ga,ga=ga,((rowI me).drop (0+(Int.toNat te.to)*1)).take 1=[.int .i64 e],Qe Try.prog (.clos 198 [] []) [.int .i64 multiple,.int .i64 e] (.int .i64 (iMax (gcdI multiple e) 1)),InR .i64 (Int.tdiv multiple (iMax (gcdI multiple e) 1)),(iMax (gcdI multiple e) 1) ≠ 0,Qe Try.prog (.clos 197 [] []) [.int .i64 (Int.tdiv multiple (iMax (gcdI multiple e) 1)),.int .i64 e] (.tup [.int .i64 ((Xi (Int.tdiv multiple (iMax (gcdI multiple e) 1)) e).1),.bool ((Xi (Int.tdiv multiple (iMax (gcdI multiple e) 1)) e).2)]),(!(Xi (Int.tdiv multiple (iMax (gcdI multiple e) 1)) e).2)=true])
 (hr:(.bool false)=res) (hb:[⟨true,0,1,false,[.rsl (Qg s.stages) 0 s.stages.length,.rsl (rowI s.worth) 0 s.worth.length,.int .i64 s.price,.sl 1 ga 0 me.length 1,.sl 2 gb 0 mu.length 1],false⟩,⟨true,ga,1,true,(rowI me),true⟩,⟨true,gb,1,true,(rowI mu),true⟩]=bs2):G Try.prog E (WC Try.prog) (f135S0 i s me mu ga gb i1 i11 v3_0 v3_1 v3_2 multiple ok i111 ) :=
 QN (n:=400) (live:=[4]) (m:=3) (evs:=[.b true,.ld (.agg [.int .i64 te.w,.int .i64 te.to]),.auto,.auto,.ld (.int .i64 e),.v (.int .i64 (iMax (gcdI multiple e) 1)),.v (.tup [.int .i64 ((Xi (Int.tdiv multiple (iMax (gcdI multiple e) 1)) e).1),.bool ((Xi (Int.tdiv multiple (iMax (gcdI multiple e) 1)) e).2)]),.b true]) (obs:=_) hE (hE.nogh (by kernel_rfl)) Try.func135 Qy (by kernel_rfl) ho hr hb
theorem p135_0_1 (i:Int) (s:Stl) (me mu:List Int) (ga gb:Nat) (i1:(List Trn)) (i11:Nat) (v3_0:Int) (v3_1:Int) (v3_2:(List Trn)) (multiple:Int) (ok:Bool) (i111:Nat) (te:Trn) (e:Int) {E:Env} {rv:AV} {bs2:List Blk} (hE:LentE Try.prog 135 [.sl 2 gb 0 0 1] rv bs2 E) (ho:AllP [(decide ((i111:Int)<(i11:Int)))=true,0≤(i111:Int)∧(i111:Int)<(i1.length:Int),((Qs i1).drop (0+(Int.toNat (i111:Int))*2)).take 2=[.int .i64 te.w,.int .i64 te.to],2≤2,0≤te.to∧te.to<(me.length:Int),ga=ga,ga=ga,((rowI me).drop (0+(Int.toNat te.to)*1)).take 1=[.int .i64 e],Qe Try.prog (.clos 198 [] []) [.int .i64 multiple,.int .i64 e] (.int .i64 (iMax (gcdI multiple e) 1)),InR .i64 (Int.tdiv multiple (iMax (gcdI multiple e) 1)),(iMax (gcdI multiple e) 1) ≠ 0,Qe Try.prog (.clos 197 [] []) [.int .i64 (Int.tdiv multiple (iMax (gcdI multiple e) 1)),.int .i64 e] (.tup [.int .i64 ((Xi (Int.tdiv multiple (iMax (gcdI multiple e) 1)) e).1),.bool ((Xi (Int.tdiv multiple (iMax (gcdI multiple e) 1)) e).2)]),(!(Xi (Int.tdiv multiple (iMax (gcdI multiple e) 1)) e).2)=false,InR .i64 ((i111:Int)+1)])
 (hg:G Try.prog E (WC Try.prog) ⟨([.ptr 0 0 0,.int .i64 i,J,J,J,.ptr 3 0 0,.int .i64 ((Xi (Int.tdiv multiple (iMax (gcdI multiple e) 1)) e).1),.bool ((Xi (Int.tdiv multiple (iMax (gcdI multiple e) 1)) e).2)]++jj 12 ([.rsl (Qs i1) 0 i1.length,.int .i64 (i11:Int),.int .i64 ((i111:Int)+1)]++Js 55)),[⟨true,0,1,false,[.rsl (Qg s.stages) 0 s.stages.length,.rsl (rowI s.worth) 0 s.worth.length,.int .i64 s.price,.sl 1 ga 0 me.length 1,.sl 2 gb 0 mu.length 1],false⟩,⟨true,ga,1,true,(rowI me),true⟩,⟨true,gb,1,true,(rowI mu),true⟩,⟨true,0,1,true,[.int .i64 v3_0,.int .i64 v3_1,.rsl (Qs v3_2) 0 v3_2.length],false⟩]⟩):G Try.prog E (WC Try.prog) (f135S0 i s me mu ga gb i1 i11 v3_0 v3_1 v3_2 multiple ok i111 ) :=
 Qm (n:=400) (ds:=[]) (cs:=[]) (live:=[0,1,5,6,7,20,21,22]) (m:=4) (evs:=[.b true,.ld (.agg [.int .i64 te.w,.int .i64 te.to]),.auto,.auto,.ld (.int .i64 e),.v (.int .i64 (iMax (gcdI multiple e) 1)),.v (.tup [.int .i64 ((Xi (Int.tdiv multiple (iMax (gcdI multiple e) 1)) e).1),.bool ((Xi (Int.tdiv multiple (iMax (gcdI multiple e) 1)) e).2)]),.b false,.stop]) (obs:=_) hE.kind (hE.nogh (by kernel_rfl)) Qy (by kernel_rfl) ho hg
theorem p135_0_2 (i:Int) (s:Stl) (me mu:List Int) (ga gb:Nat) (i1:(List Trn)) (i11:Nat) (v3_0:Int) (v3_1:Int) (v3_2:(List Trn)) (multiple:Int) (ok:Bool) (i111:Nat) (e:Int) (e1:Int) (e2:Int) {E:Env} {res:AV} {bs2:List Blk} (hE:LentE Try.prog 135 [.sl 2 gb 0 0 1] res bs2 E) (ho:AllP [(decide ((i111:Int)<(i11:Int)))=false,0≤i∧i<(mu.length:Int),gb=gb,((0+(Int.toNat i)*1)+1)≤(rowI mu).length,gb=gb,0≤i∧i<(me.length:Int),ga=ga,((0+(Int.toNat i)*1)+1)≤(rowI me).length,ga=ga,(v3_0 == 1)=true,Qe Try.prog (.clos 70 [] []) [.agg [.int .i64 v3_0,.int .i64 v3_1,.rsl (Qs v3_2) 0 v3_2.length]] (.int .i64 (totI (⟨v3_0,v3_1,v3_2⟩:Stg))),Qe Try.prog (.clos 197 [] []) [.int .i64 multiple,.int .i64 (totI (⟨v3_0,v3_1,v3_2⟩:Stg))] (.tup [.int .i64 ((Xi multiple (totI (⟨v3_0,v3_1,v3_2⟩:Stg))).1),.bool ((Xi multiple (totI (⟨v3_0,v3_1,v3_2⟩:Stg))).2)]),0≤i∧i<(me.length:Int),ga=ga,((0+(Int.toNat i)*1)+1)≤(Qx (rowI me) (0+(Int.toNat i)*1) [.int .i64 multiple]).length,ga=ga])
 (hr:(.bool ((Xi multiple (totI (⟨v3_0,v3_1,v3_2⟩:Stg))).2))=res) (hb:[⟨true,0,1,false,[.rsl (Qg s.stages) 0 s.stages.length,.rsl (rowI s.worth) 0 s.worth.length,.int .i64 s.price,.sl 1 ga 0 me.length 1,.sl 2 gb 0 mu.length 1],false⟩,⟨true,ga,1,true,(Qx (Qx (rowI me) (0+(Int.toNat i)*1) [.int .i64 multiple]) (0+(Int.toNat i)*1) [.int .i64 ((Xi multiple (totI (⟨v3_0,v3_1,v3_2⟩:Stg))).1)]),true⟩,⟨true,gb,1,true,(Qx (rowI mu) (0+(Int.toNat i)*1) [.int .i64 multiple]),true⟩]=bs2):G Try.prog E (WC Try.prog) (f135S0 i s me mu ga gb i1 i11 v3_0 v3_1 v3_2 multiple ok i111 ) :=
 QN (n:=400) (live:=[4]) (m:=3) (evs:=[.b false,.b true,.v (.int .i64 (totI (⟨v3_0,v3_1,v3_2⟩:Stg))),.v (.tup [.int .i64 ((Xi multiple (totI (⟨v3_0,v3_1,v3_2⟩:Stg))).1),.bool ((Xi multiple (totI (⟨v3_0,v3_1,v3_2⟩:Stg))).2)])]) (obs:=_) hE (hE.nogh (by kernel_rfl)) Try.func135 Qy (by kernel_rfl) ho hr hb
theorem p135_0_3 (i:Int) (s:Stl) (me mu:List Int) (ga gb:Nat) (i1:(List Trn)) (i11:Nat) (v3_0:Int) (v3_1:Int) (v3_2:(List Trn)) (multiple:Int) (ok:Bool) (i111:Nat) (e:Int) (e1:Int) {E:Env} {res:AV} {bs2:List Blk} (hE:LentE Try.prog 135 [.sl 2 gb 0 0 1] res bs2 E) (ho:AllP [(decide ((i111:Int)<(i11:Int)))=false,0≤i∧i<(mu.length:Int),gb=gb,((0+(Int.toNat i)*1)+1)≤(rowI mu).length,gb=gb,0≤i∧i<(me.length:Int),ga=ga,((0+(Int.toNat i)*1)+1)≤(rowI me).length,ga=ga,(v3_0 == 1)=false])
 (hr:(.bool ok)=res) (hb:[⟨true,0,1,false,[.rsl (Qg s.stages) 0 s.stages.length,.rsl (rowI s.worth) 0 s.worth.length,.int .i64 s.price,.sl 1 ga 0 me.length 1,.sl 2 gb 0 mu.length 1],false⟩,⟨true,ga,1,true,(Qx (rowI me) (0+(Int.toNat i)*1) [.int .i64 multiple]),true⟩,⟨true,gb,1,true,(Qx (rowI mu) (0+(Int.toNat i)*1) [.int .i64 multiple]),true⟩]=bs2):G Try.prog E (WC Try.prog) (f135S0 i s me mu ga gb i1 i11 v3_0 v3_1 v3_2 multiple ok i111 ) :=
 QN (n:=400) (live:=[4]) (m:=3) (evs:=[.b false,.b false]) (obs:=_) hE (hE.nogh (by kernel_rfl)) Try.func135 Qy (by kernel_rfl) ho hr hb
theorem f135W0 (i:Int) (s:Stl) (me mu:List Int) (ga gb:Nat) (i1:(List Trn)) (i11:Nat) (v3_0:Int) (v3_1:Int) (v3_2:(List Trn)) (multiple:Int) (ok:Bool) (i111:Nat) {E:Env} {rv:Bool} {me2:List Int} {mu2:List Int} (hE:LentE Try.prog 135 [.sl 2 gb 0 0 1] (.bool rv) [⟨true,0,1,false,[.rsl (Qg s.stages) 0 s.stages.length,.rsl (rowI s.worth) 0 s.worth.length,.int .i64 s.price,.sl 1 ga 0 me.length 1,.sl 2 gb 0 mu.length 1],false⟩,⟨true,ga,1,true,(rowI me2),true⟩,⟨true,gb,1,true,(rowI mu2),true⟩] E)
 (h:(((i111:Int)<(i11:Int)→(∃ te:Trn,i1[i111]?=some te∧(0≤te.to∧(∃ e:Int,me[Int.toNat te.to]?=some e∧((0≤multiple∧0≤e)∧((I6 (Int.tdiv multiple (iMax (gcdI multiple e) 1)))∧((iMax (gcdI multiple e) 1) ≠ 0∧((0≤(Int.tdiv multiple (iMax (gcdI multiple e) 1))∧0<e)∧(((!(Xi (Int.tdiv multiple (iMax (gcdI multiple e) 1)) e).2)=true→rv=false∧me2=me∧mu2=mu)∧((!(Xi (Int.tdiv multiple (iMax (gcdI multiple e) 1)) e).2)=false→((I6 ((i111:Int)+1))∧f135G0 E i s me mu ga gb i1 i11 v3_0 v3_1 v3_2 ((Xi (Int.tdiv multiple (iMax (gcdI multiple e) 1)) e).1) ((Xi (Int.tdiv multiple (iMax (gcdI multiple e) 1)) e).2) (i111+1))))))))))))∧(¬ ((i111:Int)<(i11:Int))→(0≤i∧(∃ e:Int,mu[Int.toNat i]?=some e∧(0≤i∧(∃ e1:Int,me[Int.toNat i]?=some e1∧((v3_0=1→((TotOk (⟨v3_0,v3_1,v3_2⟩:Stg))∧((0≤multiple∧0<(totI (⟨v3_0,v3_1,v3_2⟩:Stg)))∧(0≤i∧(∃ e2:Int,(me.set (Int.toNat i) multiple)[Int.toNat i]?=some e2∧rv=(Xi multiple (totI (⟨v3_0,v3_1,v3_2⟩:Stg))).2∧me2=((me.set (Int.toNat i) multiple).set (Int.toNat i) ((Xi multiple (totI (⟨v3_0,v3_1,v3_2⟩:Stg))).1))∧mu2=(mu.set (Int.toNat i) multiple))))))∧(¬ (v3_0=1)→rv=ok∧me2=(me.set (Int.toNat i) multiple)∧mu2=(mu.set (Int.toNat i) multiple)))))))))):f135G0 E i s me mu ga gb i1 i11 v3_0 v3_1 v3_2 multiple ok i111:=by
 rcases bft (decide ((i111:Int)<(i11:Int))) with hc0 | hc0
 · have h:=h.1 (odt hc0)
   obtain ⟨te,h1,h⟩:=h
   obtain ⟨h3,h⟩:=h
   obtain ⟨e,h2,h⟩:=h
   obtain ⟨h4,h⟩:=h
   obtain ⟨q11_1,h⟩:=h
   obtain ⟨q12_1,h⟩:=h
   obtain ⟨h5,h⟩:=h
   rcases bft (!(Xi (Int.tdiv multiple (iMax (gcdI multiple e) 1)) e).2) with hc1 | hc1
   · have h:=h.1 hc1
     obtain ⟨qe0,qe1,qe2⟩:=h
     exact p135_0_0 i s me mu ga gb i1 i11 v3_0 v3_1 v3_2 multiple ok i111 te e hE ⟨hc0,(Qz h1),(rp cTrn 2 0 2 h1),(by decide),(Qo h3 h2),rfl,rfl,(rp cI 1 0 1 h2),(u198 (qu multiple e h4)),q11_1,q12_1,(u197 (Vw (Int.tdiv multiple (iMax (gcdI multiple e) 1)) e h5)),hc1,trivial⟩ (by rw [qe0]; try rfl) (by rw [qe1,qe2]; all_goals (first | rfl | (simp only [List.length_set]; done) | (simp only [List.length_set]; rfl)))
   · have h:=h.2 hc1
     obtain ⟨q15_2,h⟩:=h
     exact p135_0_1 i s me mu ga gb i1 i11 v3_0 v3_1 v3_2 multiple ok i111 te e hE ⟨hc0,(Qz h1),(rp cTrn 2 0 2 h1),(by decide),(Qo h3 h2),rfl,rfl,(rp cI 1 0 1 h2),(u198 (qu multiple e h4)),q11_1,q12_1,(u197 (Vw (Int.tdiv multiple (iMax (gcdI multiple e) 1)) e h5)),hc1,q15_2,trivial⟩ h
 · have h:=h.2 (odf hc0)
   obtain ⟨h2,h⟩:=h
   obtain ⟨e,h1,h⟩:=h
   obtain ⟨h4,h⟩:=h
   obtain ⟨e1,h3,h⟩:=h
   rcases bft (v3_0 == 1) with hc1 | hc1
   · have h:=h.1 (eq_of_beq hc1)
     obtain ⟨h5,h⟩:=h
     obtain ⟨h6,h⟩:=h
     obtain ⟨h8,h⟩:=h
     obtain ⟨e2,h7,h⟩:=h
     obtain ⟨qe0,qe1,qe2⟩:=h
     exact p135_0_2 i s me mu ga gb i1 i11 v3_0 v3_1 v3_2 multiple ok i111 e e1 e2 hE ⟨hc0,(Qo h2 h1),rfl,(rf cI 1 0 1 h1),rfl,(Qo h4 h3),rfl,(rf cI 1 0 1 h3),rfl,hc1,(u70 (qC (⟨v3_0,v3_1,v3_2⟩:Stg) h5)),(u197 (Vw multiple (totI (⟨v3_0,v3_1,v3_2⟩:Stg)) h6)),(by have hx:=Qo h8 h7; simpa using hx),rfl,(by rw [(show Qx (rowI me) (0+(Int.toNat i)*1) [.int .i64 multiple]=rowI (me.set (Int.toNat i) multiple) from QH cI (s:=1) (k:=0) (fun _=>rfl) h3 rfl (by first | decide | simp))]; exact rf cI 1 0 1 h7),rfl,trivial⟩ (by rw [qe0]; try rfl) (by rw [qe1,qe2]; rw [(show Qx (rowI me) (0+(Int.toNat i)*1) [.int .i64 multiple]=rowI (me.set (Int.toNat i) multiple) from QH cI (s:=1) (k:=0) (fun _=>rfl) h3 rfl (by first | decide | simp))]; rw [(show Qx (rowI (me.set (Int.toNat i) multiple)) (0+(Int.toNat i)*1) [.int .i64 ((Xi multiple (totI (⟨v3_0,v3_1,v3_2⟩:Stg))).1)]=rowI ((me.set (Int.toNat i) multiple).set (Int.toNat i) ((Xi multiple (totI (⟨v3_0,v3_1,v3_2⟩:Stg))).1)) from QH cI (s:=1) (k:=0) (fun _=>rfl) h7 rfl (by first | decide | simp))]; rw [(show Qx (rowI mu) (0+(Int.toNat i)*1) [.int .i64 multiple]=rowI (mu.set (Int.toNat i) multiple) from QH cI (s:=1) (k:=0) (fun _=>rfl) h1 rfl (by first | decide | simp))]; all_goals (first | rfl | (simp only [List.length_set]; done) | (simp only [List.length_set]; rfl)))
   · have h:=h.2 (ne_of_beq_false hc1)
     obtain ⟨qe0,qe1,qe2⟩:=h
     exact p135_0_3 i s me mu ga gb i1 i11 v3_0 v3_1 v3_2 multiple ok i111 e e1 hE ⟨hc0,(Qo h2 h1),rfl,(rf cI 1 0 1 h1),rfl,(Qo h4 h3),rfl,(rf cI 1 0 1 h3),rfl,hc1,trivial⟩ (by rw [qe0]; try rfl) (by rw [qe1,qe2]; rw [(show Qx (rowI me) (0+(Int.toNat i)*1) [.int .i64 multiple]=rowI (me.set (Int.toNat i) multiple) from QH cI (s:=1) (k:=0) (fun _=>rfl) h3 rfl (by first | decide | simp))]; rw [(show Qx (rowI mu) (0+(Int.toNat i)*1) [.int .i64 multiple]=rowI (mu.set (Int.toNat i) multiple) from QH cI (s:=1) (k:=0) (fun _=>rfl) h1 rfl (by first | decide | simp))]; all_goals (first | rfl | (simp only [List.length_set]; done) | (simp only [List.length_set]; rfl)))
theorem gcdF_dvd:∀ {n:Nat} {a b:Int},0≤a→0≤b→b<n→gcdF n a b∣a∧gcdF n a b∣b
 | 0,a,b,_,hb,h=>by omega
 | n+1,a,b,ha,hb,h=>by
  simp only [gcdF]
  split
  · rename_i h0
    have t0:=Int.tmod_nonneg b ha
    have t1:=Int.tmod_lt_of_pos a h0
    obtain ⟨d1,d2⟩:=gcdF_dvd (n:=n) hb t0 (by omega)
    generalize gcdF n b (Int.tmod a b)=g at d1 d2
    obtain ⟨x,hx⟩:=d1
    obtain ⟨y,hy⟩:=d2
    refine ⟨⟨x*Int.tdiv a b+y,?_⟩,⟨x,hx⟩⟩
    rw [Int.mul_add,← Int.mul_assoc,← hx,← hy]
    exact (Int.mul_tdiv_add_tmod a b).symm
  · have:b=0:=by omega
    subst this
    exact ⟨⟨1,by omega⟩,⟨0,by omega⟩⟩
theorem gcd_dvd {a b:Int} (ha:0≤a) (hb:0≤b):gcdI a b∣a∧gcdI a b∣b:=gcdF_dvd ha hb (by omega)
theorem gcd_pos {a b:Int} (ha:0<a) (hb:0≤b):0<gcdI a b:=by
 have h1:=gcd_nonneg (a:=a) (b:=b) (by omega) hb
 obtain ⟨x,hx⟩:=(gcd_dvd (a:=a) (b:=b) (by omega) hb).1
 rcases Int.lt_or_eq_of_le h1 with h | h
 · exact h
 · rw [← h] at hx; omega
/-- The least common multiple,by and by. -/
theorem lcm_eq {m n:Int} (hm:0<m) (hn:0<n):Int.tdiv m (gcdI m n)*n=m*Int.tdiv n (gcdI m n)∧0<Int.tdiv n (gcdI m n)∧Int.tdiv n (gcdI m n)≤n∧0<Int.tdiv m (gcdI m n)∧Int.tdiv m (gcdI m n)≤m:=by
 have hg:=gcd_pos (b:=n) hm (by omega)
 obtain ⟨d1,d2⟩:=gcd_dvd (a:=m) (b:=n) (by omega) (by omega)
 generalize gcdI m n=g at hg d1 d2
 obtain ⟨x,rfl⟩:=d1
 obtain ⟨y,rfl⟩:=d2
 have hx:0<x:=by
  rcases Int.lt_or_le 0 x with h | h
  · exact h
  · have:=Int.mul_nonpos_of_nonneg_of_nonpos (show 0≤g by omega) h; omega
 have hy:0<y:=by
  rcases Int.lt_or_le 0 y with h | h
  · exact h
  · have:=Int.mul_nonpos_of_nonneg_of_nonpos (show 0≤g by omega) h; omega
 have ex:Int.tdiv (g*x) g=x:=Int.mul_tdiv_cancel_left x (by omega)
 have ey:Int.tdiv (g*y) g=y:=Int.mul_tdiv_cancel_left y (by omega)
 rw [ex,ey]
 have bx:1*x≤g*x:=Int.mul_le_mul_of_nonneg_right (by omega) (by omega)
 have by':1*y≤g*y:=Int.mul_le_mul_of_nonneg_right (by omega) (by omega)
 refine ⟨by rw [Int.mul_comm g x,Int.mul_assoc],hy,by omega,hx,by omega⟩
def lcmI (m n:Int):Int:=m*Int.tdiv n (gcdI m n)
def Vg (me:List Int):Int→List Trn→Option Int
 | m,[]=>some m
 | m,t :: r=>if lcmI m (me.getD (Int.toNat t.to) 0) > 1000000000000 then none else Vg me (lcmI m (me.getD (Int.toNat t.to) 0)) r
def QK (x:Stg) (i:Nat) (me mu:List Int):Bool × List Int × List Int:=match Vg me 1 x.turns with
 | none=>(false,me,mu)
 | some m=>if x.kind=1 then ((Xi m (totI x)).2,me.set i (Xi m (totI x)).1,mu.set i m) else (true,me.set i m,mu.set i m)
/-- The stages behind 'i' have their measures. -/
structure MeOk (s:Stl) (i:Nat) (me:List Int):Prop where
 len:me.length=s.stages.length
 pos:∀ (j:Nat) (v:Int),i<j→me[j]?=some v→0<v∧v≤1000000000000
theorem lcm_pos {m n:Int} (hm:0<m) (hn:0<n):0<lcmI m n:=Int.mul_pos hm (lcm_eq hm hn).2.1
theorem prod_lcm {m n:Int} (hm:0<m) (hn:0<n):Xi (Int.tdiv m (iMax (gcdI m n) 1)) n=if lcmI m n > 1000000000000 then (0,false) else (lcmI m n,true):=by
 have hg:=gcd_pos (b:=n) hm (by omega)
 have e:iMax (gcdI m n) 1=gcdI m n:=by simp only [iMax]; split <;> omega
 obtain ⟨l1,l2,l3,l4,l5⟩:=lcm_eq hm hn
 rw [e]
 rcases prod_of (a:=Int.tdiv m (gcdI m n)) (b:=n) (by omega) hn with ⟨h1,h2⟩ | ⟨h1,h2⟩
 · rw [h1,if_pos (by rw [lcmI,← l1]; exact h2)]
 · rw [h1,if_neg (by rw [lcmI,← l1]; omega),lcmI,l1]
theorem trn_of {lo hi i:Int} {n:Nat} {t:Trn} (h:Xo lo hi i n t=true):(lo≤t.w∧t.w≤hi)∧i+1≤t.to∧t.to≤(n:Int) - 1:=by
 simp only [Xo,Bool.and_eq_true] at h
 exact ⟨QJ.1 h.1,QJ.1 h.2⟩
theorem YX {s:Stl} {i:Nat} {x:Stg} (hi:s.stages[i]?=some x) (h:XC s i=true):(x.kind=4∧x.turns=[]∧(-1≤x.prize∧x.prize≤(s.worth.length:Int) - 1)) ∨
 ((1≤x.kind∧x.kind≤3)∧x.prize=0∧(1≤x.turns.length∧x.turns.length≤8)∧(∀ t ∈ x.turns,(i:Int)+1≤t.to∧t.to≤(s.stages.length:Int) - 1)∧(x.kind=1→∀ t ∈ x.turns,1≤t.w∧t.w≤100)∧(x.kind ≠ 1→∀ t ∈ x.turns,t.w=0)):=by
 rw [XC,hi] at h
 simp only [qE] at h
 split at h
 · rename_i h1
   simp only [Bool.and_eq_true,decide_eq_true_eq] at h
   exact .inl ⟨h1,List.length_eq_zero_iff.1 h.1,QJ.1 h.2⟩
 · simp only [Bool.and_eq_true,decide_eq_true_eq] at h
   obtain ⟨h1,h2,h3,h4⟩:=h
   rw [List.all_eq_true] at h4
   have w:=QJ.1 h3
   refine .inr ⟨QJ.1 h1,h2,by omega,fun t ht=>(trn_of (h4 t ht)).2,fun hk t ht=>?_,fun hk t ht=>?_⟩
   · have:=(trn_of (h4 t ht)).1
     rw [if_pos hk,if_pos hk] at this; exact this
   · have:=(trn_of (h4 t ht)).1
     rw [if_neg hk,if_neg hk] at this; omega
theorem tot_of {s:Stl} {i:Nat} {x:Stg} (hi:s.stages[i]?=some x) (h:XC s i=true):TotOk x∧(x.kind=1→0<totI x∧totI x≤800):=by
 rcases YX hi h with ⟨h1,h2,-⟩ | ⟨h1,h2,h3,h4,h5,h6⟩
 · refine ⟨⟨by rw [h2]; simp,by rw [h2]; simp⟩,fun h=>by omega⟩
 · refine ⟨⟨by omega,fun t ht=>?_⟩,fun hk=>?_⟩
   · by_cases hk:x.kind=1
     · have:=h5 hk t ht; omega
     · have:=h6 hk t ht; omega
   · have b:=tot_bd (l:=x.turns) (B:=100) fun t ht=>by have:=h5 hk t ht; omega
     obtain ⟨t,r,ht⟩:∃ t r,x.turns=t :: r:=by
      cases e:x.turns with
      | nil=>rw [e] at h3; simp at h3
      | cons t r=>exact ⟨t,r,rfl⟩
     have b1:=h5 hk t (by rw [ht]; simp)
     have b2:=tot_bd (l:=r) (B:=100) fun t' ht'=>by have:=h5 hk t' (by rw [ht]; simp [ht']); omega
     rw [totI]
     have:(x.turns.map (·.w)).sum=t.w+(r.map (·.w)).sum:=by rw [ht]; simp
     omega
theorem measure_ok (s:Stl) (i:Nat) (me mu:List Int) (ga gb:Nat) (h:i<s.stages.length∧XC s i=true∧MeOk s i me∧mu.length=s.stages.length) :
 Lent Try.prog 135 [.ptr 0 0 0,.int .i64 (i:Int)] [⟨true,0,1,false,[.rsl (Qg s.stages) 0 s.stages.length,.rsl (rowI s.worth) 0 s.worth.length,.int .i64 s.price,.sl 1 ga 0 me.length 1,.sl 2 gb 0 mu.length 1],false⟩,⟨true,ga,1,true,rowI me,true⟩,⟨true,gb,1,true,rowI mu,true⟩]
  (.bool (QK (s.stages.getD i ⟨0,0,[]⟩) i me mu).1) [⟨true,0,1,false,[.rsl (Qg s.stages) 0 s.stages.length,.rsl (rowI s.worth) 0 s.worth.length,.int .i64 s.price,.sl 1 ga 0 me.length 1,.sl 2 gb 0 mu.length 1],false⟩,⟨true,ga,1,true,rowI (QK (s.stages.getD i ⟨0,0,[]⟩) i me mu).2.1,true⟩,⟨true,gb,1,true,rowI (QK (s.stages.getD i ⟨0,0,[]⟩) i me mu).2.2,true⟩]:=by
 refine lent_of _ Try.func135 f135b rfl rfl fun E hE=>?_
 obtain ⟨hi',hf,hme,hmu⟩:=h
 have hi:s.stages[i]?=some s.stages[i]:=List.getElem?_eq_getElem hi'
 have hx:s.stages.getD i ⟨0,0,[]⟩=s.stages[i]:=by simp [List.getD,hi]
 rw [hx] at hE
 have hto:=tot_of hi hf
 have hfo:=YX hi hf
 generalize s.stages[i]=x at hi hx hE hto hfo
 have en:Int.toNat (i:Int)=i:=by omega
 have hmi:mu[i]?=some mu[i]:=List.getElem?_eq_getElem (by omega)
 have hei:me[i]?=some (me[i]'(by rw [hme.len]; exact hi')):=List.getElem?_eq_getElem (by rw [hme.len]; exact hi')
 have key:∀ (d k:Nat) (m:Int) (ok:Bool),k+d=x.turns.length→(0<m∧m≤1000000000000)→ok=true→Vg me 1 x.turns=Vg me m (x.turns.drop k)→f135G0 E i s me mu ga gb x.turns x.turns.length x.kind x.prize x.turns m ok k:=by
  intro d
  induction d with
  | zero =>
   intro k m ok hd hm ho hk
   rw [List.drop_eq_nil_of_le (by omega),Vg] at hk
   refine f135W0 i s me mu ga gb x.turns x.turns.length x.kind x.prize x.turns m ok k (rv:=(QK x i me mu).1) (me2:=(QK x i me mu).2.1) (mu2:=(QK x i me mu).2.2) hE ⟨fun h=>by omega,fun _=>⟨by omega,_,by rw [en]; exact hmi,by omega,_,by rw [en]; exact hei,fun hk1=>⟨hto.1,by have:=hto.2 hk1; exact ⟨by omega,this.1⟩,by omega,m,?_,?_,?_,?_⟩,fun hk1=>⟨?_,?_,?_⟩⟩⟩
   · rw [en,List.getElem?_set_self (by rw [hme.len]; exact hi')]
   · simp only [QK,hk,if_pos hk1]
   · simp only [QK,hk,if_pos hk1,en,List.set_set]
   · simp only [QK,hk,if_pos hk1,en]
   · simp only [QK,hk,if_neg hk1,ho]
   · simp only [QK,hk,if_neg hk1,en]
   · simp only [QK,hk,if_neg hk1,en]
  | succ d ih =>
   intro k m ok hd hm ho hk
   have hkk:x.turns[k]?=some x.turns[k]:=List.getElem?_eq_getElem (by omega)
   rw [List.drop_eq_getElem_cons (by omega)] at hk
   have htm:=List.mem_of_getElem? hkk
   generalize x.turns[k]=t at hk hkk htm
   have ht:(i:Int)+1≤t.to∧t.to≤(s.stages.length:Int) - 1:=by
    rcases hfo with ⟨-,h2,-⟩ | ⟨-,-,-,h4,-,-⟩
    · rw [h2] at htm; simp at htm
    · exact h4 t htm
   have htl:x.turns.length≤8:=by
    rcases hfo with ⟨-,h2,-⟩ | ⟨-,-,h3,-,-,-⟩
    · rw [h2]; simp
    · exact h3.2
   have hg:me[Int.toNat t.to]?=some (me.getD (Int.toNat t.to) 0):=by simp [List.getD,show Int.toNat t.to<me.length by rw [hme.len]; omega]
   have hv:=hme.pos _ _ (by omega) hg
   simp only [Vg] at hk
   generalize me.getD (Int.toNat t.to) 0=n at hg hv hk
   have pl:=prod_lcm hm.1 hv.1
   have lp:=lcm_pos hm.1 hv.1
   obtain ⟨l1,l2,l3,l4,l5⟩:=lcm_eq hm.1 hv.1
   have hgp:=gcd_pos (b:=n) hm.1 (by omega)
   have e:iMax (gcdI m n) 1=gcdI m n:=by simp only [iMax]; split <;> omega
   refine f135W0 i s me mu ga gb x.turns x.turns.length x.kind x.prize x.turns m ok k (rv:=(QK x i me mu).1) (me2:=(QK x i me mu).2.1) (mu2:=(QK x i me mu).2.2) hE ⟨fun _=>⟨t,hkk,by omega,n,hg,⟨by omega,by omega⟩,by rw [e]; omega,by rw [e]; omega,⟨by rw [e]; omega,hv.1⟩,fun h1=>?_,fun h1=>⟨by omega,?_⟩⟩,fun h=>by omega⟩
   · rw [pl] at h1
     split at h1
     · rename_i h2
       rw [if_pos h2] at hk
       simp [QK,hk]
     · simp at h1
   · rw [pl] at h1 ⊢
     split at h1
     · simp at h1
     · rename_i h2
       rw [if_neg h2] at hk
       simp only [if_neg h2]
       exact ih (k+1) (lcmI m n) true (by omega) (by omega) rfl hk
 refine f135W i s me mu ga gb (rv:=(QK x i me mu).1) (me2:=(QK x i me mu).2.1) (mu2:=(QK x i me mu).2.2) hE ⟨by omega,x,by rw [en]; exact hi,key x.turns.length 0 1 true (by omega) (by omega) rfl (by simp)⟩
theorem meas_next {s:Stl} {i:Nat} {x:Stg} {me mu:List Int} (hi:s.stages[i]?=some x) (hf:XC s i=true) (hme:MeOk s i me) (h:(QK x i me mu).1=true) :
 (QK x i me mu).2.1.length=s.stages.length∧(QK x i me mu).2.2.length=mu.length∧∀ (j:Nat) (v:Int),i≤j→(QK x i me mu).2.1[j]?=some v→0<v∧v≤1000000000000:=by
 have hlt:=(List.getElem?_eq_some_iff.1 hi).1
 have hto:=tot_of hi hf
 have hfo:=YX hi hf
 have mb:∀ (l:List Trn) (m m':Int),(∀ t ∈ l,t ∈ x.turns)→(0<m∧m≤1000000000000)→Vg me m l=some m'→0<m'∧m'≤1000000000000:=by
  intro l
  induction l with
  | nil=>intro m m' _ hm h; simp only [Vg,Option.some.injEq] at h; subst h; exact hm
  | cons t l ih =>
   intro m m' hl hm h
   have htm:=hl t (by simp)
   have ht:(i:Int)+1≤t.to∧t.to≤(s.stages.length:Int) - 1:=by
    rcases hfo with ⟨-,h2,-⟩ | ⟨-,-,-,h4,-,-⟩
    · rw [h2] at htm; simp at htm
    · exact h4 t htm
   have hg:me[Int.toNat t.to]?=some (me.getD (Int.toNat t.to) 0):=by simp [List.getD,show Int.toNat t.to<me.length by rw [hme.len]; omega]
   have hv:=hme.pos _ _ (by omega) hg
   simp only [Vg] at h
   split at h
   · cases h
   · exact ih _ _ (fun t ht=>hl t (by simp [ht])) ⟨lcm_pos hm.1 hv.1,by omega⟩ h
 have fin:∀ (w:Int),0<w∧w≤1000000000000→∀ (j:Nat) (v:Int),i≤j→(me.set i w)[j]?=some v→0<v∧v≤1000000000000:=fun w hw j v hj hv=>by
  by_cases e:i=j
  · subst e
    rw [List.getElem?_set_self (by rw [hme.len]; exact hlt)] at hv
    cases hv; exact hw
  · rw [List.getElem?_set_ne e] at hv
    exact hme.pos j v (by omega) hv
 cases hm:Vg me 1 x.turns with
 | none=>simp [QK,hm] at h
 | some m =>
  have hb:=mb x.turns 1 m (fun _ h=>h) (by omega) hm
  simp only [QK,hm] at h ⊢
  by_cases hk:x.kind=1
  · simp only [if_pos hk] at h ⊢
    have ht:=hto.2 hk
    refine ⟨by simp [hme.len],by simp,fin _ ?_⟩
    rcases prod_of (a:=m) (b:=totI x) (by omega) ht.1 with ⟨h1,h2⟩ | ⟨h1,h2⟩
    · rw [h1] at h; cases h
    · rw [h1]; exact ⟨Int.mul_pos hb.1 ht.1,h2⟩
  · simp only [if_neg hk] at h ⊢
    exact ⟨by simp [hme.len],by simp,fin _ hb⟩
/-- All measures,from the stage before 'i' on. -/
def measN (s:Stl):Nat→List Int→List Int→Option (List Int × List Int)
 | 0,me,mu=>some (me,mu)
 | i+1,me,mu=>if (QK (s.stages.getD i ⟨0,0,[]⟩) i me mu).1=true then measN s i (QK (s.stages.getD i ⟨0,0,[]⟩) i me mu).2.1 (QK (s.stages.getD i ⟨0,0,[]⟩) i me mu).2.2 else none
def WR (n:Nat):List Int:=List.replicate n 0
def measA (s:Stl):Option (List Int × List Int):=measN s s.stages.length (WR s.stages.length) (WR s.stages.length)
end Go.Proofs.Ytemklbioijmjiaa
namespace Go.Proofs.Ytemklbioijmjiaa
open Go Ax
open Go.Proofs
theorem Wq (s:Stl) (i:Int) (me mu:List Int) (ga gb:Nat) (h:0≤i∧Int.toNat i<s.stages.length∧XC s (Int.toNat i)=true∧MeOk s (Int.toNat i) me∧mu.length=s.stages.length) :
 Lent Try.prog 135 [.ptr 0 0 0,.int .i64 i] [⟨true,0,1,false,[.rsl (Qg s.stages) 0 s.stages.length,.rsl (rowI s.worth) 0 s.worth.length,.int .i64 s.price,.sl 1 ga 0 me.length 1,.sl 2 gb 0 mu.length 1],false⟩,⟨true,ga,1,true,rowI me,true⟩,⟨true,gb,1,true,rowI mu,true⟩]
  (.bool (QK (s.stages.getD (Int.toNat i) ⟨0,0,[]⟩) (Int.toNat i) me mu).1) [⟨true,0,1,false,[.rsl (Qg s.stages) 0 s.stages.length,.rsl (rowI s.worth) 0 s.worth.length,.int .i64 s.price,.sl 1 ga 0 me.length 1,.sl 2 gb 0 mu.length 1],false⟩,⟨true,ga,1,true,rowI (QK (s.stages.getD (Int.toNat i) ⟨0,0,[]⟩) (Int.toNat i) me mu).2.1,true⟩,⟨true,gb,1,true,rowI (QK (s.stages.getD (Int.toNat i) ⟨0,0,[]⟩) (Int.toNat i) me mu).2.2,true⟩]:=by
 have:=measure_ok s (Int.toNat i) me mu ga gb h.2
 rwa [show ((Int.toNat i:Nat):Int)=i by have:=h.1; omega] at this
theorem measK_len1 {x:Stg} {i:Nat} {me mu:List Int}:(QK x i me mu).2.1.length=me.length:=by
 simp only [QK]; split
 · rfl
 · split <;> simp
theorem measK_len2 {x:Stg} {i:Nat} {me mu:List Int}:(QK x i me mu).2.2.length=mu.length:=by
 simp only [QK]; split
 · rfl
 · split <;> simp
theorem f65b:Try.f65.body=some (Qc Try.prog 65):=by kernel_rfl
theorem u65 {a c k:List AV} {r:AV} (h:Pure Try.prog 65 (a++c++k) r):Qe Try.prog (.clos 65 a k) c r:=Qr Try.func65 (by kernel_rfl) f65b h
def f65K0 (P:Program):List Item:=kAt 400 [.code (Qc P 65)] [.b false,.stop]
def f65S0 (s:Stl) (i:Nat):St:=⟨([J,.ptr 0 0 0,J,J,.int .i64 (s.stages.length:Int)]++jj 30 ([.int .i64 (s.stages.length:Int),.int .i64 (i:Int)]++Js 25)),[⟨true,0,1,true,[.rsl (Qg s.stages) 0 s.stages.length,.rsl (rowI s.worth) 0 s.worth.length,.int .i64 s.price],false⟩]⟩
def f65G0 (E:Env) (s:Stl) (i:Nat):Prop:=G Try.prog E (f65K0 Try.prog) (f65S0 s i )
def f65K1 (P:Program):List Item:=kAt 400 [.code (Qc P 65)] [.b false,.b false,.stop]
def f65S1 (s:Stl) (v1:List Int) (v2:List Int) (i:Int) (g1:Nat) (g2:Nat):St:=⟨(jj 7 ([.ptr 3 0 0,.int .i64 i]++Js 53)),[⟨true,0,1,true,[.rsl (Qg s.stages) 0 s.stages.length,.rsl (rowI s.worth) 0 s.worth.length,.int .i64 s.price],false⟩,⟨true,g1,1,true,(rowI v1),true⟩,⟨true,g2,1,true,(rowI v2),true⟩,⟨true,0,1,false,[.rsl (Qg s.stages) 0 s.stages.length,.rsl (rowI s.worth) 0 s.worth.length,.int .i64 s.price,.sl 1 g1 0 v1.length 1,.sl 2 g2 0 v2.length 1],false⟩]⟩
def f65G1 (E:Env) (s:Stl) (v1:List Int) (v2:List Int) (i:Int):Prop:=∀ g1 g2:Nat,G Try.prog E (f65K1 Try.prog) (f65S1 s v1 v2 i g1 g2)
theorem p65_start_0 (s:Stl) {E:Env} {res:AV} (hE:Qj Try.prog 65 res E) (ho:AllP [Qe Try.prog (.clos 69 [] []) [.int .i64 (s.stages.length:Int),.int .i64 1,.int .i64 60] (.bool (Qf (s.stages.length:Int) 1 60)),(!(Qf (s.stages.length:Int) 1 60))=true,true=true,true=true,true=true])
 (hr:AvLe (.tup [.nilPtr,.bool false]) res):G Try.prog E [.code (Qc Try.prog 65)] ⟨[.agg [.rsl (Qg s.stages) 0 s.stages.length,.rsl (rowI s.worth) 0 s.worth.length,.int .i64 s.price]]++unds (Try.f65.ntmps - 1),[]⟩ :=
 Qb (n:=400) (evs:=[.v (.bool (Qf (s.stages.length:Int) 1 60)),.b true,.b true,.b true,.b true]) (obs:=_) hE Try.func65 Qy (by kernel_rfl) ho hr
theorem p65_start_1 (s:Stl) {E:Env} {res:AV} (hE:Qj Try.prog 65 res E) (ho:AllP [Qe Try.prog (.clos 69 [] []) [.int .i64 (s.stages.length:Int),.int .i64 1,.int .i64 60] (.bool (Qf (s.stages.length:Int) 1 60)),(!(Qf (s.stages.length:Int) 1 60))=false,(decide ((s.worth.length:Int) > 8))=true,true=true,true=true])
 (hr:AvLe (.tup [.nilPtr,.bool false]) res):G Try.prog E [.code (Qc Try.prog 65)] ⟨[.agg [.rsl (Qg s.stages) 0 s.stages.length,.rsl (rowI s.worth) 0 s.worth.length,.int .i64 s.price]]++unds (Try.f65.ntmps - 1),[]⟩ :=
 Qb (n:=400) (evs:=[.v (.bool (Qf (s.stages.length:Int) 1 60)),.b false,.b true,.b true,.b true]) (obs:=_) hE Try.func65 Qy (by kernel_rfl) ho hr
theorem p65_start_2 (s:Stl) {E:Env} {res:AV} (hE:Qj Try.prog 65 res E) (ho:AllP [Qe Try.prog (.clos 69 [] []) [.int .i64 (s.stages.length:Int),.int .i64 1,.int .i64 60] (.bool (Qf (s.stages.length:Int) 1 60)),(!(Qf (s.stages.length:Int) 1 60))=false,(decide ((s.worth.length:Int) > 8))=false,Qe Try.prog (.clos 76 [] []) [.rsl (rowI s.worth) 0 s.worth.length,.clos 133 [] []] (.bool (s.worth.any (fun n=>!Qf n 0 10000))),(s.worth.any (fun n=>!Qf n 0 10000))=true,true=true])
 (hr:AvLe (.tup [.nilPtr,.bool false]) res):G Try.prog E [.code (Qc Try.prog 65)] ⟨[.agg [.rsl (Qg s.stages) 0 s.stages.length,.rsl (rowI s.worth) 0 s.worth.length,.int .i64 s.price]]++unds (Try.f65.ntmps - 1),[]⟩ :=
 Qb (n:=400) (evs:=[.v (.bool (Qf (s.stages.length:Int) 1 60)),.b false,.b false,.v (.bool (s.worth.any (fun n=>!Qf n 0 10000))),.b true,.b true]) (obs:=_) hE Try.func65 Qy (by kernel_rfl) ho hr
theorem p65_start_3 (s:Stl) {E:Env} {res:AV} (hE:Qj Try.prog 65 res E) (ho:AllP [Qe Try.prog (.clos 69 [] []) [.int .i64 (s.stages.length:Int),.int .i64 1,.int .i64 60] (.bool (Qf (s.stages.length:Int) 1 60)),(!(Qf (s.stages.length:Int) 1 60))=false,(decide ((s.worth.length:Int) > 8))=false,Qe Try.prog (.clos 76 [] []) [.rsl (rowI s.worth) 0 s.worth.length,.clos 133 [] []] (.bool (s.worth.any (fun n=>!Qf n 0 10000))),(s.worth.any (fun n=>!Qf n 0 10000))=false,Qe Try.prog (.clos 133 [] []) [.int .i64 s.price] (.bool (!Qf s.price 0 10000)),(!Qf s.price 0 10000)=true])
 (hr:AvLe (.tup [.nilPtr,.bool false]) res):G Try.prog E [.code (Qc Try.prog 65)] ⟨[.agg [.rsl (Qg s.stages) 0 s.stages.length,.rsl (rowI s.worth) 0 s.worth.length,.int .i64 s.price]]++unds (Try.f65.ntmps - 1),[]⟩ :=
 Qb (n:=400) (evs:=[.v (.bool (Qf (s.stages.length:Int) 1 60)),.b false,.b false,.v (.bool (s.worth.any (fun n=>!Qf n 0 10000))),.b false,.v (.bool (!Qf s.price 0 10000)),.b true]) (obs:=_) hE Try.func65 Qy (by kernel_rfl) ho hr
theorem p65_start_4 (s:Stl) {E:Env} {rv:AV} (hE:Qj Try.prog 65 rv E) (ho:AllP [Qe Try.prog (.clos 69 [] []) [.int .i64 (s.stages.length:Int),.int .i64 1,.int .i64 60] (.bool (Qf (s.stages.length:Int) 1 60)),(!(Qf (s.stages.length:Int) 1 60))=false,(decide ((s.worth.length:Int) > 8))=false,Qe Try.prog (.clos 76 [] []) [.rsl (rowI s.worth) 0 s.worth.length,.clos 133 [] []] (.bool (s.worth.any (fun n=>!Qf n 0 10000))),(s.worth.any (fun n=>!Qf n 0 10000))=false,Qe Try.prog (.clos 133 [] []) [.int .i64 s.price] (.bool (!Qf s.price 0 10000)),(!Qf s.price 0 10000)=false])
 (hg:G Try.prog E (f65K0 Try.prog) ⟨([J,.ptr 0 0 0,J,J,.int .i64 (s.stages.length:Int)]++jj 30 ([.int .i64 (s.stages.length:Int),.int .i64 0]++Js 25)),[⟨true,0,1,true,[.rsl (Qg s.stages) 0 s.stages.length,.rsl (rowI s.worth) 0 s.worth.length,.int .i64 s.price],false⟩]⟩):G Try.prog E [.code (Qc Try.prog 65)] ⟨[.agg [.rsl (Qg s.stages) 0 s.stages.length,.rsl (rowI s.worth) 0 s.worth.length,.int .i64 s.price]]++unds (Try.f65.ntmps - 1),[]⟩ :=
 Qm (n:=400) (ds:=[]) (cs:=[]) (live:=[1,4,35,36]) (m:=1) (evs:=[.v (.bool (Qf (s.stages.length:Int) 1 60)),.b false,.b false,.v (.bool (s.worth.any (fun n=>!Qf n 0 10000))),.b false,.v (.bool (!Qf s.price 0 10000)),.b false,.stop]) (obs:=_) hE.2.1 (hE.nogh _) Qy (by kernel_rfl) ho hg
theorem f65W (s:Stl) {E:Env} {rv:AV} (hE:Qj Try.prog 65 rv E)
 (h:(((Qf (s.stages.length:Int) 1 60)=false→rv=(.tup [.nilPtr,.bool false]))∧((Qf (s.stages.length:Int) 1 60)=true→(((s.worth.length:Int) > 8→rv=(.tup [.nilPtr,.bool false]))∧(¬ ((s.worth.length:Int) > 8)→((s.worth.length≤9223372036854775807)∧(((s.worth.any (fun n=>!Qf n 0 10000))=true→rv=(.tup [.nilPtr,.bool false]))∧((s.worth.any (fun n=>!Qf n 0 10000))=false→(((!Qf s.price 0 10000)=true→rv=(.tup [.nilPtr,.bool false]))∧((!Qf s.price 0 10000)=false→f65G0 E s 0)))))))))):G Try.prog E [.code (Qc Try.prog 65)] ⟨[.agg [.rsl (Qg s.stages) 0 s.stages.length,.rsl (rowI s.worth) 0 s.worth.length,.int .i64 s.price]]++unds (Try.f65.ntmps - 1),[]⟩:=by
 rcases bft (!(Qf (s.stages.length:Int) 1 60)) with hc0 | hc0
 · have h:=h.1 (bnT hc0)
   exact p65_start_0 s hE ⟨(u69 (QG (s.stages.length:Int) 1 60)),hc0,rfl,rfl,rfl,trivial⟩ (AvLe.of_eq (by rw [h]; try rfl))
 · have h:=h.2 (bnF hc0)
   rcases bft (decide ((s.worth.length:Int) > 8)) with hc1 | hc1
   · have h:=h.1 (odt hc1)
     exact p65_start_1 s hE ⟨(u69 (QG (s.stages.length:Int) 1 60)),hc0,hc1,rfl,rfl,trivial⟩ (AvLe.of_eq (by rw [h]; try rfl))
   · have h:=h.2 (odf hc1)
     obtain ⟨h1,h⟩:=h
     rcases bft (s.worth.any (fun n=>!Qf n 0 10000)) with hc2 | hc2
     · have h:=h.1 hc2
       exact p65_start_2 s hE ⟨(u69 (QG (s.stages.length:Int) 1 60)),hc0,hc1,(u76 (anyB_ok s.worth h1)),hc2,rfl,trivial⟩ (AvLe.of_eq (by rw [h]; try rfl))
     · have h:=h.2 hc2
       rcases bft (!Qf s.price 0 10000) with hc3 | hc3
       · have h:=h.1 hc3
         exact p65_start_3 s hE ⟨(u69 (QG (s.stages.length:Int) 1 60)),hc0,hc1,(u76 (anyB_ok s.worth h1)),hc2,(u133 (bad_ok s.price)),hc3,trivial⟩ (AvLe.of_eq (by rw [h]; try rfl))
       · have h:=h.2 hc3
         exact p65_start_4 s hE ⟨(u69 (QG (s.stages.length:Int) 1 60)),hc0,hc1,(u76 (anyB_ok s.worth h1)),hc2,(u133 (bad_ok s.price)),hc3,trivial⟩ h
theorem p65_0_0 (s:Stl) (i:Nat) {E:Env} {res:AV} (hE:Qj Try.prog 65 res E) (ho:AllP [(decide ((i:Int)<(s.stages.length:Int)))=true,Qe Try.prog (.clos 134 [] []) [.agg [.rsl (Qg s.stages) 0 s.stages.length,.rsl (rowI s.worth) 0 s.worth.length,.int .i64 s.price],.int .i64 (i:Int)] (.bool (XC s i)),(!(XC s i))=true])
 (hr:AvLe (.tup [.nilPtr,.bool false]) res):G Try.prog E (f65K0 Try.prog) (f65S0 s i ) :=
 Qb (n:=400) (evs:=[.b true,.v (.bool (XC s i)),.b true]) (obs:=_) hE Try.func65 Qy (by kernel_rfl) ho hr
theorem p65_0_1 (s:Stl) (i:Nat) {E:Env} {rv:AV} (hE:Qj Try.prog 65 rv E) (ho:AllP [(decide ((i:Int)<(s.stages.length:Int)))=true,Qe Try.prog (.clos 134 [] []) [.agg [.rsl (Qg s.stages) 0 s.stages.length,.rsl (rowI s.worth) 0 s.worth.length,.int .i64 s.price],.int .i64 (i:Int)] (.bool (XC s i)),(!(XC s i))=false,InR .i64 ((i:Int)+1)])
 (hg:G Try.prog E (f65K0 Try.prog) ⟨([J,.ptr 0 0 0,J,J,.int .i64 (s.stages.length:Int)]++jj 30 ([.int .i64 (s.stages.length:Int),.int .i64 ((i:Int)+1)]++Js 25)),[⟨true,0,1,true,[.rsl (Qg s.stages) 0 s.stages.length,.rsl (rowI s.worth) 0 s.worth.length,.int .i64 s.price],false⟩]⟩):G Try.prog E (f65K0 Try.prog) (f65S0 s i ) :=
 Qm (n:=400) (ds:=[]) (cs:=[]) (live:=[1,4,35,36]) (m:=1) (evs:=[.b true,.v (.bool (XC s i)),.b false,.stop]) (obs:=_) hE.2.1 (hE.nogh _) Qy (by kernel_rfl) ho hg
theorem p65_0_2 (s:Stl) (i:Nat) {E:Env} {rv:AV} (hE:Qj Try.prog 65 rv E) (ho:AllP [(decide ((i:Int)<(s.stages.length:Int)))=false,0≤(s.stages.length:Int)∧(s.stages.length:Int)≤(s.stages.length:Int)∧(s.stages.length:Int)≤2147483648,0≤(s.stages.length:Int)∧(s.stages.length:Int)≤(s.stages.length:Int)∧(s.stages.length:Int)≤2147483648,InR .i64 ((s.stages.length:Int) - 1)])
 (hg:G Try.prog E (f65K1 Try.prog) ⟨(jj 7 ([.ptr 3 0 0,.int .i64 ((s.stages.length:Int) - 1)]++Js 53)),[⟨true,0,1,true,[.rsl (Qg s.stages) 0 s.stages.length,.rsl (rowI s.worth) 0 s.worth.length,.int .i64 s.price],false⟩,⟨true,0,1,true,((List.replicate (Int.toNat (s.stages.length:Int)) ([.int .i64 0]:List AV)).flatten),true⟩,⟨true,0,1,true,((List.replicate (Int.toNat (s.stages.length:Int)) ([.int .i64 0]:List AV)).flatten),true⟩,⟨true,0,1,false,[.rsl (Qg s.stages) 0 s.stages.length,.rsl (rowI s.worth) 0 s.worth.length,.int .i64 s.price,.sl 1 0 0 (Int.toNat (s.stages.length:Int)) 1,.sl 2 0 0 (Int.toNat (s.stages.length:Int)) 1],false⟩]⟩):G Try.prog E (f65K0 Try.prog) (f65S0 s i ) :=
 Qm (n:=400) (ds:=[]) (cs:=[]) (live:=[7,8]) (m:=4) (evs:=[.b false,.stop]) (obs:=_) hE.2.1 (hE.nogh _) Qy (by kernel_rfl) ho hg
theorem f65W0 (s:Stl) (i:Nat) {E:Env} {rv:AV} (hE:Qj Try.prog 65 rv E)
 (h:(((i:Int)<(s.stages.length:Int)→((i<s.stages.length∧s.stages.length≤1000000∧s.worth.length≤1000000)∧(((XC s i)=false→rv=(.tup [.nilPtr,.bool false]))∧((XC s i)=true→((I6 ((i:Int)+1))∧f65G0 E s (i+1))))))∧(¬ ((i:Int)<(s.stages.length:Int))→(s.stages.length≤2147483648∧(s.stages.length≤2147483648∧((I6 ((s.stages.length:Int) - 1))∧f65G1 E s (List.replicate s.stages.length (0:Int)) (List.replicate s.stages.length (0:Int)) ((s.stages.length:Int) - 1))))))):f65G0 E s i:=by
 rcases bft (decide ((i:Int)<(s.stages.length:Int))) with hc0 | hc0
 · have h:=h.1 (odt hc0)
   obtain ⟨h1,h⟩:=h
   rcases bft (!(XC s i)) with hc1 | hc1
   · have h:=h.1 (bnT hc1)
     exact p65_0_0 s i hE ⟨hc0,(u134 (formed_ok s i h1)),hc1,trivial⟩ (AvLe.of_eq (by rw [h]; try rfl))
   · have h:=h.2 (bnF hc1)
     obtain ⟨q3_2,h⟩:=h
     exact p65_0_1 s i hE ⟨hc0,(u134 (formed_ok s i h1)),hc1,q3_2,trivial⟩ h
 · have h:=h.2 (odf hc0)
   obtain ⟨h1,h⟩:=h
   obtain ⟨h2,h⟩:=h
   obtain ⟨q3_1,h⟩:=h
   refine p65_0_2 s i hE ⟨hc0,⟨by omega,by omega,by have:=h1; omega⟩,⟨by omega,by omega,by have:=h2; omega⟩,q3_1,trivial⟩ ?_
   have h:=(h 0 0)
   simp only [f65G1,f65S1,List.length_set,List.length_replicate] at h
   rw [(show (List.replicate (Int.toNat (s.stages.length:Int)) ([.int .i64 0]:List AV)).flatten=rowI (List.replicate s.stages.length (0:Int)) from Wf cI _ _)]
   exact h
theorem p65_1_0 (s:Stl) (v1:List Int) (v2:List Int) (i:Int) (g1:Nat) (g2:Nat) {E:Env} {res:AV} (hE:Qj Try.prog 65 res E) (ho:AllP [(decide (i≥0))=true,YS Try.prog (.clos 135 [] []) [.ptr 0 0 0,.int .i64 i] [⟨true,0,1,false,[.rsl (Qg s.stages) 0 s.stages.length,.rsl (rowI s.worth) 0 s.worth.length,.int .i64 s.price,.sl 1 g1 0 v1.length 1,.sl 2 g2 0 v2.length 1],false⟩,⟨true,g1,1,true,(rowI v1),true⟩,⟨true,g2,1,true,(rowI v2),true⟩] (.bool ((QK (s.stages.getD (Int.toNat i) ⟨0,0,[]⟩) (Int.toNat i) v1 v2).1)) [⟨true,0,1,false,[.rsl (Qg s.stages) 0 s.stages.length,.rsl (rowI s.worth) 0 s.worth.length,.int .i64 s.price,.sl 1 g1 0 v1.length 1,.sl 2 g2 0 v2.length 1],false⟩,⟨true,g1,1,true,(rowI (QK (s.stages.getD (Int.toNat i) ⟨0,0,[]⟩) (Int.toNat i) v1 v2).2.1),true⟩,⟨true,g2,1,true,(rowI (QK (s.stages.getD (Int.toNat i) ⟨0,0,[]⟩) (Int.toNat i) v1 v2).2.2),true⟩],(!(QK (s.stages.getD (Int.toNat i) ⟨0,0,[]⟩) (Int.toNat i) v1 v2).1)=true])
 (hr:AvLe (.tup [.nilPtr,.bool false]) res):G Try.prog E (f65K1 Try.prog) (f65S1 s v1 v2 i g1 g2) :=
 Qb (n:=400) (evs:=[.b true,.lent [3,1,2] (.bool ((QK (s.stages.getD (Int.toNat i) ⟨0,0,[]⟩) (Int.toNat i) v1 v2).1)) [⟨true,0,1,false,[.rsl (Qg s.stages) 0 s.stages.length,.rsl (rowI s.worth) 0 s.worth.length,.int .i64 s.price,.sl 1 g1 0 v1.length 1,.sl 2 g2 0 v2.length 1],false⟩,⟨true,g1,1,true,(rowI (QK (s.stages.getD (Int.toNat i) ⟨0,0,[]⟩) (Int.toNat i) v1 v2).2.1),true⟩,⟨true,g2,1,true,(rowI (QK (s.stages.getD (Int.toNat i) ⟨0,0,[]⟩) (Int.toNat i) v1 v2).2.2),true⟩],.b true]) (obs:=_) hE Try.func65 Qy (by kernel_rfl) ho hr
theorem p65_1_1 (s:Stl) (v1:List Int) (v2:List Int) (i:Int) (g1:Nat) (g2:Nat) {E:Env} {rv:AV} (hE:Qj Try.prog 65 rv E) (ho:AllP [(decide (i≥0))=true,YS Try.prog (.clos 135 [] []) [.ptr 0 0 0,.int .i64 i] [⟨true,0,1,false,[.rsl (Qg s.stages) 0 s.stages.length,.rsl (rowI s.worth) 0 s.worth.length,.int .i64 s.price,.sl 1 g1 0 v1.length 1,.sl 2 g2 0 v2.length 1],false⟩,⟨true,g1,1,true,(rowI v1),true⟩,⟨true,g2,1,true,(rowI v2),true⟩] (.bool ((QK (s.stages.getD (Int.toNat i) ⟨0,0,[]⟩) (Int.toNat i) v1 v2).1)) [⟨true,0,1,false,[.rsl (Qg s.stages) 0 s.stages.length,.rsl (rowI s.worth) 0 s.worth.length,.int .i64 s.price,.sl 1 g1 0 v1.length 1,.sl 2 g2 0 v2.length 1],false⟩,⟨true,g1,1,true,(rowI (QK (s.stages.getD (Int.toNat i) ⟨0,0,[]⟩) (Int.toNat i) v1 v2).2.1),true⟩,⟨true,g2,1,true,(rowI (QK (s.stages.getD (Int.toNat i) ⟨0,0,[]⟩) (Int.toNat i) v1 v2).2.2),true⟩],(!(QK (s.stages.getD (Int.toNat i) ⟨0,0,[]⟩) (Int.toNat i) v1 v2).1)=false,InR .i64 (i - 1)])
 (hg:G Try.prog E (f65K1 Try.prog) ⟨(jj 7 ([.ptr 3 0 0,.int .i64 (i - 1)]++Js 53)),[⟨true,0,1,true,[.rsl (Qg s.stages) 0 s.stages.length,.rsl (rowI s.worth) 0 s.worth.length,.int .i64 s.price],false⟩,⟨true,g1,1,true,(rowI (QK (s.stages.getD (Int.toNat i) ⟨0,0,[]⟩) (Int.toNat i) v1 v2).2.1),true⟩,⟨true,g2,1,true,(rowI (QK (s.stages.getD (Int.toNat i) ⟨0,0,[]⟩) (Int.toNat i) v1 v2).2.2),true⟩,⟨true,0,1,false,[.rsl (Qg s.stages) 0 s.stages.length,.rsl (rowI s.worth) 0 s.worth.length,.int .i64 s.price,.sl 1 g1 0 v1.length 1,.sl 2 g2 0 v2.length 1],false⟩]⟩):G Try.prog E (f65K1 Try.prog) (f65S1 s v1 v2 i g1 g2) :=
 Qm (n:=400) (ds:=[]) (cs:=[]) (live:=[7,8]) (m:=4) (evs:=[.b true,.lent [3,1,2] (.bool ((QK (s.stages.getD (Int.toNat i) ⟨0,0,[]⟩) (Int.toNat i) v1 v2).1)) [⟨true,0,1,false,[.rsl (Qg s.stages) 0 s.stages.length,.rsl (rowI s.worth) 0 s.worth.length,.int .i64 s.price,.sl 1 g1 0 v1.length 1,.sl 2 g2 0 v2.length 1],false⟩,⟨true,g1,1,true,(rowI (QK (s.stages.getD (Int.toNat i) ⟨0,0,[]⟩) (Int.toNat i) v1 v2).2.1),true⟩,⟨true,g2,1,true,(rowI (QK (s.stages.getD (Int.toNat i) ⟨0,0,[]⟩) (Int.toNat i) v1 v2).2.2),true⟩],.b false,.stop]) (obs:=_) hE.2.1 (hE.nogh _) Qy (by kernel_rfl) ho hg
theorem p65_1_2 (s:Stl) (v1:List Int) (v2:List Int) (i:Int) (g1:Nat) (g2:Nat) {E:Env} {res:AV} (hE:Qj Try.prog 65 res E) (ho:AllP [(decide (i≥0))=false,g1=g1,g2=g2])
 (hr:AvLe (.tup [.rptr [.rsl (Qg s.stages) 0 s.stages.length,.rsl (rowI s.worth) 0 s.worth.length,.int .i64 s.price,.rsl (rowI v1) 0 v1.length,.rsl (rowI v2) 0 v2.length] 0,.bool true]) res):G Try.prog E (f65K1 Try.prog) (f65S1 s v1 v2 i g1 g2) :=
 Qb (n:=400) (evs:=[.b false]) (obs:=_) hE Try.func65 Qy (by kernel_rfl) ho hr
theorem f65W1 (s:Stl) (v1:List Int) (v2:List Int) (i:Int) {E:Env} {rv:AV} (hE:Qj Try.prog 65 rv E)
 (h:((i≥0→((0≤i∧(Int.toNat i)<s.stages.length∧XC s (Int.toNat i)=true∧MeOk s (Int.toNat i) v1∧v2.length=s.stages.length)∧(((!(QK (s.stages.getD (Int.toNat i) ⟨0,0,[]⟩) (Int.toNat i) v1 v2).1)=true→rv=(.tup [.nilPtr,.bool false]))∧((!(QK (s.stages.getD (Int.toNat i) ⟨0,0,[]⟩) (Int.toNat i) v1 v2).1)=false→((I6 (i - 1))∧f65G1 E s ((QK (s.stages.getD (Int.toNat i) ⟨0,0,[]⟩) (Int.toNat i) v1 v2).2.1) ((QK (s.stages.getD (Int.toNat i) ⟨0,0,[]⟩) (Int.toNat i) v1 v2).2.2) (i - 1))))))∧(¬ (i≥0)→rv=(.tup [.rptr [.rsl (Qg s.stages) 0 s.stages.length,.rsl (rowI s.worth) 0 s.worth.length,.int .i64 s.price,.rsl (rowI v1) 0 v1.length,.rsl (rowI v2) 0 v2.length] 0,.bool true])))):f65G1 E s v1 v2 i:=by
 intro g1 g2
 rcases bft (decide (i≥0)) with hc0 | hc0
 · have h:=h.1 (odt hc0)
   obtain ⟨h1,h⟩:=h
   rcases bft (!(QK (s.stages.getD (Int.toNat i) ⟨0,0,[]⟩) (Int.toNat i) v1 v2).1) with hc1 | hc1
   · have h:=h.1 hc1
     exact p65_1_0 s v1 v2 i g1 g2 hE ⟨hc0,(Xu Try.func135 (by kernel_rfl) f135b (Wq s i v1 v2 g1 g2 h1)),hc1,trivial⟩ (AvLe.of_eq (by rw [h]; try rfl))
   · have h:=h.2 hc1
     obtain ⟨q3_2,h⟩:=h
     refine p65_1_1 s v1 v2 i g1 g2 hE ⟨hc0,(Xu Try.func135 (by kernel_rfl) f135b (Wq s i v1 v2 g1 g2 h1)),hc1,q3_2,trivial⟩ ?_
     have h:=(h g1 g2)
     simp only [f65G1,f65S1,List.length_set,measK_len1,measK_len2] at h
     skip
     exact h
 · have h:=h.2 (odf hc0)
   exact p65_1_2 s v1 v2 i g1 g2 hE ⟨hc0,rfl,rfl,trivial⟩ (AvLe.of_eq (by rw [h]; try rfl))
/-- What a stall has to be before it is measured. -/
def Vr (s:Stl):Bool:=Qf s.stages.length 1 60 && (decide ((s.worth.length:Int)≤8) && (!(s.worth.any fun n=>!Qf n 0 10000) && (Qf s.price 0 10000 && (List.range s.stages.length).all (XC s))))
def XK (s:Stl):Option Mch:=if Vr s=true then (measA s).map fun p=>⟨s,p.1,p.2⟩ else none
def Ql (s:Stl):Mch:=(XK s).getD ⟨s,[],[]⟩
def Vh (s:Stl):AV:=match XK s with
 | some m=>.tup [.rptr (cMch m) 0,.bool true]
 | none=>.tup [.nilPtr,.bool false]
theorem XP {s:Stl} (h:Vr s=true):(1≤s.stages.length∧s.stages.length≤60)∧s.worth.length≤8∧(∀ n ∈ s.worth,0≤n∧n≤10000)∧(0≤s.price∧s.price≤10000)∧∀ i,i<s.stages.length→XC s i=true:=by
 simp only [Vr,Bool.and_eq_true,decide_eq_true_eq,Bool.not_eq_true'] at h
 obtain ⟨h1,h2,h3,h4,h5⟩:=h
 have w1:=QJ.1 h1
 refine ⟨by omega,by omega,fun n hn=>?_,QJ.1 h4,fun i hi=>?_⟩
 · have:=(List.any_eq_false.1 h3) n hn
   exact QJ.1 (by simpa using this)
 · exact List.all_eq_true.1 h5 i (List.mem_range.2 hi)
theorem range_all {p:Nat→Bool} {n i:Nat} (hi:i<n) (h:p i=false):(List.range n).all p=false:=by
 rw [List.all_eq_false]; exact ⟨i,List.mem_range.2 hi,by simp [h]⟩
theorem Vf (s:Stl) (h:s.stages.length≤9223372036854775807∧s.worth.length≤9223372036854775807):Pure Try.prog 65 [.agg [.rsl (Qg s.stages) 0 s.stages.length,.rsl (rowI s.worth) 0 s.worth.length,.int .i64 s.price]] (Vh s):=QF Try.func65 f65b fun E hE=>by
 have no:Vr s=false→Vh s=.tup [.nilPtr,.bool false]:=fun h=>by simp [Vh,XK,h]
 refine f65W s (rv:=Vh s) hE ⟨fun h1=>no (by simp [Vr,h1]),fun h1=>⟨fun h2=>no (by simp [Vr,show ¬ ((s.worth.length:Int)≤8) by omega]),fun h2=>⟨h.2,fun h3=>no (by simp only [Vr,h3]; simp),fun h3=>⟨fun h4=>no (by simp at h4; simp [Vr,h4]),fun h4=>?_⟩⟩⟩⟩
 have hn:=QJ.1 h1
 have loop2:Vr s=true→∀ (n:Nat) (me mu:List Int),n≤s.stages.length→me.length=s.stages.length→mu.length=s.stages.length→(∀ (j:Nat) (v:Int),n≤j→me[j]?=some v→0<v∧v≤1000000000000)→measA s=measN s n me mu→f65G1 E s me mu ((n:Int) - 1):=by
  intro hp n
  obtain ⟨-,-,-,-,hform⟩:=XP hp
  induction n with
  | zero =>
   intro me mu hn hl hl2 hpos hk
   exact f65W1 s me mu _ (rv:=Vh s) hE ⟨fun h=>by omega,fun _=>by simp [Vh,XK,hp,hk,measN,cMch]⟩
  | succ i ih =>
   intro me mu hn hl hl2 hpos hk
   have hi:s.stages[i]?=some s.stages[i]:=List.getElem?_eq_getElem (by omega)
   have hx:s.stages.getD i ⟨0,0,[]⟩=s.stages[i]:=by simp [List.getD,hi]
   have hf:=hform i (by omega)
   have hme:MeOk s i me:=⟨hl,fun j v hj hv=>hpos j v hj hv⟩
   have hnx:=fun hh=>meas_next (mu:=mu) hi hf hme hh
   have en:Int.toNat (((i+1:Nat):Int) - 1)=i:=by omega
   have ei:((i+1:Nat):Int) - 1 - 1=(i:Int) - 1:=by omega
   simp only [measN] at hk
   refine f65W1 s me mu _ (rv:=Vh s) hE ⟨fun _=>⟨⟨by omega,by rw [en]; omega,by rw [en]; exact hf,by rw [en]; exact hme,hl2⟩,fun h5=>?_,fun h5=>⟨by omega,?_⟩⟩,fun h=>by omega⟩
   · rw [en] at h5
     rw [if_neg (by simp at h5; simp [h5])] at hk
     simp [Vh,XK,hp,hk]
   · rw [en] at h5 ⊢
     rw [ei]
     rw [hx] at h5 hk ⊢
     have t1:(QK s.stages[i] i me mu).1=true:=by simpa using h5
     rw [if_pos t1] at hk
     have q:=hnx t1
     exact ih _ _ (by omega) q.1 (by rw [q.2.1]; exact hl2) q.2.2 hk
 have loop1:∀ (d i:Nat),i+d=s.stages.length→(∀ j,j<i→XC s j=true)→f65G0 E s i:=by
  intro d
  induction d with
  | zero =>
   intro i hd hall
   have hp:Vr s=true:=by
    simp only [Vr,Bool.and_eq_true,decide_eq_true_eq,Bool.not_eq_true']
    exact ⟨h1,by omega,h3,by simpa using h4,List.all_eq_true.2 fun j hj=>hall j (by have:=List.mem_range.1 hj; omega)⟩
   exact f65W0 s i (rv:=Vh s) hE ⟨fun h=>by omega,fun _=>⟨by omega,by omega,by omega,loop2 hp s.stages.length (WR s.stages.length) (WR s.stages.length) (Nat.le_refl _) (by simp [WR]) (by simp [WR]) (fun j v hj hv=>by
    have:=(List.getElem?_eq_some_iff.1 hv).1
    simp [WR] at this; omega) rfl⟩⟩
  | succ d ih =>
   intro i hd hall
   refine f65W0 s i (rv:=Vh s) hE ⟨fun _=>⟨⟨by omega,by omega,by omega⟩,fun h5=>no ?_,fun h5=>⟨by omega,ih (i+1) (by omega) (fun j hj=>?_)⟩⟩,fun h=>by omega⟩
   · rw [Vr,range_all (n:=s.stages.length) (by omega) h5]; simp
   · rcases Nat.lt_or_ge j i with h | h
     · exact hall j h
     · rw [show j=i by omega]; exact h5
 exact loop1 s.stages.length 0 (by omega) (fun j hj=>by omega)
theorem YV (s:Stl) (h:s.stages.length≤9223372036854775807∧s.worth.length≤9223372036854775807) (hc:(XK s).isSome=true):Pure Try.prog 65 [.agg [.rsl (Qg s.stages) 0 s.stages.length,.rsl (rowI s.worth) 0 s.worth.length,.int .i64 s.price]] (.tup [.rptr (cMch (Ql s)) 0,.bool true]):=by
 have:=Vf s h
 obtain ⟨m,hm⟩:=Option.isSome_iff_exists.1 hc
 rw [show Vh s=.tup [.rptr (cMch (Ql s)) 0,.bool true] by simp [Vh,Ql,hm]] at this
 exact this
theorem Wp (s:Stl) (h:s.stages.length≤9223372036854775807∧s.worth.length≤9223372036854775807) (hc:(XK s).isSome=false):Pure Try.prog 65 [.agg [.rsl (Qg s.stages) 0 s.stages.length,.rsl (rowI s.worth) 0 s.worth.length,.int .i64 s.price]] (.tup [.nilPtr,.bool false]):=by
 have:=Vf s h
 rw [show Vh s=.tup [.nilPtr,.bool false] by
  cases hm:XK s with
  | none=>simp [Vh,hm]
  | some m=>rw [hm] at hc; simp at hc] at this
 exact this
theorem f21b:Try.f21.body=some (Qc Try.prog 21):=by kernel_rfl
theorem u21 {a c k:List AV} {r:AV} (h:Pure Try.prog 21 (a++c++k) r):Qe Try.prog (.clos 21 a k) c r:=Qr Try.func21 (by kernel_rfl) f21b h
theorem p21_start_0 (s:Stl) {E:Env} {res:AV} (hE:Qj Try.prog 21 res E) (ho:AllP [Qe Try.prog (.clos 65 [] []) [.agg [.rsl (Qg s.stages) 0 s.stages.length,.rsl (rowI s.worth) 0 s.worth.length,.int .i64 s.price]] (.tup [.rptr [.rsl (Qg (((Ql s).s).stages)) 0 ((((Ql s).s).stages).length),.rsl (rowI (((Ql s).s).worth)) 0 ((((Ql s).s).worth).length),.int .i64 (((Ql s).s).price),.rsl (rowI ((Ql s).meas)) 0 (((Ql s).meas).length),.rsl (rowI ((Ql s).mult)) 0 (((Ql s).mult).length)] 0,.bool true]),false=false])
 (hr:AvLe (.int .i64 0) res):G Try.prog E [.code (Qc Try.prog 21)] ⟨[.agg [.rsl (Qg s.stages) 0 s.stages.length,.rsl (rowI s.worth) 0 s.worth.length,.int .i64 s.price]]++unds (Try.f21.ntmps - 1),[]⟩ :=
 Qb (n:=400) (evs:=[.v (.tup [.rptr [.rsl (Qg (((Ql s).s).stages)) 0 ((((Ql s).s).stages).length),.rsl (rowI (((Ql s).s).worth)) 0 ((((Ql s).s).worth).length),.int .i64 (((Ql s).s).price),.rsl (rowI ((Ql s).meas)) 0 (((Ql s).meas).length),.rsl (rowI ((Ql s).mult)) 0 (((Ql s).mult).length)] 0,.bool true]),.b false]) (obs:=_) hE Try.func21 Qy (by kernel_rfl) ho hr
theorem p21_start_1 (s:Stl) {E:Env} {res:AV} (hE:Qj Try.prog 21 res E) (ho:AllP [Qe Try.prog (.clos 65 [] []) [.agg [.rsl (Qg s.stages) 0 s.stages.length,.rsl (rowI s.worth) 0 s.worth.length,.int .i64 s.price]] (.tup [.nilPtr,.bool false]),true=true])
 (hr:AvLe (.int .i64 60) res):G Try.prog E [.code (Qc Try.prog 21)] ⟨[.agg [.rsl (Qg s.stages) 0 s.stages.length,.rsl (rowI s.worth) 0 s.worth.length,.int .i64 s.price]]++unds (Try.f21.ntmps - 1),[]⟩ :=
 Qb (n:=400) (evs:=[.v (.tup [.nilPtr,.bool false]),.b true]) (obs:=_) hE Try.func21 Qy (by kernel_rfl) ho hr
theorem f21W (s:Stl) {E:Env} {rv:Int} (hE:Qj Try.prog 21 (.int .i64 rv) E)
 (h:((((XK s).isSome)=true→((s.stages.length≤9223372036854775807∧s.worth.length≤9223372036854775807)∧rv=0))∧(((XK s).isSome)=false→((s.stages.length≤9223372036854775807∧s.worth.length≤9223372036854775807)∧rv=60)))):G Try.prog E [.code (Qc Try.prog 21)] ⟨[.agg [.rsl (Qg s.stages) 0 s.stages.length,.rsl (rowI s.worth) 0 s.worth.length,.int .i64 s.price]]++unds (Try.f21.ntmps - 1),[]⟩:=by
 rcases bft ((XK s).isSome) with hc0 | hc0
 · have h:=h.1 hc0
   obtain ⟨h1,h⟩:=h
   exact p21_start_0 s hE ⟨(u65 (YV s h1 hc0)),rfl,trivial⟩ (AvLe.of_eq (by rw [h]; try rfl))
 · have h:=h.2 hc0
   obtain ⟨h1,h⟩:=h
   exact p21_start_1 s hE ⟨(u65 (Wp s h1 hc0)),rfl,trivial⟩ (AvLe.of_eq (by rw [h]; try rfl))
def Xb (s:Stl):Int:=if (XK s).isSome=true then 0 else 60
theorem Wc (s:Stl) (h:s.stages.length≤9223372036854775807∧s.worth.length≤9223372036854775807):Pure Try.prog 21 [.agg [.rsl (Qg s.stages) 0 s.stages.length,.rsl (rowI s.worth) 0 s.worth.length,.int .i64 s.price]] (.int .i64 (Xb s)):=QF Try.func21 f21b fun E hE=>by
 refine f21W s (rv:=Xb s) hE ?_
 refine ⟨fun h1=>⟨h,by simp [Xb,h1]⟩,fun h1=>⟨h,by simp [Xb,h1]⟩⟩
end Go.Proofs.Ytemklbioijmjiaa
namespace Go.Proofs.Ytemklbioijmjiaa
open Go Ax
open Go.Proofs
def planI (l:List Int) (i:Int):Int:=l.getD (Int.toNat i) 0
end Go.Proofs.Ytemklbioijmjiaa
namespace Go.Proofs.Ytemklbioijmjiaa
open Go Ax
open Go.Proofs
/-! ### What is so of a machine -/
structure MInv (s:Stl) (i:Nat) (me mu:List Int):Prop where
 l1:me.length=s.stages.length
 l2:mu.length=s.stages.length
 pos:∀ (j:Nat) (v:Int),i≤j→me[j]?=some v→0<v∧v≤1000000000000
 rel:∀ (j:Nat) (x:Stg),i≤j→s.stages[j]?=some x→∃ q,mu[j]?=some q∧me[j]?=some (if x.kind=1 then q*totI x else q)∧(0<q∧q≤1000000000000)∧∀ t ∈ x.turns,me.getD (Int.toNat t.to) 0∣q
theorem getD_set_ne {l:List Int} {i k:Nat} {v:Int} (h:i ≠ k):(l.set i v).getD k 0=l.getD k 0:=by
 simp [List.getD,List.getElem?_set_ne h]
theorem multI_dvd {me:List Int}:∀ {l:List Trn} {m q:Int},(∀ t ∈ l,0<me.getD (Int.toNat t.to) 0)→(0<m∧m≤1000000000000)→Vg me m l=some q→(0<q∧q≤1000000000000)∧m∣q∧∀ t ∈ l,me.getD (Int.toNat t.to) 0∣q
 | [],m,q,_,hm,h=>by
  simp only [Vg,Option.some.injEq] at h; subst h
  exact ⟨hm,Int.dvd_refl _,by simp⟩
 | t :: l,m,q,hp,hm,h=>by
  simp only [Vg] at h
  split at h
  · cases h
  · rename_i h1
    have hv:=hp t (by simp)
    have lp:=lcm_pos hm.1 hv
    obtain ⟨a,b,c⟩:=multI_dvd (fun t ht=>hp t (by simp [ht])) ⟨lp,by omega⟩ h
    have e1:m∣lcmI m (me.getD (Int.toNat t.to) 0):=⟨_,rfl⟩
    have e2:me.getD (Int.toNat t.to) 0∣lcmI m (me.getD (Int.toNat t.to) 0):=⟨Int.tdiv m (gcdI m (me.getD (Int.toNat t.to) 0)),by rw [lcmI,← (lcm_eq hm.1 hv).1,Int.mul_comm]⟩
    refine ⟨a,Int.dvd_trans e1 b,fun t' ht'=>?_⟩
    rcases List.mem_cons.1 ht' with rfl | ht'
    · exact Int.dvd_trans e2 b
    · exact c t' ht'
theorem VY {s:Stl} {i:Nat} {x:Stg} (hi:s.stages[i]?=some x) (hf:XC s i=true):∀ t ∈ x.turns,i<Int.toNat t.to∧Int.toNat t.to<s.stages.length∧0≤t.to:=fun t htm=>by
 rcases YX hi hf with ⟨-,h2,-⟩ | ⟨-,-,-,h4,-,-⟩
 · rw [h2] at htm; simp at htm
 · have:=h4 t htm; omega
theorem minv_step {s:Stl} {i:Nat} {x:Stg} {me mu:List Int} (hform:∀ j,j<s.stages.length→XC s j=true) (hi:s.stages[i]?=some x) (h:MInv s (i+1) me mu) (hk:(QK x i me mu).1=true) :
 MInv s i (QK x i me mu).2.1 (QK x i me mu).2.2:=by
 have hlt:=(List.getElem?_eq_some_iff.1 hi).1
 have hf:=hform i hlt
 obtain ⟨a,b,c⟩:=meas_next (mu:=mu) hi hf ⟨h.l1,fun j v hj=>h.pos j v hj⟩ hk
 have hto:=VY hi hf
 have hpos:∀ t ∈ x.turns,0<me.getD (Int.toNat t.to) 0:=fun t ht=>by
  have h1:=hto t ht
  have hg:me[Int.toNat t.to]?=some (me[Int.toNat t.to]'(by rw [h.l1]; exact h1.2.1)):=List.getElem?_eq_getElem _
  have:=(h.pos _ _ (by omega) hg).1
  simpa [List.getD,hg] using this
 refine ⟨a,by rw [b,h.l2],fun j v hj=>c j v hj,?_⟩
 cases hm:Vg me 1 x.turns with
 | none=>simp [QK,hm] at hk
 | some m =>
  obtain ⟨m1,-,m3⟩:=multI_dvd hpos (by omega) hm
  have hto2:=tot_of hi hf
  have fin:∀ w:Int,w=(if x.kind=1 then m*totI x else m)→∀ (j:Nat) (y:Stg),i≤j→s.stages[j]?=some y→∃ q,(mu.set i m)[j]?=some q∧(me.set i w)[j]?=some (if y.kind=1 then q*totI y else q)∧(0<q∧q≤1000000000000)∧∀ t ∈ y.turns,(me.set i w).getD (Int.toNat t.to) 0∣q:=fun w hw j y hj hy=>by
   by_cases e:i=j
   · subst e
     rw [hi] at hy; cases hy
     refine ⟨m,by rw [List.getElem?_set_self (by rw [h.l2]; exact hlt)],by rw [List.getElem?_set_self (by rw [h.l1]; exact hlt),hw],m1,fun t ht=>?_⟩
     rw [getD_set_ne (by have:=hto t ht; omega)]
     exact m3 t ht
   · obtain ⟨q,q1,q2,q3,q4⟩:=h.rel j y (by omega) hy
     refine ⟨q,by rw [List.getElem?_set_ne e]; exact q1,by rw [List.getElem?_set_ne e]; exact q2,q3,fun t ht=>?_⟩
     have:=VY hy (hform j (List.getElem?_eq_some_iff.1 hy).1) t ht
     rw [getD_set_ne (by omega)]
     exact q4 t ht
  simp only [QK,hm] at hk ⊢
  by_cases hk1:x.kind=1
  · simp only [if_pos hk1] at hk ⊢
    refine fin _ ?_
    rcases prod_of (a:=m) (b:=totI x) (by omega) (hto2.2 hk1).1 with ⟨h1,-⟩ | ⟨h1,-⟩
    · rw [h1] at hk; cases hk
    · rw [h1,if_pos hk1]
  · simp only [if_neg hk1] at hk ⊢
    exact fin _ (by rw [if_neg hk1])
theorem minv_all {s:Stl} (hform:∀ j,j<s.stages.length→XC s j=true):∀ {n:Nat} {me mu:List Int} {r:List Int × List Int},n≤s.stages.length→MInv s n me mu→measN s n me mu=some r→MInv s 0 r.1 r.2
 | 0,me,mu,r,_,h,hr=>by simp only [measN,Option.some.injEq] at hr; subst hr; exact h
 | i+1,me,mu,r,hn,h,hr=>by
  have hi:s.stages[i]?=some s.stages[i]:=List.getElem?_eq_getElem (by omega)
  have hx:s.stages.getD i ⟨0,0,[]⟩=s.stages[i]:=by simp [List.getD,hi]
  simp only [measN,hx] at hr
  split at hr
  · rename_i hk
    exact minv_all hform (by omega) (minv_step hform hi h hk) hr
  · cases hr
structure MOk (m:Mch):Prop where
 st:Vr m.s=true
 inv:MInv m.s 0 m.meas m.mult
theorem mok_of {s:Stl} {m:Mch} (h:XK s=some m):MOk m∧m.s=s:=by
 unfold XK at h
 split at h
 · rename_i hp
   obtain ⟨r,hr,e⟩:=Option.map_eq_some_iff.1 h
   subst e
   refine ⟨⟨hp,?_⟩,rfl⟩
   refine minv_all (XP hp).2.2.2.2 (Nat.le_refl _) ⟨by simp [WR],by simp [WR],fun j v hj hv=>?_,fun j x hj hx=>?_⟩ hr
   · have:=(List.getElem?_eq_some_iff.1 hv).1
     simp [WR] at this; omega
   · have:=(List.getElem?_eq_some_iff.1 hx).1; omega
 · cases h
/-! ### Worths,stage by stage -/
/-! ### Choosers -/
/-! ### Plans -/
def Xn (x:Stg):Int:=if x.kind=2 ∨ x.kind=3 then (x.turns.length:Int) - 1 else 0
def QU (s:Stl) (l:List Int):Bool:=decide (l.length=s.stages.length) && (List.range l.length).all fun i=>Qf (l.getD i 0) 0 (Xn (s.stages.getD i ⟨0,0,[]⟩))
theorem planOk_of {s:Stl} {l:List Int} (h:QU s l=true):l.length=s.stages.length∧∀ (i:Nat) (x:Stg),s.stages[i]?=some x→∃ v,l[i]?=some v∧0≤v∧v≤Xn x:=by
 simp only [QU,Bool.and_eq_true,decide_eq_true_eq] at h
 refine ⟨h.1,fun i x hx=>?_⟩
 have hlt:=(List.getElem?_eq_some_iff.1 hx).1
 have:=List.all_eq_true.1 h.2 i (List.mem_range.2 (by omega))
 have hg:l[i]?=some (l[i]'(by omega)):=List.getElem?_eq_getElem (by omega)
 have:=QJ.1 this
 rw [show l.getD i 0=l[i]'(by omega) by simp [List.getD,hg],show s.stages.getD i ⟨0,0,[]⟩=x by simp [List.getD,hx]] at this
 exact ⟨_,hg,this.1,this.2⟩
theorem getD_some {l:List Int} {i:Nat} (h:i<l.length):l[i]?=some (l.getD i 0):=by
 have hg:l[i]?=some l[i]:=List.getElem?_eq_getElem h
 simp [List.getD,hg]
end Go.Proofs.Ytemklbioijmjiaa
namespace Go.Proofs.Ytemklbioijmjiaa
open Go Ax
open Go.Proofs
theorem f68b:Try.f68.body=some (Qc Try.prog 68):=by kernel_rfl
theorem u68 {a c k:List AV} {r:AV} (h:Pure Try.prog 68 (a++c++k) r):Qe Try.prog (.clos 68 a k) c r:=Qr Try.func68 (by kernel_rfl) f68b h
def VU (P:Program):List Item:=kAt 400 [.code (Qc P 68)] [.b false,.stop]
def f68S0 (l:(List Int)) (m:Mch) (i:Nat):St:=⟨([.rptr [.rsl (Qg m.s.stages) 0 m.s.stages.length,.rsl (rowI m.s.worth) 0 m.s.worth.length,.int .i64 m.s.price,.rsl (rowI m.meas) 0 m.meas.length,.rsl (rowI m.mult) 0 m.mult.length] 0]++jj 17 ([.rsl (rowI l) 0 l.length,.int .i64 (l.length:Int),.int .i64 (i:Int)]++Js 35)),[]⟩
def f68G0 (E:Env) (l:(List Int)) (m:Mch) (i:Nat):Prop:=G Try.prog E (VU Try.prog) (f68S0 l m i )
theorem p68_start_0 (l:(List Int)) (m:Mch) {E:Env} {res:AV} (hE:Qj Try.prog 68 res E) (ho:AllP [((l.length:Int) != (m.s.stages.length:Int))=true])
 (hr:AvLe (.bool false) res):G Try.prog E [.code (Qc Try.prog 68)] ⟨[.rptr [.rsl (Qg m.s.stages) 0 m.s.stages.length,.rsl (rowI m.s.worth) 0 m.s.worth.length,.int .i64 m.s.price,.rsl (rowI m.meas) 0 m.meas.length,.rsl (rowI m.mult) 0 m.mult.length] 0,.rsl (rowI l) 0 l.length]++unds (Try.f68.ntmps - 2),[]⟩ :=
 Qb (n:=400) (evs:=[.b true]) (obs:=_) hE Try.func68 Qy (by kernel_rfl) ho hr
theorem p68_start_1 (l:(List Int)) (m:Mch) {E:Env} {rv:AV} (hE:Qj Try.prog 68 rv E) (ho:AllP [((l.length:Int) != (m.s.stages.length:Int))=false])
 (hg:G Try.prog E (VU Try.prog) ⟨([.rptr [.rsl (Qg m.s.stages) 0 m.s.stages.length,.rsl (rowI m.s.worth) 0 m.s.worth.length,.int .i64 m.s.price,.rsl (rowI m.meas) 0 m.meas.length,.rsl (rowI m.mult) 0 m.mult.length] 0]++jj 17 ([.rsl (rowI l) 0 l.length,.int .i64 (l.length:Int),.int .i64 0]++Js 35)),[]⟩):G Try.prog E [.code (Qc Try.prog 68)] ⟨[.rptr [.rsl (Qg m.s.stages) 0 m.s.stages.length,.rsl (rowI m.s.worth) 0 m.s.worth.length,.int .i64 m.s.price,.rsl (rowI m.meas) 0 m.meas.length,.rsl (rowI m.mult) 0 m.mult.length] 0,.rsl (rowI l) 0 l.length]++unds (Try.f68.ntmps - 2),[]⟩ :=
 Qm (n:=400) (ds:=[]) (cs:=[]) (live:=[0,18,19,20]) (m:=0) (evs:=[.b false,.stop]) (obs:=_) hE.2.1 (hE.nogh _) Qy (by kernel_rfl) ho hg
theorem f68W (l:(List Int)) (m:Mch) {E:Env} {rv:Bool} (hE:Qj Try.prog 68 (.bool rv) E)
 (h:((¬ ((l.length:Int)=(m.s.stages.length:Int))→rv=false)∧((l.length:Int)=(m.s.stages.length:Int)→f68G0 E l m 0))):G Try.prog E [.code (Qc Try.prog 68)] ⟨[.rptr [.rsl (Qg m.s.stages) 0 m.s.stages.length,.rsl (rowI m.s.worth) 0 m.s.worth.length,.int .i64 m.s.price,.rsl (rowI m.meas) 0 m.meas.length,.rsl (rowI m.mult) 0 m.mult.length] 0,.rsl (rowI l) 0 l.length]++unds (Try.f68.ntmps - 2),[]⟩:=by
 rcases bft ((l.length:Int) != (m.s.stages.length:Int)) with hc0 | hc0
 · have h:=h.1 (bneT hc0)
   exact p68_start_0 l m hE ⟨hc0,trivial⟩ (AvLe.of_eq (by rw [h]; try rfl))
 · have h:=h.2 (bneF hc0)
   exact p68_start_1 l m hE ⟨hc0,trivial⟩ h
theorem p68_0_0 (l:(List Int)) (m:Mch) (i:Nat) (e:Int) (se:Stg) {E:Env} {res:AV} (hE:Qj Try.prog 68 res E) (ho:AllP [(decide ((i:Int)<(l.length:Int)))=true,0≤(i:Int)∧(i:Int)<(l.length:Int),((rowI l).drop (0+(Int.toNat (i:Int))*1)).take 1=[.int .i64 e],0≤(i:Int)∧(i:Int)<(m.s.stages.length:Int),((Qg m.s.stages).drop ((0+(Int.toNat (i:Int))*3)+0)).take 1=[.int .i64 se.kind],(se.kind == 2)=true,true=true,0≤(i:Int)∧(i:Int)<(m.s.stages.length:Int),((Qg m.s.stages).drop ((0+(Int.toNat (i:Int))*3)+2)).take 1=[.rsl (Qs se.turns) 0 se.turns.length],InR .i64 ((se.turns.length:Int) - 1),Qe Try.prog (.clos 69 [] []) [.int .i64 e,.int .i64 0,.int .i64 ((se.turns.length:Int) - 1)] (.bool (Qf e 0 ((se.turns.length:Int) - 1))),(!(Qf e 0 ((se.turns.length:Int) - 1)))=true])
 (hr:AvLe (.bool false) res):G Try.prog E (VU Try.prog) (f68S0 l m i ) :=
 Qb (n:=400) (evs:=[.b true,.ld (.int .i64 e),.auto,.ld (.int .i64 se.kind),.b true,.b true,.auto,.ld (.rsl (Qs se.turns) 0 se.turns.length),.v (.bool (Qf e 0 ((se.turns.length:Int) - 1))),.b true]) (obs:=_) hE Try.func68 Qy (by kernel_rfl) ho hr
theorem p68_0_1 (l:(List Int)) (m:Mch) (i:Nat) (e:Int) (se:Stg) {E:Env} {rv:AV} (hE:Qj Try.prog 68 rv E) (ho:AllP [(decide ((i:Int)<(l.length:Int)))=true,0≤(i:Int)∧(i:Int)<(l.length:Int),((rowI l).drop (0+(Int.toNat (i:Int))*1)).take 1=[.int .i64 e],0≤(i:Int)∧(i:Int)<(m.s.stages.length:Int),((Qg m.s.stages).drop ((0+(Int.toNat (i:Int))*3)+0)).take 1=[.int .i64 se.kind],(se.kind == 2)=true,true=true,0≤(i:Int)∧(i:Int)<(m.s.stages.length:Int),((Qg m.s.stages).drop ((0+(Int.toNat (i:Int))*3)+2)).take 1=[.rsl (Qs se.turns) 0 se.turns.length],InR .i64 ((se.turns.length:Int) - 1),Qe Try.prog (.clos 69 [] []) [.int .i64 e,.int .i64 0,.int .i64 ((se.turns.length:Int) - 1)] (.bool (Qf e 0 ((se.turns.length:Int) - 1))),(!(Qf e 0 ((se.turns.length:Int) - 1)))=false,InR .i64 ((i:Int)+1)])
 (hg:G Try.prog E (VU Try.prog) ⟨([.rptr [.rsl (Qg m.s.stages) 0 m.s.stages.length,.rsl (rowI m.s.worth) 0 m.s.worth.length,.int .i64 m.s.price,.rsl (rowI m.meas) 0 m.meas.length,.rsl (rowI m.mult) 0 m.mult.length] 0]++jj 17 ([.rsl (rowI l) 0 l.length,.int .i64 (l.length:Int),.int .i64 ((i:Int)+1)]++Js 35)),[]⟩):G Try.prog E (VU Try.prog) (f68S0 l m i ) :=
 Qm (n:=400) (ds:=[]) (cs:=[]) (live:=[0,18,19,20]) (m:=0) (evs:=[.b true,.ld (.int .i64 e),.auto,.ld (.int .i64 se.kind),.b true,.b true,.auto,.ld (.rsl (Qs se.turns) 0 se.turns.length),.v (.bool (Qf e 0 ((se.turns.length:Int) - 1))),.b false,.stop]) (obs:=_) hE.2.1 (hE.nogh _) Qy (by kernel_rfl) ho hg
theorem p68_0_2 (l:(List Int)) (m:Mch) (i:Nat) (e:Int) (se:Stg) {E:Env} {res:AV} (hE:Qj Try.prog 68 res E) (ho:AllP [(decide ((i:Int)<(l.length:Int)))=true,0≤(i:Int)∧(i:Int)<(l.length:Int),((rowI l).drop (0+(Int.toNat (i:Int))*1)).take 1=[.int .i64 e],0≤(i:Int)∧(i:Int)<(m.s.stages.length:Int),((Qg m.s.stages).drop ((0+(Int.toNat (i:Int))*3)+0)).take 1=[.int .i64 se.kind],(se.kind == 2)=false,(se.kind == 3)=true,0≤(i:Int)∧(i:Int)<(m.s.stages.length:Int),((Qg m.s.stages).drop ((0+(Int.toNat (i:Int))*3)+2)).take 1=[.rsl (Qs se.turns) 0 se.turns.length],InR .i64 ((se.turns.length:Int) - 1),Qe Try.prog (.clos 69 [] []) [.int .i64 e,.int .i64 0,.int .i64 ((se.turns.length:Int) - 1)] (.bool (Qf e 0 ((se.turns.length:Int) - 1))),(!(Qf e 0 ((se.turns.length:Int) - 1)))=true])
 (hr:AvLe (.bool false) res):G Try.prog E (VU Try.prog) (f68S0 l m i ) :=
 Qb (n:=400) (evs:=[.b true,.ld (.int .i64 e),.auto,.ld (.int .i64 se.kind),.b false,.b true,.auto,.ld (.rsl (Qs se.turns) 0 se.turns.length),.v (.bool (Qf e 0 ((se.turns.length:Int) - 1))),.b true]) (obs:=_) hE Try.func68 Qy (by kernel_rfl) ho hr
theorem p68_0_3 (l:(List Int)) (m:Mch) (i:Nat) (e:Int) (se:Stg) {E:Env} {rv:AV} (hE:Qj Try.prog 68 rv E) (ho:AllP [(decide ((i:Int)<(l.length:Int)))=true,0≤(i:Int)∧(i:Int)<(l.length:Int),((rowI l).drop (0+(Int.toNat (i:Int))*1)).take 1=[.int .i64 e],0≤(i:Int)∧(i:Int)<(m.s.stages.length:Int),((Qg m.s.stages).drop ((0+(Int.toNat (i:Int))*3)+0)).take 1=[.int .i64 se.kind],(se.kind == 2)=false,(se.kind == 3)=true,0≤(i:Int)∧(i:Int)<(m.s.stages.length:Int),((Qg m.s.stages).drop ((0+(Int.toNat (i:Int))*3)+2)).take 1=[.rsl (Qs se.turns) 0 se.turns.length],InR .i64 ((se.turns.length:Int) - 1),Qe Try.prog (.clos 69 [] []) [.int .i64 e,.int .i64 0,.int .i64 ((se.turns.length:Int) - 1)] (.bool (Qf e 0 ((se.turns.length:Int) - 1))),(!(Qf e 0 ((se.turns.length:Int) - 1)))=false,InR .i64 ((i:Int)+1)])
 (hg:G Try.prog E (VU Try.prog) ⟨([.rptr [.rsl (Qg m.s.stages) 0 m.s.stages.length,.rsl (rowI m.s.worth) 0 m.s.worth.length,.int .i64 m.s.price,.rsl (rowI m.meas) 0 m.meas.length,.rsl (rowI m.mult) 0 m.mult.length] 0]++jj 17 ([.rsl (rowI l) 0 l.length,.int .i64 (l.length:Int),.int .i64 ((i:Int)+1)]++Js 35)),[]⟩):G Try.prog E (VU Try.prog) (f68S0 l m i ) :=
 Qm (n:=400) (ds:=[]) (cs:=[]) (live:=[0,18,19,20]) (m:=0) (evs:=[.b true,.ld (.int .i64 e),.auto,.ld (.int .i64 se.kind),.b false,.b true,.auto,.ld (.rsl (Qs se.turns) 0 se.turns.length),.v (.bool (Qf e 0 ((se.turns.length:Int) - 1))),.b false,.stop]) (obs:=_) hE.2.1 (hE.nogh _) Qy (by kernel_rfl) ho hg
theorem p68_0_4 (l:(List Int)) (m:Mch) (i:Nat) (e:Int) (se:Stg) {E:Env} {res:AV} (hE:Qj Try.prog 68 res E) (ho:AllP [(decide ((i:Int)<(l.length:Int)))=true,0≤(i:Int)∧(i:Int)<(l.length:Int),((rowI l).drop (0+(Int.toNat (i:Int))*1)).take 1=[.int .i64 e],0≤(i:Int)∧(i:Int)<(m.s.stages.length:Int),((Qg m.s.stages).drop ((0+(Int.toNat (i:Int))*3)+0)).take 1=[.int .i64 se.kind],(se.kind == 2)=false,(se.kind == 3)=false,Qe Try.prog (.clos 69 [] []) [.int .i64 e,.int .i64 0,.int .i64 0] (.bool (Qf e 0 0)),(!(Qf e 0 0))=true])
 (hr:AvLe (.bool false) res):G Try.prog E (VU Try.prog) (f68S0 l m i ) :=
 Qb (n:=400) (evs:=[.b true,.ld (.int .i64 e),.auto,.ld (.int .i64 se.kind),.b false,.b false,.v (.bool (Qf e 0 0)),.b true]) (obs:=_) hE Try.func68 Qy (by kernel_rfl) ho hr
theorem p68_0_5 (l:(List Int)) (m:Mch) (i:Nat) (e:Int) (se:Stg) {E:Env} {rv:AV} (hE:Qj Try.prog 68 rv E) (ho:AllP [(decide ((i:Int)<(l.length:Int)))=true,0≤(i:Int)∧(i:Int)<(l.length:Int),((rowI l).drop (0+(Int.toNat (i:Int))*1)).take 1=[.int .i64 e],0≤(i:Int)∧(i:Int)<(m.s.stages.length:Int),((Qg m.s.stages).drop ((0+(Int.toNat (i:Int))*3)+0)).take 1=[.int .i64 se.kind],(se.kind == 2)=false,(se.kind == 3)=false,Qe Try.prog (.clos 69 [] []) [.int .i64 e,.int .i64 0,.int .i64 0] (.bool (Qf e 0 0)),(!(Qf e 0 0))=false,InR .i64 ((i:Int)+1)])
 (hg:G Try.prog E (VU Try.prog) ⟨([.rptr [.rsl (Qg m.s.stages) 0 m.s.stages.length,.rsl (rowI m.s.worth) 0 m.s.worth.length,.int .i64 m.s.price,.rsl (rowI m.meas) 0 m.meas.length,.rsl (rowI m.mult) 0 m.mult.length] 0]++jj 17 ([.rsl (rowI l) 0 l.length,.int .i64 (l.length:Int),.int .i64 ((i:Int)+1)]++Js 35)),[]⟩):G Try.prog E (VU Try.prog) (f68S0 l m i ) :=
 Qm (n:=400) (ds:=[]) (cs:=[]) (live:=[0,18,19,20]) (m:=0) (evs:=[.b true,.ld (.int .i64 e),.auto,.ld (.int .i64 se.kind),.b false,.b false,.v (.bool (Qf e 0 0)),.b false,.stop]) (obs:=_) hE.2.1 (hE.nogh _) Qy (by kernel_rfl) ho hg
theorem p68_0_6 (l:(List Int)) (m:Mch) (i:Nat) {E:Env} {res:AV} (hE:Qj Try.prog 68 res E) (ho:AllP [(decide ((i:Int)<(l.length:Int)))=false])
 (hr:AvLe (.bool true) res):G Try.prog E (VU Try.prog) (f68S0 l m i ) :=
 Qb (n:=400) (evs:=[.b false]) (obs:=_) hE Try.func68 Qy (by kernel_rfl) ho hr
theorem f68W0 (l:(List Int)) (m:Mch) (i:Nat) {E:Env} {rv:Bool} (hE:Qj Try.prog 68 (.bool rv) E)
 (h:(((i:Int)<(l.length:Int)→(∃ e:Int,l[i]?=some e∧(∃ se:Stg,m.s.stages[i]?=some se∧((se.kind=2→((I6 ((se.turns.length:Int) - 1))∧(((Qf e 0 ((se.turns.length:Int) - 1))=false→rv=false)∧((Qf e 0 ((se.turns.length:Int) - 1))=true→((I6 ((i:Int)+1))∧f68G0 E l m (i+1))))))∧(¬ (se.kind=2)→((se.kind=3→((I6 ((se.turns.length:Int) - 1))∧(((Qf e 0 ((se.turns.length:Int) - 1))=false→rv=false)∧((Qf e 0 ((se.turns.length:Int) - 1))=true→((I6 ((i:Int)+1))∧f68G0 E l m (i+1))))))∧(¬ (se.kind=3)→(((Qf e 0 0)=false→rv=false)∧((Qf e 0 0)=true→((I6 ((i:Int)+1))∧f68G0 E l m (i+1)))))))))))∧(¬ ((i:Int)<(l.length:Int))→rv=true))):f68G0 E l m i:=by
 rcases bft (decide ((i:Int)<(l.length:Int))) with hc0 | hc0
 · have h:=h.1 (odt hc0)
   obtain ⟨e,h1,h⟩:=h
   obtain ⟨se,h2,h⟩:=h
   rcases bft (se.kind == 2) with hc1 | hc1
   · have h:=h.1 (eq_of_beq hc1)
     obtain ⟨q11_2,h⟩:=h
     rcases bft (!(Qf e 0 ((se.turns.length:Int) - 1))) with hc2 | hc2
     · have h:=h.1 (bnT hc2)
       exact p68_0_0 l m i e se hE ⟨hc0,(Qz h1),(rp cI 1 0 1 h1),(Qz h2),(rp cStg 3 0 1 h2),hc1,rfl,(Qz h2),(rp cStg 3 2 1 h2),q11_2,(u69 (QG e 0 ((se.turns.length:Int) - 1))),hc2,trivial⟩ (AvLe.of_eq (by rw [h]; try rfl))
     · have h:=h.2 (bnF hc2)
       obtain ⟨q14_3,h⟩:=h
       exact p68_0_1 l m i e se hE ⟨hc0,(Qz h1),(rp cI 1 0 1 h1),(Qz h2),(rp cStg 3 0 1 h2),hc1,rfl,(Qz h2),(rp cStg 3 2 1 h2),q11_2,(u69 (QG e 0 ((se.turns.length:Int) - 1))),hc2,q14_3,trivial⟩ h
   · have h:=h.2 (ne_of_beq_false hc1)
     rcases bft (se.kind == 3) with hc2 | hc2
     · have h:=h.1 (eq_of_beq hc2)
       obtain ⟨q11_3,h⟩:=h
       rcases bft (!(Qf e 0 ((se.turns.length:Int) - 1))) with hc3 | hc3
       · have h:=h.1 (bnT hc3)
         exact p68_0_2 l m i e se hE ⟨hc0,(Qz h1),(rp cI 1 0 1 h1),(Qz h2),(rp cStg 3 0 1 h2),hc1,hc2,(Qz h2),(rp cStg 3 2 1 h2),q11_3,(u69 (QG e 0 ((se.turns.length:Int) - 1))),hc3,trivial⟩ (AvLe.of_eq (by rw [h]; try rfl))
       · have h:=h.2 (bnF hc3)
         obtain ⟨q14_4,h⟩:=h
         exact p68_0_3 l m i e se hE ⟨hc0,(Qz h1),(rp cI 1 0 1 h1),(Qz h2),(rp cStg 3 0 1 h2),hc1,hc2,(Qz h2),(rp cStg 3 2 1 h2),q11_3,(u69 (QG e 0 ((se.turns.length:Int) - 1))),hc3,q14_4,trivial⟩ h
     · have h:=h.2 (ne_of_beq_false hc2)
       rcases bft (!(Qf e 0 0)) with hc3 | hc3
       · have h:=h.1 (bnT hc3)
         exact p68_0_4 l m i e se hE ⟨hc0,(Qz h1),(rp cI 1 0 1 h1),(Qz h2),(rp cStg 3 0 1 h2),hc1,hc2,(u69 (QG e 0 0)),hc3,trivial⟩ (AvLe.of_eq (by rw [h]; try rfl))
       · have h:=h.2 (bnF hc3)
         obtain ⟨q11_4,h⟩:=h
         exact p68_0_5 l m i e se hE ⟨hc0,(Qz h1),(rp cI 1 0 1 h1),(Qz h2),(rp cStg 3 0 1 h2),hc1,hc2,(u69 (QG e 0 0)),hc3,q11_4,trivial⟩ h
 · have h:=h.2 (odf hc0)
   exact p68_0_6 l m i hE ⟨hc0,trivial⟩ (AvLe.of_eq (by rw [h]; try rfl))
theorem plan_ok (m:Mch) (l:List Int) (hm:MOk m):Pure Try.prog 68 [.rptr (cMch m) 0,.rsl (rowI l) 0 l.length] (.bool (QU m.s l)):=QF Try.func68 f68b fun E hE=>by
 have hn:=(XP hm.st).1
 have hform:=(XP hm.st).2.2.2.2
 refine f68W l m (rv:=QU m.s l) hE ⟨fun h=>by simp [QU,show ¬ (l.length=m.s.stages.length) by omega],fun h=>?_⟩
 have hl:l.length=m.s.stages.length:=by omega
 have key:∀ (d i:Nat),i+d=l.length→(∀ j,j<i→Qf (l.getD j 0) 0 (Xn (m.s.stages.getD j ⟨0,0,[]⟩))=true)→f68G0 E l m i:=by
  intro d
  induction d with
  | zero =>
   intro i hd hall
   refine f68W0 l m i (rv:=QU m.s l) hE ⟨fun h=>by omega,fun _=>?_⟩
   simp only [QU,hl,decide_true,Bool.true_and]
   exact List.all_eq_true.2 fun j hj=>hall j (by have:=List.mem_range.1 hj; omega)
  | succ d ih =>
   intro i hd hall
   have hi:m.s.stages[i]?=some m.s.stages[i]:=List.getElem?_eq_getElem (by omega)
   have hx:m.s.stages.getD i ⟨0,0,[]⟩=m.s.stages[i]:=by simp [List.getD,hi]
   have hv:l[i]?=some (l.getD i 0):=getD_some (by omega)
   have ht:m.s.stages[i].turns.length≤8:=by
    rcases YX hi (hform i (by omega)) with ⟨-,h,-⟩ | ⟨-,-,h,-⟩
    · rw [h]; simp
    · exact h.2
   have nx:=ih (i+1) (by omega)
   have no:Qf (l.getD i 0) 0 (Xn (m.s.stages.getD i ⟨0,0,[]⟩))=false→QU m.s l=false:=fun h=>by
    simp only [QU,hl,decide_true,Bool.true_and]
    exact range_all (by omega) h
   have yes:Qf (l.getD i 0) 0 (Xn (m.s.stages.getD i ⟨0,0,[]⟩))=true→f68G0 E l m (i+1):=fun h=>nx fun j hj=>by
    rcases Nat.lt_or_ge j i with h1 | h1
    · exact hall j h1
    · rw [show j=i by omega]; exact h
   rw [hx] at no yes
   generalize m.s.stages[i]=x at hi no yes ht
   refine f68W0 l m i (rv:=QU m.s l) hE ⟨fun _=>⟨_,hv,x,hi,fun h2=>⟨by omega,fun h=>no ?_,fun h=>⟨by omega,yes ?_⟩⟩,fun h2=>⟨fun h3=>⟨by omega,fun h=>no ?_,fun h=>⟨by omega,yes ?_⟩⟩,fun h3=>⟨fun h=>no ?_,fun h=>⟨by omega,yes ?_⟩⟩⟩⟩,fun h=>by omega⟩
   · rw [Xn,if_pos (.inl h2)]; exact h
   · rw [Xn,if_pos (.inl h2)]; exact h
   · rw [Xn,if_pos (.inr h3)]; exact h
   · rw [Xn,if_pos (.inr h3)]; exact h
   · rw [Xn,if_neg (by omega)]; exact h
   · rw [Xn,if_neg (by omega)]; exact h
 exact key l.length 0 (by omega) (fun j hj=>by omega)
theorem f67b:Try.f67.body=some (Qc Try.prog 67):=by kernel_rfl
theorem u67 {a c k:List AV} {r:AV} (h:Pure Try.prog 67 (a++c++k) r):Qe Try.prog (.clos 67 a k) c r:=Qr Try.func67 (by kernel_rfl) f67b h
theorem p67_start_0 (m:Mch) (plan:List Int) {E:Env} {res:AV} (hE:Qj Try.prog 67 res E) (ho:AllP [Qe Try.prog (.clos 68 [] []) [.rptr [.rsl (Qg m.s.stages) 0 m.s.stages.length,.rsl (rowI m.s.worth) 0 m.s.worth.length,.int .i64 m.s.price,.rsl (rowI m.meas) 0 m.meas.length,.rsl (rowI m.mult) 0 m.mult.length] 0,.rsl (rowI plan) 0 plan.length] (.bool (QU m.s plan))])
 (hr:AvLe (.bool (QU m.s plan)) res):G Try.prog E [.code (Qc Try.prog 67)] ⟨[.rptr [.rsl (Qg m.s.stages) 0 m.s.stages.length,.rsl (rowI m.s.worth) 0 m.s.worth.length,.int .i64 m.s.price,.rsl (rowI m.meas) 0 m.meas.length,.rsl (rowI m.mult) 0 m.mult.length] 0,.rptr [.rsl (rowI plan) 0 plan.length] 0]++unds (Try.f67.ntmps - 2),[]⟩ :=
 Qb (n:=400) (evs:=[.v (.bool (QU m.s plan))]) (obs:=_) hE Try.func67 Qy (by kernel_rfl) ho hr
theorem f67W (m:Mch) (plan:List Int) {E:Env} {rv:Bool} (hE:Qj Try.prog 67 (.bool rv) E)
 (h:((MOk m)∧rv=(QU m.s plan))):G Try.prog E [.code (Qc Try.prog 67)] ⟨[.rptr [.rsl (Qg m.s.stages) 0 m.s.stages.length,.rsl (rowI m.s.worth) 0 m.s.worth.length,.int .i64 m.s.price,.rsl (rowI m.meas) 0 m.meas.length,.rsl (rowI m.mult) 0 m.mult.length] 0,.rptr [.rsl (rowI plan) 0 plan.length] 0]++unds (Try.f67.ntmps - 2),[]⟩:=by
 obtain ⟨h1,h⟩:=h
 exact p67_start_0 m plan hE ⟨(u68 (plan_ok m plan h1)),trivial⟩ (AvLe.of_eq (by rw [h]; try rfl))
theorem WZ (m:Mch) (plan:List Int) (h:MOk m):Pure Try.prog 67 [.rptr (cMch m) 0,.rptr [.rsl (rowI plan) 0 plan.length] 0] (.bool (QU m.s plan)):=QF Try.func67 f67b fun E hE=>f67W m plan (rv:=QU m.s plan) hE ⟨h,rfl⟩
def begR (s:Stl) (rt:Bool):AV:=if (XK s).isSome=true then (if rt=true then .tup [.rptr (cMch (Ql s)) 0,.int .i64 0] else .tup [.nilPtr,.int .i64 1]) else .tup [.nilPtr,.int .i64 60]
theorem begR_T {s:Stl} {rt:Bool} (h0:(XK s).isSome=true) (h1:rt=true):begR s rt=.tup [.rptr (cMch (Ql s)) 0,.int .i64 0]:=by rw [begR,if_pos h0,if_pos h1]
theorem begR_F1 {s:Stl} {rt:Bool} (h0:(XK s).isSome=true) (h1:rt=false):begR s rt=.tup [.nilPtr,.int .i64 1]:=by rw [begR,if_pos h0,if_neg (by rw [h1]; simp)]
theorem begR_F0 {s:Stl} {rt:Bool} (h0:(XK s).isSome=false):begR s rt=.tup [.nilPtr,.int .i64 60]:=by rw [begR,if_neg (by rw [h0]; simp)]
theorem mok_G {s:Stl} (h:(XK s).isSome=true):MOk (Ql s)∧(Ql s).s=s:=by
 obtain ⟨m,hm⟩:=Option.isSome_iff_exists.1 h
 rw [show Ql s=m by simp [Ql,hm]]
 exact mok_of hm
theorem yr:Try.f66.body=some (Qc Try.prog 66):=by kernel_rfl
theorem WV (s:Stl) (plan:List Int) {E:Env} {res:AV} (hE:Qj Try.prog 66 res E) (ho:AllP [Qe Try.prog (.clos 65 [] []) [.agg [.rsl (Qg s.stages) 0 s.stages.length,.rsl (rowI s.worth) 0 s.worth.length,.int .i64 s.price]] (.tup [.rptr [.rsl (Qg (((Ql s).s).stages)) 0 ((((Ql s).s).stages).length),.rsl (rowI (((Ql s).s).worth)) 0 ((((Ql s).s).worth).length),.int .i64 (((Ql s).s).price),.rsl (rowI ((Ql s).meas)) 0 (((Ql s).meas).length),.rsl (rowI ((Ql s).mult)) 0 (((Ql s).mult).length)] 0,.bool true]),false=false,Qe Try.prog (.clos 67 [] [.rptr [.rsl (rowI plan) 0 plan.length] 0]) [.rptr [.rsl (Qg (((Ql s).s).stages)) 0 ((((Ql s).s).stages).length),.rsl (rowI (((Ql s).s).worth)) 0 ((((Ql s).s).worth).length),.int .i64 (((Ql s).s).price),.rsl (rowI ((Ql s).meas)) 0 (((Ql s).meas).length),.rsl (rowI ((Ql s).mult)) 0 (((Ql s).mult).length)] 0] (.bool (QU (Ql s).s plan)),(!(QU (Ql s).s plan))=true])
 (hr:AvLe (.tup [.nilPtr,.int .i64 1]) res):G Try.prog E [.code (Qc Try.prog 66)] ⟨[.agg [.rsl (Qg s.stages) 0 s.stages.length,.rsl (rowI s.worth) 0 s.worth.length,.int .i64 s.price],.clos 67 [] [.rptr [.rsl (rowI plan) 0 plan.length] 0]]++unds (Try.f66.ntmps - 2),[]⟩ :=
 Qb (n:=400) (evs:=[.v (.tup [.rptr [.rsl (Qg (((Ql s).s).stages)) 0 ((((Ql s).s).stages).length),.rsl (rowI (((Ql s).s).worth)) 0 ((((Ql s).s).worth).length),.int .i64 (((Ql s).s).price),.rsl (rowI ((Ql s).meas)) 0 (((Ql s).meas).length),.rsl (rowI ((Ql s).mult)) 0 (((Ql s).mult).length)] 0,.bool true]),.b false,.v (.bool (QU (Ql s).s plan)),.b true]) (obs:=_) hE Try.func66 Qy (by kernel_rfl) ho hr
theorem WU (s:Stl) (plan:List Int) {E:Env} {res:AV} (hE:Qj Try.prog 66 res E) (ho:AllP [Qe Try.prog (.clos 65 [] []) [.agg [.rsl (Qg s.stages) 0 s.stages.length,.rsl (rowI s.worth) 0 s.worth.length,.int .i64 s.price]] (.tup [.rptr [.rsl (Qg (((Ql s).s).stages)) 0 ((((Ql s).s).stages).length),.rsl (rowI (((Ql s).s).worth)) 0 ((((Ql s).s).worth).length),.int .i64 (((Ql s).s).price),.rsl (rowI ((Ql s).meas)) 0 (((Ql s).meas).length),.rsl (rowI ((Ql s).mult)) 0 (((Ql s).mult).length)] 0,.bool true]),false=false,Qe Try.prog (.clos 67 [] [.rptr [.rsl (rowI plan) 0 plan.length] 0]) [.rptr [.rsl (Qg (((Ql s).s).stages)) 0 ((((Ql s).s).stages).length),.rsl (rowI (((Ql s).s).worth)) 0 ((((Ql s).s).worth).length),.int .i64 (((Ql s).s).price),.rsl (rowI ((Ql s).meas)) 0 (((Ql s).meas).length),.rsl (rowI ((Ql s).mult)) 0 (((Ql s).mult).length)] 0] (.bool (QU (Ql s).s plan)),(!(QU (Ql s).s plan))=false])
 (hr:AvLe (.tup [.rptr [.rsl (Qg (((Ql s).s).stages)) 0 ((((Ql s).s).stages).length),.rsl (rowI (((Ql s).s).worth)) 0 ((((Ql s).s).worth).length),.int .i64 (((Ql s).s).price),.rsl (rowI ((Ql s).meas)) 0 (((Ql s).meas).length),.rsl (rowI ((Ql s).mult)) 0 (((Ql s).mult).length)] 0,.int .i64 0]) res):G Try.prog E [.code (Qc Try.prog 66)] ⟨[.agg [.rsl (Qg s.stages) 0 s.stages.length,.rsl (rowI s.worth) 0 s.worth.length,.int .i64 s.price],.clos 67 [] [.rptr [.rsl (rowI plan) 0 plan.length] 0]]++unds (Try.f66.ntmps - 2),[]⟩ :=
 Qb (n:=400) (evs:=[.v (.tup [.rptr [.rsl (Qg (((Ql s).s).stages)) 0 ((((Ql s).s).stages).length),.rsl (rowI (((Ql s).s).worth)) 0 ((((Ql s).s).worth).length),.int .i64 (((Ql s).s).price),.rsl (rowI ((Ql s).meas)) 0 (((Ql s).meas).length),.rsl (rowI ((Ql s).mult)) 0 (((Ql s).mult).length)] 0,.bool true]),.b false,.v (.bool (QU (Ql s).s plan)),.b false]) (obs:=_) hE Try.func66 Qy (by kernel_rfl) ho hr
theorem WT (s:Stl) (plan:List Int) {E:Env} {res:AV} (hE:Qj Try.prog 66 res E) (ho:AllP [Qe Try.prog (.clos 65 [] []) [.agg [.rsl (Qg s.stages) 0 s.stages.length,.rsl (rowI s.worth) 0 s.worth.length,.int .i64 s.price]] (.tup [.nilPtr,.bool false]),true=true])
 (hr:AvLe (.tup [.nilPtr,.int .i64 60]) res):G Try.prog E [.code (Qc Try.prog 66)] ⟨[.agg [.rsl (Qg s.stages) 0 s.stages.length,.rsl (rowI s.worth) 0 s.worth.length,.int .i64 s.price],.clos 67 [] [.rptr [.rsl (rowI plan) 0 plan.length] 0]]++unds (Try.f66.ntmps - 2),[]⟩ :=
 Qb (n:=400) (evs:=[.v (.tup [.nilPtr,.bool false]),.b true]) (obs:=_) hE Try.func66 Qy (by kernel_rfl) ho hr
theorem f71x98W (s:Stl) (plan:List Int) {E:Env} {rv:AV} (hE:Qj Try.prog 66 rv E)
 (h:((((XK s).isSome)=true→((s.stages.length≤9223372036854775807∧s.worth.length≤9223372036854775807)∧((MOk (Ql s))∧(((QU (Ql s).s plan)=false→rv=(.tup [.nilPtr,.int .i64 1]))∧((QU (Ql s).s plan)=true→rv=(.tup [.rptr [.rsl (Qg (((Ql s).s).stages)) 0 ((((Ql s).s).stages).length),.rsl (rowI (((Ql s).s).worth)) 0 ((((Ql s).s).worth).length),.int .i64 (((Ql s).s).price),.rsl (rowI ((Ql s).meas)) 0 (((Ql s).meas).length),.rsl (rowI ((Ql s).mult)) 0 (((Ql s).mult).length)] 0,.int .i64 0]))))))∧(((XK s).isSome)=false→((s.stages.length≤9223372036854775807∧s.worth.length≤9223372036854775807)∧rv=(.tup [.nilPtr,.int .i64 60]))))):G Try.prog E [.code (Qc Try.prog 66)] ⟨[.agg [.rsl (Qg s.stages) 0 s.stages.length,.rsl (rowI s.worth) 0 s.worth.length,.int .i64 s.price],.clos 67 [] [.rptr [.rsl (rowI plan) 0 plan.length] 0]]++unds (Try.f66.ntmps - 2),[]⟩:=by
 rcases bft ((XK s).isSome) with hc0 | hc0
 · have h:=h.1 hc0
   obtain ⟨h1,h⟩:=h
   obtain ⟨h2,h⟩:=h
   rcases bft (!(QU (Ql s).s plan)) with hc1 | hc1
   · have h:=h.1 (bnT hc1)
     exact WV s plan hE ⟨(u65 (YV s h1 hc0)),rfl,(u67 (WZ (Ql s) plan h2)),hc1,trivial⟩ (AvLe.of_eq (by rw [h]; try rfl))
   · have h:=h.2 (bnF hc1)
     exact WU s plan hE ⟨(u65 (YV s h1 hc0)),rfl,(u67 (WZ (Ql s) plan h2)),hc1,trivial⟩ (AvLe.of_eq (by rw [h]; try rfl))
 · have h:=h.2 hc0
   obtain ⟨h1,h⟩:=h
   exact WT s plan hE ⟨(u65 (Wp s h1 hc0)),rfl,trivial⟩ (AvLe.of_eq (by rw [h]; try rfl))
theorem yy (s:Stl) (plan:List Int) (h:s.stages.length≤9223372036854775807∧s.worth.length≤9223372036854775807):Pure Try.prog 66 [.agg [.rsl (Qg s.stages) 0 s.stages.length,.rsl (rowI s.worth) 0 s.worth.length,.int .i64 s.price],.clos 67 [] [.rptr [.rsl (rowI plan) 0 plan.length] 0]] (begR s (QU (Ql s).s plan)):=QF Try.func66 yr fun E hE=>by
 refine f71x98W s plan (rv:=begR s (QU (Ql s).s plan)) hE ⟨fun h0=>⟨h,?_⟩,fun h0=>⟨h,begR_F0 h0⟩⟩
 have hm:=(mok_G h0).1
 have hw:=(XP hm.st).2.1
 have hs:=(XP hm.st).1
 exact ⟨hm,⟨fun h1=>begR_F1 h0 h1,fun h1=>begR_T h0 h1⟩⟩
end Go.Proofs.Ytemklbioijmjiaa
namespace Go.Proofs.Ytemklbioijmjiaa
open Go Ax
open Go.Proofs
/-! ### What the values are,in the end -/
/-! ### Who chooses -/
/-! ### The reference's greatest common divisor is the program's -/
/-! ### What an end is worth -/
theorem Wv {s:Stl} (h:Xb s=0):(XK s).isSome=true:=by
 unfold Xb at h
 split at h
 · assumption
 · omega
end Go.Proofs.Ytemklbioijmjiaa
namespace Go.Proofs.Ytemklbioijmjiaa
open Go Ax
open Go.Proofs
abbrev avStl (s:Stl):AV:=.agg [.rsl (Qg s.stages) 0 s.stages.length,.rsl (rowI s.worth) 0 s.worth.length,.int .i64 s.price]
theorem qk {s:Stl}:(XK s).isSome=true ↔ Xb s=0:=by
 unfold Xb; split <;> simp_all
def Wj (s:Stl) (plan:List Int):Int:=if Xb s=0 then (if QU s plan=true then 0 else 1) else 60
theorem planE_of {s:Stl} {plan:List Int} (h:Wj s plan=0):Xb s=0∧QU s plan=true:=by
 unfold Wj at h
 split at h
 · rename_i h0
   split at h
   · rename_i h1; exact ⟨h0,h1⟩
   · omega
 · omega
/-! ### The end values of a machine,turn by turn -/
end Go.Proofs.Ytemklbioijmjiaa
namespace Go.Proofs.Ytemklbioijmjiaa
open Go Ax
open Go.Proofs
/-! ### Fractions -/
/-! ### Planned -/
theorem planE_eq {s:Stl} {plan:List Int} (h:(XK s).isSome=true):Wj s plan=if QU (Ql s).s plan=true then 0 else 1:=by
 rw [Wj,if_pos (qk.1 h),(mok_G h).2]
end Go.Proofs.Ytemklbioijmjiaa
namespace Go.Proofs.Ytemklbioijmjiaa
open Go Ax
open Go.Proofs
def drawT:List Trn→Int→Trn
 | [],_=>⟨0,0⟩
 | t :: ts,d=>if d≥t.w then drawT ts (d - t.w) else t
def Vc (s:Stl) (plan:List Int):Nat→Int→List Int→List Int→List Int × Int × Int
 | 0,_,_,_=>([],0,0)
 | n+1,at_,v,ds =>
  if (s.stages.getD (Int.toNat at_) ⟨0,0,[]⟩).kind=4 then (v++[at_],(s.stages.getD (Int.toNat at_) ⟨0,0,[]⟩).prize,0)
  else if (s.stages.getD (Int.toNat at_) ⟨0,0,[]⟩).kind=1 then
   (match ds with
   | []=>([],0,1)
   | d :: ds=>if Qf d 0 (totI (s.stages.getD (Int.toNat at_) ⟨0,0,[]⟩) - 1)=true then Vc s plan n (drawT (s.stages.getD (Int.toNat at_) ⟨0,0,[]⟩).turns d).to (v++[at_]) ds else ([],0,1))
  else Vc s plan n ((s.stages.getD (Int.toNat at_) ⟨0,0,[]⟩).turns.getD (Int.toNat (planI plan at_)) ⟨0,0⟩).to (v++[at_]) ds
def Qv (s:Stl) (plan draws:List Int):List Int × Int × Int:=if Wj s plan=0 then Vc s plan s.stages.length 0 [] draws else ([],0,Wj s plan)
theorem WG:∀ {ts:List Trn} {d:Int},0≤d→d<(ts.map (·.w)).sum→drawT ts d ∈ ts
 | [],d,h0,h1=>by simp at h1; omega
 | t :: ts,d,h0,h1=>by
  simp only [drawT]
  simp only [List.map_cons,List.sum_cons] at h1
  split
  · exact List.mem_cons_of_mem _ (WG (by omega) (by omega))
  · simp
theorem Wi {s:Stl} {plan:List Int}:∀ {n:Nat} {at_:Int} {v ds:List Int},(Vc s plan n at_ v ds).1.length≤v.length+n
 | 0,at_,v,ds=>by simp [Vc]
 | n+1,at_,v,ds=>by
  unfold Vc
  split
  · simp
  · split
    · cases ds with
      | nil=>simp
      | cons d ds =>
       simp only
       split
       · have:=Wi (s:=s) (plan:=plan) (n:=n) (at_:=(drawT (s.stages.getD (Int.toNat at_) ⟨0,0,[]⟩).turns d).to) (v:=v++[at_]) (ds:=ds)
         simp only [List.length_append,List.length_cons,List.length_nil] at this; omega
       · simp
    · have:=Wi (s:=s) (plan:=plan) (n:=n) (at_:=((s.stages.getD (Int.toNat at_) ⟨0,0,[]⟩).turns.getD (Int.toNat (planI plan at_)) ⟨0,0⟩).to) (v:=v++[at_]) (ds:=ds)
      simp only [List.length_append,List.length_cons,List.length_nil] at this; omega
theorem f22b:Try.f22.body=some (Qc Try.prog 22):=by kernel_rfl
theorem u22 {a c k:List AV} {r:AV} (h:Pure Try.prog 22 (a++c++k) r):Qe Try.prog (.clos 22 a k) c r:=Qr Try.func22 (by kernel_rfl) f22b h
def yx (P:Program):List Item:=kAt 400 [.code (Qc P 22)] [.b false,.stop]
def f22S0 (s:Stl) (plan:(List Int)) (draws:(List Int)) (at_:Int) (v2:List Int) (draws1:(List Int)) (g2:Nat):St:=⟨([J,J,.rsl (rowI draws1) 0 draws1.length,J,.rptr [.rsl (rowI plan) 0 plan.length] 0,J,.sl 2 g2 0 v2.length 1,J,J,.rptr [.rsl (Qg (((Ql s).s).stages)) 0 ((((Ql s).s).stages).length),.rsl (rowI (((Ql s).s).worth)) 0 ((((Ql s).s).worth).length),.int .i64 (((Ql s).s).price),.rsl (rowI ((Ql s).meas)) 0 (((Ql s).meas).length),.rsl (rowI ((Ql s).mult)) 0 (((Ql s).mult).length)] 0,.int .i64 at_]++Js 96),[⟨true,0,1,true,[.rsl (Qg s.stages) 0 s.stages.length,.rsl (rowI s.worth) 0 s.worth.length,.int .i64 s.price],false⟩,⟨false,1,1,true,[],false⟩,⟨true,g2,1,true,(rowI v2),true⟩]⟩
def f22G0 (E:Env) (s:Stl) (plan:(List Int)) (draws:(List Int)) (at_:Int) (v2:List Int) (draws1:(List Int)):Prop:=∀ g2:Nat,G Try.prog E (yx Try.prog) (f22S0 s plan draws at_ v2 draws1 g2)
def f22K1 (P:Program):List Item:=kAt 400 [.code (Qc P 22)] [.b false,.b true,.b true,.b false,.stop]
def f22S1 (s:Stl) (plan:(List Int)) (draws:(List Int)) (turn:Int) (left:Int) (v4_0:Int) (v4_1:Int) (v4_2:(List Trn)) (v3_0:Int) (v2:List Int) (draws1:(List Int)) (g2:Nat):St:=⟨([J,J,.rsl (rowI draws1) 0 draws1.length,J,.rptr [.rsl (rowI plan) 0 plan.length] 0,J,.sl 2 g2 0 v2.length 1,J,J,.rptr [.rsl (Qg (((Ql s).s).stages)) 0 ((((Ql s).s).stages).length),.rsl (rowI (((Ql s).s).worth)) 0 ((((Ql s).s).worth).length),.int .i64 (((Ql s).s).price),.rsl (rowI ((Ql s).meas)) 0 (((Ql s).meas).length),.rsl (rowI ((Ql s).mult)) 0 (((Ql s).mult).length)] 0,J,.ptr 4 0 0,.int .i64 turn,.int .i64 left]++Js 93),[⟨true,0,1,true,[.rsl (Qg s.stages) 0 s.stages.length,.rsl (rowI s.worth) 0 s.worth.length,.int .i64 s.price],false⟩,⟨false,1,1,true,[],false⟩,⟨true,g2,1,true,(rowI v2),true⟩,⟨true,0,1,true,[.int .i64 v3_0],true⟩,⟨true,0,1,true,[.int .i64 v4_0,.int .i64 v4_1,.rsl (Qs v4_2) 0 v4_2.length],false⟩]⟩
def f22G1 (E:Env) (s:Stl) (plan:(List Int)) (draws:(List Int)) (turn:Int) (left:Int) (v4_0:Int) (v4_1:Int) (v4_2:(List Trn)) (v3_0:Int) (v2:List Int) (draws1:(List Int)):Prop:=∀ g2:Nat,G Try.prog E (f22K1 Try.prog) (f22S1 s plan draws turn left v4_0 v4_1 v4_2 v3_0 v2 draws1 g2)
theorem p22_start_0 (s:Stl) (plan:(List Int)) (draws:(List Int)) {E:Env} {rv:AV} (hE:Qj Try.prog 22 rv E) (ho:AllP [Qe Try.prog (.clos 66 [] []) [.agg [.rsl (Qg s.stages) 0 s.stages.length,.rsl (rowI s.worth) 0 s.worth.length,.int .i64 s.price],.clos 67 [] [.rptr [.rsl (rowI plan) 0 plan.length] 0]] (.tup [.rptr [.rsl (Qg (((Ql s).s).stages)) 0 ((((Ql s).s).stages).length),.rsl (rowI (((Ql s).s).worth)) 0 ((((Ql s).s).worth).length),.int .i64 (((Ql s).s).price),.rsl (rowI ((Ql s).meas)) 0 (((Ql s).meas).length),.rsl (rowI ((Ql s).mult)) 0 (((Ql s).mult).length)] 0,.int .i64 0]),false=false])
 (hg:G Try.prog E (yx Try.prog) ⟨([J,J,.rsl (rowI draws) 0 draws.length,J,.rptr [.rsl (rowI plan) 0 plan.length] 0,J,.sl 2 0 0 0 1,J,J,.rptr [.rsl (Qg (((Ql s).s).stages)) 0 ((((Ql s).s).stages).length),.rsl (rowI (((Ql s).s).worth)) 0 ((((Ql s).s).worth).length),.int .i64 (((Ql s).s).price),.rsl (rowI ((Ql s).meas)) 0 (((Ql s).meas).length),.rsl (rowI ((Ql s).mult)) 0 (((Ql s).mult).length)] 0,.int .i64 0]++Js 96),[⟨true,0,1,true,[.rsl (Qg s.stages) 0 s.stages.length,.rsl (rowI s.worth) 0 s.worth.length,.int .i64 s.price],false⟩,⟨false,1,1,true,[],false⟩,⟨true,0,1,true,[],true⟩]⟩):G Try.prog E [.code (Qc Try.prog 22)] ⟨[.agg [.rsl (Qg s.stages) 0 s.stages.length,.rsl (rowI s.worth) 0 s.worth.length,.int .i64 s.price],.rsl (rowI plan) 0 plan.length,.rsl (rowI draws) 0 draws.length]++unds (Try.f22.ntmps - 3),[]⟩ :=
 Qm (n:=400) (ds:=[(6,1)]) (cs:=[]) (live:=[2,4,6,9,10]) (m:=3) (evs:=[.wt 4,.v (.tup [.rptr [.rsl (Qg (((Ql s).s).stages)) 0 ((((Ql s).s).stages).length),.rsl (rowI (((Ql s).s).worth)) 0 ((((Ql s).s).worth).length),.int .i64 (((Ql s).s).price),.rsl (rowI ((Ql s).meas)) 0 (((Ql s).meas).length),.rsl (rowI ((Ql s).mult)) 0 (((Ql s).mult).length)] 0,.int .i64 0]),.b false,.stop]) (obs:=_) hE.2.1 (hE.nogh _) Qy (by kernel_rfl) ho hg
theorem p22_start_1 (s:Stl) (plan:(List Int)) (draws:(List Int)) {E:Env} {res:AV} (hE:Qj Try.prog 22 res E) (ho:AllP [Qe Try.prog (.clos 66 [] []) [.agg [.rsl (Qg s.stages) 0 s.stages.length,.rsl (rowI s.worth) 0 s.worth.length,.int .i64 s.price],.clos 67 [] [.rptr [.rsl (rowI plan) 0 plan.length] 0]] (.tup [.nilPtr,.int .i64 1]),true=true])
 (hr:AvLe (.tup [.nilSl,.int .i64 0,.int .i64 1]) res):G Try.prog E [.code (Qc Try.prog 22)] ⟨[.agg [.rsl (Qg s.stages) 0 s.stages.length,.rsl (rowI s.worth) 0 s.worth.length,.int .i64 s.price],.rsl (rowI plan) 0 plan.length,.rsl (rowI draws) 0 draws.length]++unds (Try.f22.ntmps - 3),[]⟩ :=
 Qb (n:=400) (evs:=[.wt 4,.v (.tup [.nilPtr,.int .i64 1]),.b true]) (obs:=_) hE Try.func22 Qy (by kernel_rfl) ho hr
theorem p22_start_2 (s:Stl) (plan:(List Int)) (draws:(List Int)) {E:Env} {res:AV} (hE:Qj Try.prog 22 res E) (ho:AllP [Qe Try.prog (.clos 66 [] []) [.agg [.rsl (Qg s.stages) 0 s.stages.length,.rsl (rowI s.worth) 0 s.worth.length,.int .i64 s.price],.clos 67 [] [.rptr [.rsl (rowI plan) 0 plan.length] 0]] (.tup [.nilPtr,.int .i64 60]),true=true])
 (hr:AvLe (.tup [.nilSl,.int .i64 0,.int .i64 60]) res):G Try.prog E [.code (Qc Try.prog 22)] ⟨[.agg [.rsl (Qg s.stages) 0 s.stages.length,.rsl (rowI s.worth) 0 s.worth.length,.int .i64 s.price],.rsl (rowI plan) 0 plan.length,.rsl (rowI draws) 0 draws.length]++unds (Try.f22.ntmps - 3),[]⟩ :=
 Qb (n:=400) (evs:=[.wt 4,.v (.tup [.nilPtr,.int .i64 60]),.b true]) (obs:=_) hE Try.func22 Qy (by kernel_rfl) ho hr
theorem f22W (s:Stl) (plan:(List Int)) (draws:(List Int)) {E:Env} {rv:((List Int) × Int × Int)} (hE:Qj Try.prog 22 (.tup [.rsl (rowI rv.1) 0 rv.1.length,.int .i64 rv.2.1,.int .i64 rv.2.2]) E)
 (h:((((XK s).isSome)=true→(((QU (Ql s).s plan)=true→((s.stages.length≤9223372036854775807∧s.worth.length≤9223372036854775807)∧f22G0 E s plan draws 0 ([]) draws))∧((QU (Ql s).s plan)=false→((s.stages.length≤9223372036854775807∧s.worth.length≤9223372036854775807)∧rv=(([]:List Int),0,1)))))∧(((XK s).isSome)=false→((s.stages.length≤9223372036854775807∧s.worth.length≤9223372036854775807)∧rv=(([]:List Int),0,60))))):G Try.prog E [.code (Qc Try.prog 22)] ⟨[.agg [.rsl (Qg s.stages) 0 s.stages.length,.rsl (rowI s.worth) 0 s.worth.length,.int .i64 s.price],.rsl (rowI plan) 0 plan.length,.rsl (rowI draws) 0 draws.length]++unds (Try.f22.ntmps - 3),[]⟩:=by
 rcases bft ((XK s).isSome) with hc0 | hc0
 · have h:=h.1 hc0
   rcases bft (QU (Ql s).s plan) with hc1 | hc1
   · have h:=h.1 hc1
     obtain ⟨h1,h⟩:=h
     exact p22_start_0 s plan draws hE ⟨(Qr Try.func66 (by kernel_rfl) yr (begR_T hc0 hc1 ▸ yy s plan h1)),rfl,trivial⟩ (h 0)
   · have h:=h.2 hc1
     obtain ⟨h1,h⟩:=h
     exact p22_start_1 s plan draws hE ⟨(Qr Try.func66 (by kernel_rfl) yr (begR_F1 hc0 hc1 ▸ yy s plan h1)),rfl,trivial⟩ (by rw [h]; exact (Wd ⟨Wo,⟨AvLe.of_eq rfl,⟨AvLe.of_eq rfl,trivial⟩⟩⟩))
 · have h:=h.2 hc0
   obtain ⟨h1,h⟩:=h
   exact p22_start_2 s plan draws hE ⟨(Qr Try.func66 (by kernel_rfl) yr (begR_F0 hc0 ▸ yy s plan h1)),rfl,trivial⟩ (by rw [h]; exact (Wd ⟨Wo,⟨AvLe.of_eq rfl,⟨AvLe.of_eq rfl,trivial⟩⟩⟩))
theorem p22_0_0 (s:Stl) (plan:(List Int)) (draws:(List Int)) (at_:Int) (v2:List Int) (draws1:(List Int)) (g2:Nat) (se:Stg) (e:Int) {E:Env} {res:AV} (hE:Qj Try.prog 22 res E) (ho:AllP [0≤at_∧at_<(((((Ql s).s).stages).length:Nat):Int),((Qg (((Ql s).s).stages)).drop ((0+(Int.toNat at_)*3)+0)).take 1=[.int .i64 se.kind],(se.kind != 4)=true,g2=g2,(0+(v2.length*1))=(rowI v2).length,(v2.length+1)≤2147483648,0=0,0≤at_∧at_<(((((Ql s).s).stages).length:Nat):Int),((Qg (((Ql s).s).stages)).drop (0+(Int.toNat at_)*3)).take 3=[.int .i64 se.kind,.int .i64 se.prize,.rsl (Qs se.turns) 0 se.turns.length],3≤3,0≤at_∧at_<(plan.length:Int),((rowI plan).drop (0+(Int.toNat at_)*1)).take 1=[.int .i64 e],(se.kind == 1)=true,((draws1.length:Int) == 0)=true,true=true])
 (hr:AvLe (.tup [.nilSl,.int .i64 0,.int .i64 1]) res):G Try.prog E (yx Try.prog) (f22S0 s plan draws at_ v2 draws1 g2) :=
 Qb (n:=400) (evs:=[.auto,.ld (.int .i64 se.kind),.b true,.auto,.ld (.agg [.int .i64 se.kind,.int .i64 se.prize,.rsl (Qs se.turns) 0 se.turns.length]),.auto,.ld (.int .i64 e),.b true,.b true,.b true]) (obs:=_) hE Try.func22 Qy (by kernel_rfl) ho hr
theorem p22_0_1 (s:Stl) (plan:(List Int)) (draws:(List Int)) (at_:Int) (v2:List Int) (draws1:(List Int)) (g2:Nat) (se:Stg) (e:Int) (e1:Int) {E:Env} {res:AV} (hE:Qj Try.prog 22 res E) (ho:AllP [0≤at_∧at_<(((((Ql s).s).stages).length:Nat):Int),((Qg (((Ql s).s).stages)).drop ((0+(Int.toNat at_)*3)+0)).take 1=[.int .i64 se.kind],(se.kind != 4)=true,g2=g2,(0+(v2.length*1))=(rowI v2).length,(v2.length+1)≤2147483648,0=0,0≤at_∧at_<(((((Ql s).s).stages).length:Nat):Int),((Qg (((Ql s).s).stages)).drop (0+(Int.toNat at_)*3)).take 3=[.int .i64 se.kind,.int .i64 se.prize,.rsl (Qs se.turns) 0 se.turns.length],3≤3,0≤at_∧at_<(plan.length:Int),((rowI plan).drop (0+(Int.toNat at_)*1)).take 1=[.int .i64 e],(se.kind == 1)=true,((draws1.length:Int) == 0)=false,(0:Int)≤0∧(0:Int)<(draws1.length:Int),((rowI draws1).drop (0+0*1)).take 1=[.int .i64 e1],Qe Try.prog (.clos 70 [] []) [.agg [.int .i64 se.kind,.int .i64 se.prize,.rsl (Qs se.turns) 0 se.turns.length]] (.int .i64 (totI se)),InR .i64 ((totI se) - 1),Qe Try.prog (.clos 69 [] []) [.int .i64 e1,.int .i64 0,.int .i64 ((totI se) - 1)] (.bool (Qf e1 0 ((totI se) - 1))),(!(Qf e1 0 ((totI se) - 1)))=true])
 (hr:AvLe (.tup [.nilSl,.int .i64 0,.int .i64 1]) res):G Try.prog E (yx Try.prog) (f22S0 s plan draws at_ v2 draws1 g2) :=
 Qb (n:=400) (evs:=[.auto,.ld (.int .i64 se.kind),.b true,.auto,.ld (.agg [.int .i64 se.kind,.int .i64 se.prize,.rsl (Qs se.turns) 0 se.turns.length]),.auto,.ld (.int .i64 e),.b true,.b false,.ld (.int .i64 e1),.v (.int .i64 (totI se)),.v (.bool (Qf e1 0 ((totI se) - 1))),.b true]) (obs:=_) hE Try.func22 Qy (by kernel_rfl) ho hr
theorem p22_0_2 (s:Stl) (plan:(List Int)) (draws:(List Int)) (at_:Int) (v2:List Int) (draws1:(List Int)) (g2:Nat) (se:Stg) (e:Int) (e1:Int) {E:Env} {rv:AV} (hE:Qj Try.prog 22 rv E) (ho:AllP [0≤at_∧at_<(((((Ql s).s).stages).length:Nat):Int),((Qg (((Ql s).s).stages)).drop ((0+(Int.toNat at_)*3)+0)).take 1=[.int .i64 se.kind],(se.kind != 4)=true,g2=g2,(0+(v2.length*1))=(rowI v2).length,(v2.length+1)≤2147483648,0=0,0≤at_∧at_<(((((Ql s).s).stages).length:Nat):Int),((Qg (((Ql s).s).stages)).drop (0+(Int.toNat at_)*3)).take 3=[.int .i64 se.kind,.int .i64 se.prize,.rsl (Qs se.turns) 0 se.turns.length],3≤3,0≤at_∧at_<(plan.length:Int),((rowI plan).drop (0+(Int.toNat at_)*1)).take 1=[.int .i64 e],(se.kind == 1)=true,((draws1.length:Int) == 0)=false,(0:Int)≤0∧(0:Int)<(draws1.length:Int),((rowI draws1).drop (0+0*1)).take 1=[.int .i64 e1],Qe Try.prog (.clos 70 [] []) [.agg [.int .i64 se.kind,.int .i64 se.prize,.rsl (Qs se.turns) 0 se.turns.length]] (.int .i64 (totI se)),InR .i64 ((totI se) - 1),Qe Try.prog (.clos 69 [] []) [.int .i64 e1,.int .i64 0,.int .i64 ((totI se) - 1)] (.bool (Qf e1 0 ((totI se) - 1))),(!(Qf e1 0 ((totI se) - 1)))=false,(0:Int)≤0∧(0:Int)<(draws1.length:Int),((rowI draws1).drop (0+0*1)).take 1=[.int .i64 e1]])
 (hg:G Try.prog E (f22K1 Try.prog) ⟨([J,J,.rsl (rowI draws1) 0 draws1.length,J,.rptr [.rsl (rowI plan) 0 plan.length] 0,J,.sl 2 (g2+1) 0 (v2.length+1) 1,J,J,.rptr [.rsl (Qg (((Ql s).s).stages)) 0 ((((Ql s).s).stages).length),.rsl (rowI (((Ql s).s).worth)) 0 ((((Ql s).s).worth).length),.int .i64 (((Ql s).s).price),.rsl (rowI ((Ql s).meas)) 0 (((Ql s).meas).length),.rsl (rowI ((Ql s).mult)) 0 (((Ql s).mult).length)] 0,J,.ptr 4 0 0,.int .i64 e,.int .i64 e1]++Js 93),[⟨true,0,1,true,[.rsl (Qg s.stages) 0 s.stages.length,.rsl (rowI s.worth) 0 s.worth.length,.int .i64 s.price],false⟩,⟨false,1,1,true,[],false⟩,⟨true,(g2+1),1,true,((rowI v2)++[.int .i64 at_]),true⟩,⟨true,0,1,true,[.int .i64 at_],true⟩,⟨true,0,1,true,[.int .i64 se.kind,.int .i64 se.prize,.rsl (Qs se.turns) 0 se.turns.length],false⟩]⟩):G Try.prog E (yx Try.prog) (f22S0 s plan draws at_ v2 draws1 g2) :=
 Qm (n:=400) (ds:=[]) (cs:=[]) (live:=[2,4,6,9,11,12,13]) (m:=5) (evs:=[.auto,.ld (.int .i64 se.kind),.b true,.auto,.ld (.agg [.int .i64 se.kind,.int .i64 se.prize,.rsl (Qs se.turns) 0 se.turns.length]),.auto,.ld (.int .i64 e),.b true,.b false,.ld (.int .i64 e1),.v (.int .i64 (totI se)),.v (.bool (Qf e1 0 ((totI se) - 1))),.b false,.ld (.int .i64 e1),.stop]) (obs:=_) hE.2.1 (hE.nogh _) Qy (by kernel_rfl) ho hg
theorem p22_0_3 (s:Stl) (plan:(List Int)) (draws:(List Int)) (at_:Int) (v2:List Int) (draws1:(List Int)) (g2:Nat) (se:Stg) (e:Int) (te:Trn) {E:Env} {rv:AV} (hE:Qj Try.prog 22 rv E) (ho:AllP [0≤at_∧at_<(((((Ql s).s).stages).length:Nat):Int),((Qg (((Ql s).s).stages)).drop ((0+(Int.toNat at_)*3)+0)).take 1=[.int .i64 se.kind],(se.kind != 4)=true,g2=g2,(0+(v2.length*1))=(rowI v2).length,(v2.length+1)≤2147483648,0=0,0≤at_∧at_<(((((Ql s).s).stages).length:Nat):Int),((Qg (((Ql s).s).stages)).drop (0+(Int.toNat at_)*3)).take 3=[.int .i64 se.kind,.int .i64 se.prize,.rsl (Qs se.turns) 0 se.turns.length],3≤3,0≤at_∧at_<(plan.length:Int),((rowI plan).drop (0+(Int.toNat at_)*1)).take 1=[.int .i64 e],(se.kind == 1)=false,0≤e∧e<(se.turns.length:Int),((Qs se.turns).drop ((0+(Int.toNat e)*2)+1)).take 1=[.int .i64 te.to]])
 (hg:G Try.prog E (yx Try.prog) ⟨([J,J,.rsl (rowI draws1) 0 draws1.length,J,.rptr [.rsl (rowI plan) 0 plan.length] 0,J,.sl 2 (g2+1) 0 (v2.length+1) 1,J,J,.rptr [.rsl (Qg (((Ql s).s).stages)) 0 ((((Ql s).s).stages).length),.rsl (rowI (((Ql s).s).worth)) 0 ((((Ql s).s).worth).length),.int .i64 (((Ql s).s).price),.rsl (rowI ((Ql s).meas)) 0 (((Ql s).meas).length),.rsl (rowI ((Ql s).mult)) 0 (((Ql s).mult).length)] 0,.int .i64 te.to]++Js 96),[⟨true,0,1,true,[.rsl (Qg s.stages) 0 s.stages.length,.rsl (rowI s.worth) 0 s.worth.length,.int .i64 s.price],false⟩,⟨false,1,1,true,[],false⟩,⟨true,(g2+1),1,true,((rowI v2)++[.int .i64 at_]),true⟩]⟩):G Try.prog E (yx Try.prog) (f22S0 s plan draws at_ v2 draws1 g2) :=
 Qm (n:=400) (ds:=[]) (cs:=[]) (live:=[2,4,6,9,10]) (m:=3) (evs:=[.auto,.ld (.int .i64 se.kind),.b true,.auto,.ld (.agg [.int .i64 se.kind,.int .i64 se.prize,.rsl (Qs se.turns) 0 se.turns.length]),.auto,.ld (.int .i64 e),.b false,.auto,.ld (.int .i64 te.to),.stop]) (obs:=_) hE.2.1 (hE.nogh _) Qy (by kernel_rfl) ho hg
theorem p22_0_4 (s:Stl) (plan:(List Int)) (draws:(List Int)) (at_:Int) (v2:List Int) (draws1:(List Int)) (g2:Nat) (se:Stg) {E:Env} {res:AV} (hE:Qj Try.prog 22 res E) (ho:AllP [0≤at_∧at_<(((((Ql s).s).stages).length:Nat):Int),((Qg (((Ql s).s).stages)).drop ((0+(Int.toNat at_)*3)+0)).take 1=[.int .i64 se.kind],(se.kind != 4)=false,g2=g2,(0+(v2.length*1))=(rowI v2).length,(v2.length+1)≤2147483648,0=0,0≤at_∧at_<(((((Ql s).s).stages).length:Nat):Int),((Qg (((Ql s).s).stages)).drop ((0+(Int.toNat at_)*3)+1)).take 1=[.int .i64 se.prize],(g2+1)=(g2+1)])
 (hr:AvLe (.tup [.rsl ((rowI v2)++[.int .i64 at_]) 0 (v2.length+1),.int .i64 se.prize,.int .i64 0]) res):G Try.prog E (yx Try.prog) (f22S0 s plan draws at_ v2 draws1 g2) :=
 Qb (n:=400) (evs:=[.auto,.ld (.int .i64 se.kind),.b false,.auto,.ld (.int .i64 se.prize)]) (obs:=_) hE Try.func22 Qy (by kernel_rfl) ho hr
theorem f22W0 (s:Stl) (plan:(List Int)) (draws:(List Int)) (at_:Int) (v2:List Int) (draws1:(List Int)) {E:Env} {rv:((List Int) × Int × Int)} (hE:Qj Try.prog 22 (.tup [.rsl (rowI rv.1) 0 rv.1.length,.int .i64 rv.2.1,.int .i64 rv.2.2]) E)
 (h:(0≤at_∧(∃ se:Stg,(((Ql s).s).stages)[Int.toNat at_]?=some se∧((¬ (se.kind=4)→((v2.length+1)≤2147483648∧(0≤at_∧(∃ e:Int,plan[Int.toNat at_]?=some e∧((se.kind=1→(((draws1.length:Int)=0→rv=(([]:List Int),0,1))∧(¬ ((draws1.length:Int)=0)→(∃ e1:Int,draws1[0]?=some e1∧((TotOk se)∧((I6 ((totI se) - 1))∧(((Qf e1 0 ((totI se) - 1))=false→rv=(([]:List Int),0,1))∧((Qf e1 0 ((totI se) - 1))=true→f22G1 E s plan draws e e1 se.kind se.prize se.turns at_ (v2++[at_]) draws1))))))))∧(¬ (se.kind=1)→(0≤e∧(∃ te:Trn,se.turns[Int.toNat e]?=some te∧f22G0 E s plan draws te.to (v2++[at_]) draws1))))))))∧(se.kind=4→((v2.length+1)≤2147483648∧rv=((v2++[at_]),se.prize,0))))))):f22G0 E s plan draws at_ v2 draws1:=by
 intro g2
 obtain ⟨h2,h⟩:=h
 obtain ⟨se,h1,h⟩:=h
 rcases bft (se.kind != 4) with hc0 | hc0
 · have h:=h.1 (bneT hc0)
   obtain ⟨h3,h⟩:=h
   obtain ⟨h5,h⟩:=h
   obtain ⟨e,h4,h⟩:=h
   rcases bft (se.kind == 1) with hc1 | hc1
   · have h:=h.1 (eq_of_beq hc1)
     rcases bft ((draws1.length:Int) == 0) with hc2 | hc2
     · have h:=h.1 (eq_of_beq hc2)
       exact p22_0_0 s plan draws at_ v2 draws1 g2 se e hE ⟨(Qo h2 h1),(rp cStg 3 0 1 h1),hc0,rfl,(by have hx:=QE cI (s:=1) (fun _=>rfl) v2; simp only [rowI] at hx ⊢; rw [hx]; simp),h3,rfl,(Qo h2 h1),(rp cStg 3 0 3 h1),(by decide),(Qo h5 h4),(rp cI 1 0 1 h4),hc1,hc2,rfl,trivial⟩ (by rw [h]; exact (Wd ⟨Wo,⟨AvLe.of_eq rfl,⟨AvLe.of_eq rfl,trivial⟩⟩⟩))
     · have h:=h.2 (ne_of_beq_false hc2)
       obtain ⟨e1,h6,h⟩:=h
       obtain ⟨h7,h⟩:=h
       obtain ⟨q20_3,h⟩:=h
       rcases bft (!(Qf e1 0 ((totI se) - 1))) with hc3 | hc3
       · have h:=h.1 (bnT hc3)
         exact p22_0_1 s plan draws at_ v2 draws1 g2 se e e1 hE ⟨(Qo h2 h1),(rp cStg 3 0 1 h1),hc0,rfl,(by have hx:=QE cI (s:=1) (fun _=>rfl) v2; simp only [rowI] at hx ⊢; rw [hx]; simp),h3,rfl,(Qo h2 h1),(rp cStg 3 0 3 h1),(by decide),(Qo h5 h4),(rp cI 1 0 1 h4),hc1,hc2,(Qz h6),(rp cI 1 0 1 h6),(u70 (qC se h7)),q20_3,(u69 (QG e1 0 ((totI se) - 1))),hc3,trivial⟩ (by rw [h]; exact (Wd ⟨Wo,⟨AvLe.of_eq rfl,⟨AvLe.of_eq rfl,trivial⟩⟩⟩))
       · have h:=h.2 (bnF hc3)
         refine p22_0_2 s plan draws at_ v2 draws1 g2 se e e1 hE ⟨(Qo h2 h1),(rp cStg 3 0 1 h1),hc0,rfl,(by have hx:=QE cI (s:=1) (fun _=>rfl) v2; simp only [rowI] at hx ⊢; rw [hx]; simp),h3,rfl,(Qo h2 h1),(rp cStg 3 0 3 h1),(by decide),(Qo h5 h4),(rp cI 1 0 1 h4),hc1,hc2,(Qz h6),(rp cI 1 0 1 h6),(u70 (qC se h7)),q20_3,(u69 (QG e1 0 ((totI se) - 1))),hc3,(Qz h6),(rp cI 1 0 1 h6),trivial⟩ ?_
         rw [(show rowI v2++[.int .i64 at_]=rowI (v2++[at_]) from (Xl cI v2 [at_]).symm)]; rw [(show (v2.length+1)=(v2++[at_]).length from by simp)]; exact (h (g2+1))
   · have h:=h.2 (ne_of_beq_false hc1)
     obtain ⟨h7,h⟩:=h
     obtain ⟨te,h6,h⟩:=h
     refine p22_0_3 s plan draws at_ v2 draws1 g2 se e te hE ⟨(Qo h2 h1),(rp cStg 3 0 1 h1),hc0,rfl,(by have hx:=QE cI (s:=1) (fun _=>rfl) v2; simp only [rowI] at hx ⊢; rw [hx]; simp),h3,rfl,(Qo h2 h1),(rp cStg 3 0 3 h1),(by decide),(Qo h5 h4),(rp cI 1 0 1 h4),hc1,(Qo h7 h6),(rp cTrn 2 1 1 h6),trivial⟩ ?_
     rw [(show rowI v2++[.int .i64 at_]=rowI (v2++[at_]) from (Xl cI v2 [at_]).symm)]; rw [(show (v2.length+1)=(v2++[at_]).length from by simp)]; exact (h (g2+1))
 · have h:=h.2 (bneF hc0)
   obtain ⟨h3,h⟩:=h
   exact p22_0_4 s plan draws at_ v2 draws1 g2 se hE ⟨(Qo h2 h1),(rp cStg 3 0 1 h1),hc0,rfl,(by have hx:=QE cI (s:=1) (fun _=>rfl) v2; simp only [rowI] at hx ⊢; rw [hx]; simp),h3,rfl,(Qo h2 h1),(rp cStg 3 1 1 h1),rfl,trivial⟩ (AvLe.of_eq (by rw [h]; rw [(show AV.rsl ((rowI v2)++[.int .i64 at_]) 0 (v2.length+1)=AV.rsl (rowI (v2++[at_])) 0 (v2++[at_]).length from by rw [(show rowI v2++[.int .i64 at_]=rowI (v2++[at_]) from (Xl cI v2 [at_]).symm)]; rw [show (v2.length+1)=(v2++[at_]).length from by simp])]; try rfl))
theorem p22_1_0 (s:Stl) (plan:(List Int)) (draws:(List Int)) (turn:Int) (left:Int) (v4_0:Int) (v4_1:Int) (v4_2:(List Trn)) (v3_0:Int) (v2:List Int) (draws1:(List Int)) (g2:Nat) (te:Trn) {E:Env} {rv:AV} (hE:Qj Try.prog 22 rv E) (ho:AllP [0≤turn∧turn<(v4_2.length:Int),((Qs v4_2).drop ((0+(Int.toNat turn)*2)+0)).take 1=[.int .i64 te.w],(decide (left≥te.w))=true,0≤turn∧turn<(v4_2.length:Int),((Qs v4_2).drop ((0+(Int.toNat turn)*2)+0)).take 1=[.int .i64 te.w],InR .i64 (left - te.w),InR .i64 (turn+1)])
 (hg:G Try.prog E (f22K1 Try.prog) ⟨([J,J,.rsl (rowI draws1) 0 draws1.length,J,.rptr [.rsl (rowI plan) 0 plan.length] 0,J,.sl 2 g2 0 v2.length 1,J,J,.rptr [.rsl (Qg (((Ql s).s).stages)) 0 ((((Ql s).s).stages).length),.rsl (rowI (((Ql s).s).worth)) 0 ((((Ql s).s).worth).length),.int .i64 (((Ql s).s).price),.rsl (rowI ((Ql s).meas)) 0 (((Ql s).meas).length),.rsl (rowI ((Ql s).mult)) 0 (((Ql s).mult).length)] 0,J,.ptr 4 0 0,.int .i64 (turn+1),.int .i64 (left - te.w)]++Js 93),[⟨true,0,1,true,[.rsl (Qg s.stages) 0 s.stages.length,.rsl (rowI s.worth) 0 s.worth.length,.int .i64 s.price],false⟩,⟨false,1,1,true,[],false⟩,⟨true,g2,1,true,(rowI v2),true⟩,⟨true,0,1,true,[.int .i64 v3_0],true⟩,⟨true,0,1,true,[.int .i64 v4_0,.int .i64 v4_1,.rsl (Qs v4_2) 0 v4_2.length],false⟩]⟩):G Try.prog E (f22K1 Try.prog) (f22S1 s plan draws turn left v4_0 v4_1 v4_2 v3_0 v2 draws1 g2) :=
 Qm (n:=400) (ds:=[]) (cs:=[]) (live:=[2,4,6,9,11,12,13]) (m:=5) (evs:=[.auto,.ld (.int .i64 te.w),.b true,.auto,.ld (.int .i64 te.w),.stop]) (obs:=_) hE.2.1 (hE.nogh _) Qy (by kernel_rfl) ho hg
theorem p22_1_1 (s:Stl) (plan:(List Int)) (draws:(List Int)) (turn:Int) (left:Int) (v4_0:Int) (v4_1:Int) (v4_2:(List Trn)) (v3_0:Int) (v2:List Int) (draws1:(List Int)) (g2:Nat) (te:Trn) {E:Env} {rv:AV} (hE:Qj Try.prog 22 rv E) (ho:AllP [0≤turn∧turn<(v4_2.length:Int),((Qs v4_2).drop ((0+(Int.toNat turn)*2)+0)).take 1=[.int .i64 te.w],(decide (left≥te.w))=false,1≤draws1.length,draws1.length≤draws1.length,(0:Int)≤1,0≤turn∧turn<(v4_2.length:Int),((Qs v4_2).drop ((0+(Int.toNat turn)*2)+1)).take 1=[.int .i64 te.to]])
 (hg:G Try.prog E (yx Try.prog) ⟨([J,J,.rsl (rowI draws1) 1 (draws1.length - 1),J,.rptr [.rsl (rowI plan) 0 plan.length] 0,J,.sl 2 g2 0 v2.length 1,J,J,.rptr [.rsl (Qg (((Ql s).s).stages)) 0 ((((Ql s).s).stages).length),.rsl (rowI (((Ql s).s).worth)) 0 ((((Ql s).s).worth).length),.int .i64 (((Ql s).s).price),.rsl (rowI ((Ql s).meas)) 0 (((Ql s).meas).length),.rsl (rowI ((Ql s).mult)) 0 (((Ql s).mult).length)] 0,.int .i64 te.to]++Js 96),[⟨true,0,1,true,[.rsl (Qg s.stages) 0 s.stages.length,.rsl (rowI s.worth) 0 s.worth.length,.int .i64 s.price],false⟩,⟨false,1,1,true,[],false⟩,⟨true,g2,1,true,(rowI v2),true⟩]⟩):G Try.prog E (f22K1 Try.prog) (f22S1 s plan draws turn left v4_0 v4_1 v4_2 v3_0 v2 draws1 g2) :=
 Qm (n:=400) (ds:=[]) (cs:=[]) (live:=[2,4,6,9,10]) (m:=3) (evs:=[.auto,.ld (.int .i64 te.w),.b false,.auto,.ld (.int .i64 te.to),.stop]) (obs:=_) hE.2.1 (hE.nogh _) Qy (by kernel_rfl) ho hg
theorem f22W1 (s:Stl) (plan:(List Int)) (draws:(List Int)) (turn:Int) (left:Int) (v4_0:Int) (v4_1:Int) (v4_2:(List Trn)) (v3_0:Int) (v2:List Int) (draws1:(List Int)) {E:Env} {rv:((List Int) × Int × Int)} (hE:Qj Try.prog 22 (.tup [.rsl (rowI rv.1) 0 rv.1.length,.int .i64 rv.2.1,.int .i64 rv.2.2]) E)
 (h:(0≤turn∧(∃ te:Trn,v4_2[Int.toNat turn]?=some te∧((left≥te.w→((I6 (left - te.w))∧((I6 (turn+1))∧f22G1 E s plan draws (turn+1) (left - te.w) v4_0 v4_1 v4_2 v3_0 v2 draws1)))∧(¬ (left≥te.w)→(1≤draws1.length∧f22G0 E s plan draws te.to v2 (draws1.drop 1))))))):f22G1 E s plan draws turn left v4_0 v4_1 v4_2 v3_0 v2 draws1:=by
 intro g2
 obtain ⟨h2,h⟩:=h
 obtain ⟨te,h1,h⟩:=h
 rcases bft (decide (left≥te.w)) with hc0 | hc0
 · have h:=h.1 (odt hc0)
   obtain ⟨q6_1,h⟩:=h
   obtain ⟨q7_1,h⟩:=h
   exact p22_1_0 s plan draws turn left v4_0 v4_1 v4_2 v3_0 v2 draws1 g2 te hE ⟨(Qo h2 h1),(rp cTrn 2 0 1 h1),hc0,(Qo h2 h1),(rp cTrn 2 0 1 h1),q6_1,q7_1,trivial⟩ (h g2)
 · have h:=h.2 (odf hc0)
   obtain ⟨q4_1,h⟩:=h
   refine p22_1_1 s plan draws turn left v4_0 v4_1 v4_2 v3_0 v2 draws1 g2 te hE ⟨(Qo h2 h1),(rp cTrn 2 0 1 h1),hc0,q4_1,(Nat.le_refl _),(by decide),(Qo h2 h1),(rp cTrn 2 1 1 h1),trivial⟩ ?_
   refine YK (t:=2) (v':=.rsl (rowI (draws1.drop 1)) 0 ((draws1.drop 1).length)) rfl rfl rfl (by exact qH cI (s:=1) (fun _=>rfl) 1 (by omega) (by first | rfl | omega | simp)) ?_
   simp only [List.set_cons_succ,List.set_cons_zero]
   skip; exact (h g2)
theorem Yd (s:Stl) (plan draws:List Int) (h:(s.stages.length≤9223372036854775807∧s.worth.length≤9223372036854775807)):Pure Try.prog 22 [avStl s,.rsl (rowI plan) 0 plan.length,.rsl (rowI draws) 0 draws.length] (.tup [.rsl (rowI (Qv s plan draws).1) 0 (Qv s plan draws).1.length,.int .i64 (Qv s plan draws).2.1,.int .i64 (Qv s plan draws).2.2]):=QF Try.func22 f22b fun E hE=>by
 have main:Wj s plan=0→f22G0 E s plan draws 0 [] draws:=by
  intro he
  obtain ⟨hc,hpl⟩:=planE_of he
  obtain ⟨hm,es⟩:=mok_G (Wv hc)
  have hform:=(XP hm.st).2.2.2.2
  have hn:=(XP hm.st).1
  rw [es] at hform hn
  have hrv:Qv s plan draws=Vc s plan s.stages.length 0 [] draws:=by rw [Qv,if_pos he]
  have key:∀ (n:Nat) (at_:Int) (v ds:List Int) ,0≤at_→at_<(s.stages.length:Int)→(s.stages.length:Int)≤at_+n→(v.length:Int)≤at_→Qv s plan draws=Vc s plan n at_ v ds→f22G0 E s plan draws at_ v ds:=by
   intro n
   induction n with
   | zero=>intro at_ v ds h0 h1 h2 h3 h4; omega
   | succ n ih =>
    intro at_ v ds h0 h1 h2 h3 h4
    have hi:s.stages[Int.toNat at_]?=some s.stages[Int.toNat at_]:=List.getElem?_eq_getElem (by omega)
    have hx:s.stages.getD (Int.toNat at_) ⟨0,0,[]⟩=s.stages[Int.toNat at_]:=by simp [List.getD,hi]
    have hto:=VY hi (hform _ (by omega))
    have htt:=tot_of hi (hform _ (by omega))
    have hfo:=YX hi (hform _ (by omega))
    obtain ⟨e,hpe,he0,he1⟩:=(planOk_of hpl).2 _ _ hi
    have hpi:planI plan at_=e:=by simp [planI,List.getD,hpe]
    unfold Vc at h4
    rw [hx,hpi] at h4
    generalize s.stages[Int.toNat at_]=x at hi hto htt hfo he1 h4
    have nx:=fun (t:Trn) (ht:t ∈ x.turns) (ds':List Int) (h5:Qv s plan draws=Vc s plan n t.to (v++[at_]) ds')=>ih t.to (v++[at_]) ds' (by have:=hto t ht; omega) (by have:=hto t ht; omega) (by have:=hto t ht; omega) (by have:=hto t ht; simp; omega) h5
    refine f22W0 s plan draws at_ v ds (rv:=Qv s plan draws) hE ⟨h0,x,by rw [es]; exact hi,fun k4=>?_,fun h4'=>⟨by omega,?_⟩⟩
    · rw [if_neg k4] at h4
      refine ⟨by omega,h0,e,hpe,fun k1=>?_,fun k1=>?_⟩
      · rw [if_pos k1] at h4
        have hz:e=0:=by rw [Xn,if_neg (by omega)] at he1; omega
        have hto2:=htt.2 k1
        cases ds with
        | nil=>exact ⟨fun _=>h4,fun h=>absurd rfl h⟩
        | cons d ds =>
        simp only at h4
        refine ⟨fun h=>by simp at h; omega,fun _=>⟨d,rfl,htt.1,by omega,fun hw=>?_,fun hw=>?_⟩⟩
        · rw [hw] at h4; exact h4
        rw [if_pos hw] at h4
        have hwd:=QJ.1 hw
        have hmem:=WG (ts:=x.turns) (d:=d) hwd.1 (by have:=hwd.2; rw [totI] at this; omega)
        have loop:∀ (m k:Nat) (left:Int),k+m=x.turns.length→0≤left→left<((x.turns.drop k).map (·.w)).sum→drawT (x.turns.drop k) left=drawT x.turns d→f22G1 E s plan draws (k:Int) left x.kind x.prize x.turns at_ (v++[at_]) (d :: ds):=by
         intro m
         induction m with
         | zero =>
          intro k left hk hl0 hl1 hd
          rw [List.drop_eq_nil_of_le (by omega)] at hl1; simp at hl1; omega
         | succ m ih2 =>
          intro k left hk hl0 hl1 hd
          have hkk:x.turns[k]?=some x.turns[k]:=List.getElem?_eq_getElem (by omega)
          have htm:=List.mem_of_getElem? hkk
          rw [List.drop_eq_getElem_cons (by omega)] at hl1 hd
          simp only [List.map_cons,List.sum_cons,drawT] at hl1 hd
          generalize x.turns[k]=te at hkk htm hl1 hd
          have hw:=htt.1.2 te htm
          have htl:=htt.1.1
          have hlb:left≤1000000000:=by
           have:=tot_bd (l:=x.turns.drop (k+1)) (B:=1000000) fun t ht=>htt.1.2 t (List.mem_of_mem_drop ht)
           have h9:((x.turns.drop (k+1)).length:Int)≤998:=by rw [List.length_drop]; rcases hfo with ⟨q,-⟩ | ⟨-,-,q,-⟩ <;> omega
           omega
          refine f22W1 s plan draws (k:Int) left x.kind x.prize x.turns at_ (v++[at_]) (d :: ds) (rv:=Qv s plan draws) hE ⟨by omega,te,by rw [Int.toNat_natCast]; exact hkk,fun hge=>⟨by omega,by omega,?_⟩,fun hge=>⟨by simp,?_⟩⟩
          · rw [if_pos hge] at hd
            exact ih2 (k+1) (left - te.w) (by omega) (by omega) (by omega) hd
          · rw [if_neg hge] at hd
            rw [← hd] at h4
            exact nx te htm ds h4
        rw [hz]
        exact loop x.turns.length 0 d (by omega) hwd.1 (by have:=hwd.2; rw [totI] at this; simpa using (by omega:d<(x.turns.map (·.w)).sum)) (by simp)
      · rw [if_neg k1] at h4
        have hel:Int.toNat e<x.turns.length:=by
         rcases hfo with ⟨q,-⟩ | ⟨q0,-,q,-⟩
         · exact absurd q k4
         · rw [Xn,if_pos (by omega)] at he1; omega
        have hte:x.turns[Int.toNat e]?=some x.turns[Int.toNat e]:=List.getElem?_eq_getElem hel
        rw [show x.turns.getD (Int.toNat e) ⟨0,0⟩=x.turns[Int.toNat e] by simp [List.getD,hte]] at h4
        have htm:=List.mem_of_getElem? hte
        generalize x.turns[Int.toNat e]=te at hte htm h4
        exact ⟨he0,te,hte,nx te htm ds h4⟩
    · rw [if_pos h4'] at h4
      exact h4
  exact key s.stages.length 0 [] draws (by omega) (by omega) (by omega) (by simp) hrv
 refine f22W s plan draws (rv:=Qv s plan draws) hE ⟨fun h0=>⟨fun h1=>⟨h,main ?_⟩,fun h1=>⟨h,?_⟩⟩,fun h0=>⟨h,?_⟩⟩
 · rw [planE_eq h0,if_pos h1]
 · have he:Wj s plan=1:=by rw [planE_eq h0,if_neg (by rw [h1]; simp)]
   rw [Qv,if_neg (by omega),he]
 · have he:Wj s plan=60:=by rw [Wj,if_neg (fun h=>by rw [qk.2 h] at h0; cases h0)]
   rw [Qv,if_neg (by omega),he]
end Go.Proofs.Ytemklbioijmjiaa
namespace Go.Proofs.Ytemklbioijmjiaa
open Go Ax
open Go.Proofs
/-! ### Fractions in parts of the measure -/
end Go.Proofs.Ytemklbioijmjiaa
namespace Go.Proofs.Ytemklbioijmjiaa
open Go Ax
open Go.Proofs
/-! ### Printed -/
/-! ### Handed -/
end Go.Proofs.Ytemklbioijmjiaa
namespace Go.Proofs.Ytemklbioijmjiaa
open Go Ax
open Go.Proofs
def sumI (l:List Int):Int:=l.sum
end Go.Proofs.Ytemklbioijmjiaa
namespace Go.Proofs.Ytemklbioijmjiaa
open Go Ax
open Go.Proofs
def shareI (c S w:Int):Int:=Int.tdiv (c*w) S
structure SplitOk (c:Int) (ws:List Int):Prop where
 len1:1≤ws.length
 len:ws.length≤10
 w:∀ x ∈ ws,0≤x∧x≤1000
 pos:0<sumI ws
 c0:0≤c
 c1:c≤1000000000
end Go.Proofs.Ytemklbioijmjiaa
namespace Go.Proofs.Ytemklbioijmjiaa
open Go Ax
open Go.Proofs
structure Bra where
 from_:Int
 per:Int
/-- Sorted,in range. -/
def BrS (l:List Bra):Prop:=(∀ b ∈ l,0≤b.from_∧b.from_≤1000000000∧0≤b.per∧b.per≤100)∧l.Pairwise fun a b=>a.from_<b.from_
theorem BrS.drop {l:List Bra} (h:BrS l) (i:Nat):BrS (l.drop i):=⟨fun b hb=>h.1 b (List.mem_of_mem_drop hb),h.2.sublist (List.drop_sublist _ _)⟩
end Go.Proofs.Ytemklbioijmjiaa
namespace Go.Proofs.Ytemklbioijmjiaa
open Go Ax
open Go.Proofs
/-- What the parts are. -/
structure Parts (c:Int) (ws:List Int) (p:List Int):Prop where
 len:p.length=ws.length
 sum:p.sum=c
 low:∀ (i:Nat) (w x:Int),ws[i]?=some w→p[i]?=some x→x=shareI c (sumI ws) w ∨ (x=shareI c (sumI ws) w+1∧Int.tmod (c*w) (sumI ws) ≠ 0)
 same:∀ (k i:Nat) (w x y:Int),k<i→ws[k]?=some w→ws[i]?=some w→p[k]?=some x→p[i]?=some y→y≤x∧x≤y+1
end Go.Proofs.Ytemklbioijmjiaa
namespace Go.Proofs.Ytemklbioijmjiaa
open Go Ax
open Go.Proofs
structure Stn where
 s:Stl
 stock:List Int
 weights:List Int
/-- How many of these stages draw. -/
def Vp (s:Stl) (l:List Int):Nat:=(l.filter fun e=>decide ((s.stages.getD (Int.toNat e) ⟨0,0,[]⟩).kind=1)).length
theorem usedN_le {s:Stl} {l:List Int}:Vp s l≤l.length:=List.length_filter_le _ _
theorem WX {s:Stl} {e:Int} {l:List Int}:Vp s (e :: l)=(if (s.stages.getD (Int.toNat e) ⟨0,0,[]⟩).kind=1 then 1 else 0)+Vp s l:=by
 unfold Vp
 rw [List.filter_cons]
 split
 · rename_i h
   rw [if_pos (by simpa using h),List.length_cons]; omega
 · rename_i h
   rw [if_neg (by simpa using h)]; omega
theorem usedN_take {s:Stl} {l:List Int} {k:Nat} {e:Int} (h:l[k]?=some e):Vp s (l.take (k+1))=Vp s (l.take k)+(if (s.stages.getD (Int.toNat e) ⟨0,0,[]⟩).kind=1 then 1 else 0):=by
 rw [List.take_add_one,h]
 unfold Vp
 rw [List.filter_append,List.length_append]
 congr 1
 have:=WX (s:=s) (e:=e) (l:=[])
 unfold Vp at this
 simpa using this
theorem play_use {s:Stl} (hc:Xb s=0) {plan:List Int} (hpl:QU s plan=true):∀ (n:Nat) (at_:Int) (v ds:List Int),0≤at_→at_<(s.stages.length:Int)→(s.stages.length:Int)≤at_+n→(Vc s plan n at_ v ds).2.2=0 →
 ∃ r,(Vc s plan n at_ v ds).1=v++r∧(∀ e ∈ r,0≤e∧e<(s.stages.length:Int))∧Vp s r≤ds.length:=by
 obtain ⟨hm,es⟩:=mok_G (Wv hc)
 have hform:=(XP hm.st).2.2.2.2
 rw [es] at hform
 intro n
 induction n with
 | zero=>intro at_ v ds h0 h1 h2; omega
 | succ n ih =>
  intro at_ v ds h0 h1 h2 h3
  have hi:s.stages[Int.toNat at_]?=some s.stages[Int.toNat at_]:=List.getElem?_eq_getElem (by omega)
  have hx:s.stages.getD (Int.toNat at_) ⟨0,0,[]⟩=s.stages[Int.toNat at_]:=by simp [List.getD,hi]
  have hto:=VY hi (hform _ (by omega))
  have hfo:=YX hi (hform _ (by omega))
  obtain ⟨e,hpe,he0,he1⟩:=(planOk_of hpl).2 _ _ hi
  have hpi:planI plan at_=e:=by simp [planI,List.getD,hpe]
  have hus:∀ r,Vp s (at_ :: r)=(if (s.stages[Int.toNat at_]).kind=1 then 1 else 0)+Vp s r:=fun r=>by rw [WX,hx]
  have hmm:∀ r:List Int,(∀ e ∈ r,0≤e∧e<(s.stages.length:Int))→∀ e ∈ at_ :: r,0≤e∧e<(s.stages.length:Int):=fun r hr e he=>by
   rcases List.mem_cons.1 he with rfl | he
   · exact ⟨h0,h1⟩
   · exact hr e he
  unfold Vc at h3 ⊢
  rw [hx,hpi] at h3 ⊢
  generalize s.stages[Int.toNat at_]=x at hi hto hfo he1 h3 hus ⊢
  split at h3
  · rename_i h4
    rw [if_pos h4]
    refine ⟨[at_],rfl,hmm [] (by simp),?_⟩
    rw [hus,if_neg (by omega)]; simp [Vp]
  · rename_i h4
    rw [if_neg h4]
    split at h3
    · rename_i h1'
      rw [if_pos h1']
      cases ds with
      | nil=>simp at h3
      | cons d ds =>
       simp only at h3 ⊢
       split at h3
       · rename_i hw
         rw [if_pos hw]
         have hwd:=QJ.1 hw
         have hmem:=WG (ts:=x.turns) (d:=d) hwd.1 (by have:=hwd.2; rw [totI] at this; omega)
         have h5:=hto _ hmem
         obtain ⟨r,a,b,c⟩:=ih _ (v++[at_]) ds (by omega) (by omega) (by omega) h3
         refine ⟨at_ :: r,by rw [a]; simp,hmm r b,?_⟩
         rw [hus,if_pos h1',List.length_cons]; omega
       · simp at h3
    · rename_i h1'
      rw [if_neg h1']
      have hel:Int.toNat e<x.turns.length:=by
       rcases hfo with ⟨q,-⟩ | ⟨q0,-,q,-⟩
       · exact absurd q h4
       · rw [Xn,if_pos (by omega)] at he1; omega
      have hte:x.turns[Int.toNat e]?=some x.turns[Int.toNat e]:=List.getElem?_eq_getElem hel
      rw [show x.turns.getD (Int.toNat e) ⟨0,0⟩=x.turns[Int.toNat e] by simp [List.getD,hte]] at h3 ⊢
      have hmem:=List.mem_of_getElem? hte
      have h5:=hto _ hmem
      obtain ⟨r,a,b,c⟩:=ih _ (v++[at_]) ds (by omega) (by omega) (by omega) h3
      refine ⟨at_ :: r,by rw [a]; simp,hmm r b,?_⟩
      rw [hus,if_neg h1']; omega
end Go.Proofs.Ytemklbioijmjiaa
namespace Go.Proofs.Ytemklbioijmjiaa
open Go Ax
open Go.Proofs
theorem tTrn (W:World):Dec Try.prog W 204 Trn cTrn (fun a=>True):=by
 refine Dec.map (YR Try.underlying204 rfl (tot:=2) (by kernel_rfl) (Xk (n:=1) (tot:=2) (by kernel_rfl) rfl (YY Try.underlying3) (Xk (n:=1) (tot:=2) (by kernel_rfl) rfl (YY Try.underlying3) Vm (by decide)) (by decide))) (fun x=>(⟨x.1,x.2.1⟩:Trn)) ?_ ?_
 · exact fun _=>rfl
 · exact fun _ _=>trivial
theorem tTrns (W:World):Dec Try.prog W 66 (List Trn) (fun a=>[.rsl (Qs a) 0 a.length]) (fun a=>a.length≤9223372036854775807):=by
 refine Dec.map (WH Try.underlying66 (n:=2) (by kernel_rfl) (by decide) (fun _=>rfl) (fun _=>rfl) (tTrn W)) (fun x=>x) ?_ ?_
 · exact fun _=>rfl
 · exact fun _ h=>h.1
theorem tStg (W:World):Dec Try.prog W 68 Stg cStg (fun a=>True):=by
 refine Dec.map (YR Try.underlying68 rfl (tot:=3) (by kernel_rfl) (Xk (n:=1) (tot:=3) (by kernel_rfl) rfl (YY Try.underlying3) (Xk (n:=1) (tot:=3) (by kernel_rfl) rfl (YY Try.underlying3) (Xk (n:=1) (tot:=3) (by kernel_rfl) rfl (tTrns W) Vm (by decide)) (by decide)) (by decide))) (fun x=>(⟨x.1,x.2.1,x.2.2.1⟩:Stg)) ?_ ?_
 · exact fun _=>rfl
 · exact fun _ _=>trivial
theorem tStgs (W:World):Dec Try.prog W 61 (List Stg) (fun a=>[.rsl (Qg a) 0 a.length]) (fun a=>a.length≤9223372036854775807):=by
 refine Dec.map (WH Try.underlying61 (n:=3) (by kernel_rfl) (by decide) (fun _=>rfl) (fun _=>rfl) (tStg W)) (fun x=>x) ?_ ?_
 · exact fun _=>rfl
 · exact fun _ h=>h.1
theorem tStl (W:World):Dec Try.prog W 63 Stl (fun a=>[.rsl (Qg a.stages) 0 a.stages.length,.rsl (rowI a.worth) 0 a.worth.length,.int .i64 a.price]) (fun a=>True):=by
 refine Dec.map (YR Try.underlying63 rfl (tot:=3) (by kernel_rfl) (Xk (n:=1) (tot:=3) (by kernel_rfl) rfl (tStgs W) (Xk (n:=1) (tot:=3) (by kernel_rfl) rfl (tInts W) (Xk (n:=1) (tot:=3) (by kernel_rfl) rfl (YY Try.underlying3) Vm (by decide)) (by decide)) (by decide))) (fun x=>(⟨x.1,x.2.1,x.2.2.1⟩:Stl)) ?_ ?_
 · exact fun _=>rfl
 · exact fun _ _=>trivial
end Go.Proofs.Ytemklbioijmjiaa