/- A part of the proof: several texts, one behind the other. -/
import Derived.Test.YtemklbioijmjiaaLTopPrizesB
import Derived.Test.YtemklbioijmjiaaChecked
set_option linter.unusedVariables false
set_option linter.unusedSimpArgs false
set_option maxRecDepth 100000
namespace Go.Proofs.Ytemklbioijmjiaa
open Go Ax
open Go.Proofs
abbrev NN:Int:=1152921504606846976
/-- The prices so far. -/
def LP (f:Nat→Int) (j:Nat):List Int:=(List.range 1008).map fun i=>if i<j then f i else NN
theorem yb {f:Nat→Int} {j:Nat}:(LP f j).length=1008:=by simp [LP]
theorem Yn {f:Nat→Int} {j i:Nat} (h:i<1008):(LP f j)[i]?=some (if i<j then f i else NN):=by
 unfold LP; rw [List.getElem?_map,List.getElem?_range h]; rfl
theorem LP_set {f:Nat→Int} {j:Nat} (h:j<1008):(LP f j).set j (f j)=LP f (j+1):=by
 refine List.ext_getElem? fun i=>?_
 by_cases hi:i<1008
 · rw [Yn hi]
   by_cases e:j=i
   · subst e
     rw [List.getElem?_set_self (by rw [yb]; omega),if_pos (by omega)]
   · rw [List.getElem?_set_ne e,Yn hi]
     by_cases c:i<j
     · rw [if_pos c,if_pos (by omega)]
     · rw [if_neg c,if_neg (by omega)]
 · rw [List.getElem?_eq_none (by rw [List.length_set,yb]; omega),List.getElem?_eq_none (by rw [yb]; omega)]
theorem LP_zero {f:Nat→Int}:List.replicate 1008 NN=LP f 0:=by
 refine List.ext_getElem? fun i=>?_
 by_cases hi:i<1008
 · rw [Yn hi,List.getElem?_replicate,if_pos hi,if_neg (by omega)]
 · rw [List.getElem?_eq_none (by simp; omega),List.getElem?_eq_none (by rw [yb]; omega)]
def c1 (t:Nat):Int:=if t % 6=0 then 1000*((t / 6:Nat):Int) else NN
def c0 (t:Nat):Int:=1000*((t / 6:Nat):Int)+200*((t % 6:Nat):Int)
def r2:List Int:=(List.replicate 1008 NN).set 0 0
theorem r2_get {j:Nat} (h:j<1008):r2[j]?=some (if j=0 then 0 else NN):=by
 unfold r2
 by_cases e:j=0
 · subst e; rw [List.getElem?_set_self (by simp),if_pos rfl]
 · rw [List.getElem?_set_ne (by omega),List.getElem?_replicate,if_pos h,if_neg e]
theorem VA {t:Nat} (h:t<1008) (h6:t % 6=0):c1 t=1000*((t / 6:Nat):Int)∧0≤c1 t∧c1 t≤200000:=by
 unfold c1; rw [if_pos h6]; omega
theorem qi {t:Nat} (h6:¬ t % 6=0):c1 t=NN:=by unfold c1; rw [if_neg h6]
theorem c0_bd {t:Nat} (h:t<1008):0≤c0 t∧c0 t≤200000:=by unfold c0; omega
theorem c0_step {j:Nat} (h0:1≤j) (h:j<1008):iMin (c1 j) (c0 (j - 1)+200)=c0 j:=by
 unfold iMin
 by_cases h6:j % 6=0
 · obtain ⟨e,-,-⟩:=VA h h6
   rw [e]
   unfold c0
   rw [if_neg (by omega)]; omega
 · rw [qi h6]
   unfold c0 NN
   rw [if_pos (by omega)]; omega
theorem c1_step {j:Nat} (h0:6≤j) (h:j<1008) (h6:(j - 6) % 6=0):iMin NN (c1 (j - 6)+1000)=c1 j:=by
 obtain ⟨e,-,-⟩:=VA (t:=j - 6) (by omega) h6
 obtain ⟨e',-,-⟩:=VA (t:=j) (by omega) (by omega)
 rw [e,e']
 unfold iMin NN
 rw [if_pos (by omega)]; omega
theorem f186b:Try.f186.body=some (Qb Try.prog 186):=by kernel_rfl
theorem u186 {a c k:List AV} {r:AV} (h:Pure Try.prog 186 (a++c++k) r):Qi Try.prog (.clos 186 a k) c r:=Qk Try.func186 (by kernel_rfl) f186b h
def Vw (P:Program):List Item:=kAt 400 [.code (Qb P 186)] [.b true,.b true,.b true,.b false,.b true,.b false,.b true,.stop]
def Wg (v4:List Int) (v6:List Int) (j:Nat) (v2:List Int) (g4:Nat) (g6:Nat) (g2:Nat):St:=⟨([.rsl [.int .i64 1,.int .i64 200,.int .i64 6,.int .i64 1000] 0 2,.int .i64 7,J,J,J,J,.int .i64 1007,.sl 0 0 0 3 1,J,.int .i64 0]++jj 43 ([.int .i64 (((List.replicate (Int.toNat (1008:Int)) (1152921504606846976:Int)).length:Nat):Int),.int .i64 (j:Int)]++Js 163)),[⟨true,0,1,false,[.sl 2 g2 0 v2.length 1,.sl 4 g4 0 v4.length 1,.sl 6 g6 0 v6.length 1],true⟩,⟨false,1,1,true,[],false⟩,⟨true,g2,1,true,(rowI v2),true⟩,⟨false,1,1,true,[],false⟩,⟨true,g4,1,true,(rowI v4),true⟩,⟨false,1,1,true,[],false⟩,⟨true,g6,1,true,(rowI v6),true⟩]⟩
def qT (E:Env) (v4:List Int) (v6:List Int) (j:Nat) (v2:List Int):Prop:=∀ g4 g6 g2:Nat,G Try.prog E (Vw Try.prog) (Wg v4 v6 j v2 g4 g6 g2)
def Wh (P:Program):List Item:=kAt 400 [.code (Qb P 186)] [.b true,.b true,.b true,.b false,.b true,.b false,.b true,.b false,.b false,.stop]
def f186S3 (v2:List Int) (v4:List Int) (v6:List Int) (t:Nat) (tokens:Nat) (g2:Nat) (g4:Nat) (g6:Nat):St:=⟨([.rsl [.int .i64 1,.int .i64 200,.int .i64 6,.int .i64 1000] 0 2]++jj 5 ([.int .i64 1007,.sl 0 0 0 3 1,J,J,J,J,.int .i64 (tokens:Int),.int .i64 (t:Int)]++Js 204)),[⟨true,0,1,false,[.sl 2 g2 0 v2.length 1,.sl 4 g4 0 v4.length 1,.sl 6 g6 0 v6.length 1],true⟩,⟨false,1,1,true,[],false⟩,⟨true,g2,1,true,(rowI v2),true⟩,⟨false,1,1,true,[],false⟩,⟨true,g4,1,true,(rowI v4),true⟩,⟨false,1,1,true,[],false⟩,⟨true,g6,1,true,(rowI v6),true⟩]⟩
def f186G3 (E:Env) (v2:List Int) (v4:List Int) (v6:List Int) (t:Nat) (tokens:Nat):Prop:=∀ g2 g4 g6:Nat,G Try.prog E (Wh Try.prog) (f186S3 v2 v4 v6 t tokens g2 g4 g6)
def WW (P:Program):List Item:=kAt 400 [.code (Qb P 186)] [.b true,.b true,.b true,.b false,.b true,.b false,.b true,.b false,.b false,.b false,.b false,.b true,.stop]
def f186S5 (price:Int) (tokens:Int) (left:Int) (v2:List Int) (v4:List Int) (v6:List Int) (v7_0:Nat) (g2:Nat) (g4:Nat) (g6:Nat):St:=⟨([J,J,J,J,.sl 7 0 0 2 1,.int .i64 price,J,.sl 0 0 0 3 1,J,J,J,J,.int .i64 tokens,J,.int .i64 0,.ptr 8 0 0,.int .i64 left]++jj 133 ([.rsl [.int .i64 1,.int .i64 200,.int .i64 6,.int .i64 1000] 0 2,.int .i64 2,.int .i64 0]++Js 65)),[⟨true,0,1,false,[.sl 2 g2 0 v2.length 1,.sl 4 g4 0 v4.length 1,.sl 6 g6 0 v6.length 1],true⟩,⟨false,1,1,true,[],false⟩,⟨true,g2,1,true,(rowI v2),true⟩,⟨false,1,1,true,[],false⟩,⟨true,g4,1,true,(rowI v4),true⟩,⟨false,1,1,true,[],false⟩,⟨true,g6,1,true,(rowI v6),true⟩,⟨true,0,1,true,[.int .i64 (v7_0:Int),.int .i64 0],true⟩,⟨true,0,1,true,[.int .i64 1,.int .i64 200],false⟩]⟩
def f186G5 (E:Env) (price:Int) (tokens:Int) (left:Int) (v2:List Int) (v4:List Int) (v6:List Int) (v7_0:Nat):Prop:=∀ g2 g4 g6:Nat,G Try.prog E (WW Try.prog) (f186S5 price tokens left v2 v4 v6 v7_0 g2 g4 g6)
def XF (P:Program):List Item:=kAt 400 [.code (Qb P 186)] [.b true,.b true,.b true,.b false,.b true,.stop]
def XD (v6:List Int) (j:Nat) (v4:List Int) (g6:Nat) (g4:Nat):St:=⟨([.rsl [.int .i64 1,.int .i64 200,.int .i64 6,.int .i64 1000] 0 2,.int .i64 7,J,J,J,J,.int .i64 1007,.sl 0 0 0 3 1,J,.int .i64 1]++jj 43 ([.int .i64 (((List.replicate (Int.toNat (1008:Int)) (1152921504606846976:Int)).length:Nat):Int),.int .i64 (j:Int)]++Js 163)),[⟨true,0,1,false,[.sl 2 0 0 ((List.replicate (Int.toNat (1008:Int)) (1152921504606846976:Int)).length) 1,.sl 4 g4 0 v4.length 1,.sl 6 g6 0 v6.length 1],true⟩,⟨false,1,1,true,[],false⟩,⟨true,0,1,true,(rowI (List.replicate (Int.toNat (1008:Int)) (1152921504606846976:Int))),true⟩,⟨false,1,1,true,[],false⟩,⟨true,g4,1,true,(rowI v4),true⟩,⟨false,1,1,true,[],false⟩,⟨true,g6,1,true,(rowI v6),true⟩]⟩
def Yw (E:Env) (v6:List Int) (j:Nat) (v4:List Int):Prop:=∀ g6 g4:Nat,G Try.prog E (XF Try.prog) (XD v6 j v4 g6 g4)
def XE (P:Program):List Item:=kAt 400 [.code (Qb P 186)] [.b true,.b true,.b true,.b false,.b true,.b false,.b true,.b false,.b false,.b false,.b false,.b true,.b false,.b true,.stop]
def YP (price:Int) (tokens:Int) (left:Int) (v2:List Int) (v4:List Int) (v6:List Int) (v7_0:Nat) (v7_1:Nat) (g2:Nat) (g4:Nat) (g6:Nat):St:=⟨([J,J,J,J,.sl 7 0 0 2 1,.int .i64 price,J,.sl 0 0 0 3 1,J,J,J,J,.int .i64 tokens,J,.int .i64 1,.ptr 9 0 0,.int .i64 left]++jj 133 ([.rsl [.int .i64 1,.int .i64 200,.int .i64 6,.int .i64 1000] 0 2,.int .i64 2,.int .i64 1]++Js 65)),[⟨true,0,1,false,[.sl 2 g2 0 v2.length 1,.sl 4 g4 0 v4.length 1,.sl 6 g6 0 v6.length 1],true⟩,⟨false,1,1,true,[],false⟩,⟨true,g2,1,true,(rowI v2),true⟩,⟨false,1,1,true,[],false⟩,⟨true,g4,1,true,(rowI v4),true⟩,⟨false,1,1,true,[],false⟩,⟨true,g6,1,true,(rowI v6),true⟩,⟨true,0,1,true,[.int .i64 (v7_0:Int),.int .i64 (v7_1:Int)],true⟩,⟨true,0,1,true,[.int .i64 1,.int .i64 200],false⟩,⟨true,0,1,true,[.int .i64 6,.int .i64 1000],false⟩]⟩
def Yd (E:Env) (price:Int) (tokens:Int) (left:Int) (v2:List Int) (v4:List Int) (v6:List Int) (v7_0:Nat) (v7_1:Nat):Prop:=∀ g2 g4 g6:Nat,G Try.prog E (XE Try.prog) (YP price tokens left v2 v4 v6 v7_0 v7_1 g2 g4 g6)
theorem p186_start_0 (e:Int) {E:Env} {rv:AV} (hE:Qg Try.prog 186 rv E) (ho:AllP [InR .i64 1007,InR .i64 3,(0:Int)≤3∧(3:Int)≤3∧(3:Int)≤2147483648,0=0,true=true,(∀ k,slOf 0 k (.sl k 0 0 1 1)=true),InR .i64 1008,YF Try.prog (.clos 55 [] []) [.rsl [.int .i64 1152921504606846976] 0 1,.int .i64 1008] [] (.sl 0 0 0 ((List.replicate (Int.toNat (1008:Int)) (1152921504606846976:Int)).length) 1) [⟨true,0,1,true,(rowI (List.replicate (Int.toNat (1008:Int)) (1152921504606846976:Int))),true⟩],(0:Int)≤0∧(0:Int)<((3:Nat):Int),0=0,1≤3,0=0,InR .i64 1,true=true,(∀ k,slOf 0 k (.sl k 0 0 1 1)=true),InR .i64 1008,YF Try.prog (.clos 55 [] []) [.rsl [.int .i64 1152921504606846976] 0 1,.int .i64 1008] [] (.sl 0 0 0 ((List.replicate (Int.toNat (1008:Int)) (1152921504606846976:Int)).length) 1) [⟨true,0,1,true,(rowI (List.replicate (Int.toNat (1008:Int)) (1152921504606846976:Int))),true⟩],(0:Int)≤1∧(1:Int)<((3:Nat):Int),0=0,2≤3,0=0,InR .i64 2,true=true,(∀ k,slOf 0 k (.sl k 0 0 1 1)=true),InR .i64 1008,YF Try.prog (.clos 55 [] []) [.rsl [.int .i64 1152921504606846976] 0 1,.int .i64 1008] [] (.sl 0 0 0 ((List.replicate (Int.toNat (1008:Int)) (1152921504606846976:Int)).length) 1) [⟨true,0,1,true,(rowI (List.replicate (Int.toNat (1008:Int)) (1152921504606846976:Int))),true⟩],(0:Int)≤2∧(2:Int)<((3:Nat):Int),0=0,3≤3,0=0,InR .i64 3,false=false,(0:Int)≤2∧(2:Int)<((3:Nat):Int),0=0,0=0,(0:Int)≤0∧(0:Int)<(((List.replicate (Int.toNat (1008:Int)) (1152921504606846976:Int)).length:Nat):Int),0=0,((0+0*1)+1)≤(rowI (List.replicate (Int.toNat (1008:Int)) (1152921504606846976:Int))).length,0=0,InR .i64 1,true=true,(0:Int)≤1∧(1:Int)<((3:Nat):Int),0=0,0=0,0=0])
 (hg:G Try.prog E (XF Try.prog) ⟨([.rsl [.int .i64 1,.int .i64 200,.int .i64 6,.int .i64 1000] 0 2,.int .i64 7,J,J,J,J,.int .i64 1007,.sl 0 0 0 3 1,J,.int .i64 1]++jj 43 ([.int .i64 (((List.replicate (Int.toNat (1008:Int)) (1152921504606846976:Int)).length:Nat):Int),.int .i64 0]++Js 163)),[⟨true,0,1,false,[.sl 2 0 0 ((List.replicate (Int.toNat (1008:Int)) (1152921504606846976:Int)).length) 1,.sl 4 0 0 ((List.replicate (Int.toNat (1008:Int)) (1152921504606846976:Int)).length) 1,.sl 6 0 0 ((List.replicate (Int.toNat (1008:Int)) (1152921504606846976:Int)).length) 1],true⟩,⟨false,1,1,true,[],false⟩,⟨true,0,1,true,(rowI (List.replicate (Int.toNat (1008:Int)) (1152921504606846976:Int))),true⟩,⟨false,1,1,true,[],false⟩,⟨true,0,1,true,(rowI (List.replicate (Int.toNat (1008:Int)) (1152921504606846976:Int))),true⟩,⟨false,1,1,true,[],false⟩,⟨true,0,1,true,(Qu (rowI (List.replicate (Int.toNat (1008:Int)) (1152921504606846976:Int))) (0+0*1) [.int .i64 0]),true⟩]⟩):G Try.prog E [.code (Qb Try.prog 186)] ⟨[.rsl [.int .i64 1,.int .i64 200,.int .i64 6,.int .i64 1000] 0 2,.int .i64 7]++unds (Try.f186.ntmps - 2),[]⟩ :=
 Qh (n:=400) (ds:=[]) (cs:=[]) (live:=[0,1,6,7,9,53,54]) (m:=7) (evs:=[.b true,.vn .junk,.lent [] (.sl 0 0 0 ((List.replicate (Int.toNat (1008:Int)) (1152921504606846976:Int)).length) 1) [⟨true,0,1,true,(rowI (List.replicate (Int.toNat (1008:Int)) (1152921504606846976:Int))),true⟩],.b true,.vn .junk,.lent [] (.sl 0 0 0 ((List.replicate (Int.toNat (1008:Int)) (1152921504606846976:Int)).length) 1) [⟨true,0,1,true,(rowI (List.replicate (Int.toNat (1008:Int)) (1152921504606846976:Int))),true⟩],.b true,.vn .junk,.lent [] (.sl 0 0 0 ((List.replicate (Int.toNat (1008:Int)) (1152921504606846976:Int)).length) 1) [⟨true,0,1,true,(rowI (List.replicate (Int.toNat (1008:Int)) (1152921504606846976:Int))),true⟩],.b false,.b true,.stop]) (obs:=_) hE.2.1 (hE.nogh _) Qv (by kernel_rfl) ho hg
theorem f186W {E:Env} {rv:((List Int) × Int)} (hE:Qg Try.prog 186 (.tup [.rsl (rowI rv.1) 0 rv.1.length,.int .i64 rv.2]) E)
 (h:(((1:Int)≤(1008:Int)∧(1008:Int)≤2147483648)∧(((1:Int)≤(1008:Int)∧(1008:Int)≤2147483648)∧(((1:Int)≤(1008:Int)∧(1008:Int)≤2147483648)∧(∃ e:Int,(List.replicate (Int.toNat (1008:Int)) (1152921504606846976:Int))[0]?=some e∧Yw E ((List.replicate (Int.toNat (1008:Int)) (1152921504606846976:Int)).set 0 0) 0 (List.replicate (Int.toNat (1008:Int)) (1152921504606846976:Int))))))):G Try.prog E [.code (Qb Try.prog 186)] ⟨[.rsl [.int .i64 1,.int .i64 200,.int .i64 6,.int .i64 1000] 0 2,.int .i64 7]++unds (Try.f186.ntmps - 2),[]⟩:=by
 obtain ⟨h1,h⟩:=h
 obtain ⟨h2,h⟩:=h
 obtain ⟨h3,h⟩:=h
 obtain ⟨e,h4,h⟩:=h
 refine p186_start_0 e hE ⟨(⟨by decide,by decide⟩),(⟨by decide,by decide⟩),(⟨by decide,by decide,by decide⟩),rfl,rfl,(fun k=>by simp [slOf]),(⟨by decide,by decide⟩),(XT Try.func55 (by kernel_rfl) f55b (WA (1152921504606846976:Int) (1008:Int) h1)),(⟨by decide,by decide⟩),rfl,(by decide),rfl,(⟨by decide,by decide⟩),rfl,(fun k=>by simp [slOf]),(⟨by decide,by decide⟩),(XT Try.func55 (by kernel_rfl) f55b (WA (1152921504606846976:Int) (1008:Int) h2)),(⟨by decide,by decide⟩),rfl,(by decide),rfl,(⟨by decide,by decide⟩),rfl,(fun k=>by simp [slOf]),(⟨by decide,by decide⟩),(XT Try.func55 (by kernel_rfl) f55b (WA (1152921504606846976:Int) (1008:Int) h3)),(⟨by decide,by decide⟩),rfl,(by decide),rfl,(⟨by decide,by decide⟩),rfl,(⟨by decide,by decide⟩),rfl,rfl,(Qq h4),rfl,(rf cI 1 0 1 h4),rfl,(⟨by decide,by decide⟩),rfl,(⟨by decide,by decide⟩),rfl,rfl,rfl,trivial⟩ ?_
 have h:=(h 0 0)
 simp only [XD,List.length_set] at h
 rw [(show Qu (rowI (List.replicate (Int.toNat (1008:Int)) (1152921504606846976:Int))) (0+0*1) [.int .i64 0]=rowI ((List.replicate (Int.toNat (1008:Int)) (1152921504606846976:Int)).set 0 0) from QE cI (s:=1) (k:=0) (fun _=>rfl) h4 rfl (by first | decide | simp))]
 exact h
theorem p186_1002_0 (v6:List Int) (j:Nat) (v4:List Int) (g6:Nat) (g4:Nat) (e:Int) (e1:Int) (e2:Int) (e3:Int) {E:Env} {rv:AV} (hE:Qg Try.prog 186 rv E) (ho:AllP [(decide ((j:Int)<(((List.replicate (Int.toNat (1008:Int)) (1152921504606846976:Int)).length:Nat):Int)))=true,(0:Int)≤1∧(1:Int)<((3:Nat):Int),0=0,0=0,InR .i64 2,(0:Int)≤2∧(2:Int)<((3:Nat):Int),0=0,0=0,0≤(j:Int)∧(j:Int)<(v6.length:Int),g6=g6,g6=g6,((rowI v6).drop (0+(Int.toNat (j:Int))*1)).take 1=[.int .i64 e],0≤(j:Int)∧(j:Int)<(v4.length:Int),g4=g4,((0+(Int.toNat (j:Int))*1)+1)≤(rowI v4).length,g4=g4,(0:Int)≤1∧(1:Int)<((2:Nat):Int),InR .i64 ((j:Int) - 6),(decide (((j:Int) - 6)≥0))=true,(0:Int)≤1∧(1:Int)<((3:Nat):Int),0=0,0=0,0≤((j:Int) - 6)∧((j:Int) - 6)<(v4.length:Int),g4=g4,g4=g4,((Qu (rowI v4) (0+(Int.toNat (j:Int))*1) [.int .i64 e]).drop (0+(Int.toNat ((j:Int) - 6))*1)).take 1=[.int .i64 e2],(decide (e2<1152921504606846976))=true,(0:Int)≤1∧(1:Int)<((3:Nat):Int),0=0,0=0,(0:Int)≤1∧(1:Int)<((3:Nat):Int),0=0,0=0,0≤(j:Int)∧(j:Int)<(v4.length:Int),g4=g4,g4=g4,((Qu (rowI v4) (0+(Int.toNat (j:Int))*1) [.int .i64 e]).drop (0+(Int.toNat (j:Int))*1)).take 1=[.int .i64 e3],(0:Int)≤1∧(1:Int)<((3:Nat):Int),0=0,0=0,0≤((j:Int) - 6)∧((j:Int) - 6)<(v4.length:Int),g4=g4,g4=g4,((Qu (rowI v4) (0+(Int.toNat (j:Int))*1) [.int .i64 e]).drop (0+(Int.toNat ((j:Int) - 6))*1)).take 1=[.int .i64 e2],(0:Int)≤1∧(1:Int)<((2:Nat):Int),InR .i64 (e2+1000),0≤(j:Int)∧(j:Int)<(v4.length:Int),g4=g4,((0+(Int.toNat (j:Int))*1)+1)≤(Qu (rowI v4) (0+(Int.toNat (j:Int))*1) [.int .i64 e]).length,g4=g4,InR .i64 ((j:Int)+1)])
 (hg:G Try.prog E (XF Try.prog) ⟨([.rsl [.int .i64 1,.int .i64 200,.int .i64 6,.int .i64 1000] 0 2,.int .i64 7,J,J,J,J,.int .i64 1007,.sl 0 0 0 3 1,J,.int .i64 1]++jj 43 ([.int .i64 (((List.replicate (Int.toNat (1008:Int)) (1152921504606846976:Int)).length:Nat):Int),.int .i64 ((j:Int)+1)]++Js 163)),[⟨true,0,1,false,[.sl 2 0 0 ((List.replicate (Int.toNat (1008:Int)) (1152921504606846976:Int)).length) 1,.sl 4 g4 0 v4.length 1,.sl 6 g6 0 v6.length 1],true⟩,⟨false,1,1,true,[],false⟩,⟨true,0,1,true,(rowI (List.replicate (Int.toNat (1008:Int)) (1152921504606846976:Int))),true⟩,⟨false,1,1,true,[],false⟩,⟨true,g4,1,true,(Qu (Qu (rowI v4) (0+(Int.toNat (j:Int))*1) [.int .i64 e]) (0+(Int.toNat (j:Int))*1) [.int .i64 (iMin e3 (e2+1000))]),true⟩,⟨false,1,1,true,[],false⟩,⟨true,g6,1,true,(rowI v6),true⟩]⟩):G Try.prog E (XF Try.prog) (XD v6 j v4 g6 g4) :=
 Qh (n:=400) (ds:=[]) (cs:=[]) (live:=[0,1,6,7,9,53,54]) (m:=7) (evs:=[.b true,.auto,.auto,.ld (.int .i64 e),.b true,.auto,.ld (.int .i64 e2),.b true,.auto,.auto,.ld (.int .i64 e3),.auto,.ld (.int .i64 e2),.stop]) (obs:=_) hE.2.1 (hE.nogh _) Qv (by kernel_rfl) ho hg
theorem p186_1002_1 (v6:List Int) (j:Nat) (v4:List Int) (g6:Nat) (g4:Nat) (e:Int) (e1:Int) (e2:Int) {E:Env} {rv:AV} (hE:Qg Try.prog 186 rv E) (ho:AllP [(decide ((j:Int)<(((List.replicate (Int.toNat (1008:Int)) (1152921504606846976:Int)).length:Nat):Int)))=true,(0:Int)≤1∧(1:Int)<((3:Nat):Int),0=0,0=0,InR .i64 2,(0:Int)≤2∧(2:Int)<((3:Nat):Int),0=0,0=0,0≤(j:Int)∧(j:Int)<(v6.length:Int),g6=g6,g6=g6,((rowI v6).drop (0+(Int.toNat (j:Int))*1)).take 1=[.int .i64 e],0≤(j:Int)∧(j:Int)<(v4.length:Int),g4=g4,((0+(Int.toNat (j:Int))*1)+1)≤(rowI v4).length,g4=g4,(0:Int)≤1∧(1:Int)<((2:Nat):Int),InR .i64 ((j:Int) - 6),(decide (((j:Int) - 6)≥0))=true,(0:Int)≤1∧(1:Int)<((3:Nat):Int),0=0,0=0,0≤((j:Int) - 6)∧((j:Int) - 6)<(v4.length:Int),g4=g4,g4=g4,((Qu (rowI v4) (0+(Int.toNat (j:Int))*1) [.int .i64 e]).drop (0+(Int.toNat ((j:Int) - 6))*1)).take 1=[.int .i64 e2],(decide (e2<1152921504606846976))=false,InR .i64 ((j:Int)+1)])
 (hg:G Try.prog E (XF Try.prog) ⟨([.rsl [.int .i64 1,.int .i64 200,.int .i64 6,.int .i64 1000] 0 2,.int .i64 7,J,J,J,J,.int .i64 1007,.sl 0 0 0 3 1,J,.int .i64 1]++jj 43 ([.int .i64 (((List.replicate (Int.toNat (1008:Int)) (1152921504606846976:Int)).length:Nat):Int),.int .i64 ((j:Int)+1)]++Js 163)),[⟨true,0,1,false,[.sl 2 0 0 ((List.replicate (Int.toNat (1008:Int)) (1152921504606846976:Int)).length) 1,.sl 4 g4 0 v4.length 1,.sl 6 g6 0 v6.length 1],true⟩,⟨false,1,1,true,[],false⟩,⟨true,0,1,true,(rowI (List.replicate (Int.toNat (1008:Int)) (1152921504606846976:Int))),true⟩,⟨false,1,1,true,[],false⟩,⟨true,g4,1,true,(Qu (rowI v4) (0+(Int.toNat (j:Int))*1) [.int .i64 e]),true⟩,⟨false,1,1,true,[],false⟩,⟨true,g6,1,true,(rowI v6),true⟩]⟩):G Try.prog E (XF Try.prog) (XD v6 j v4 g6 g4) :=
 Qh (n:=400) (ds:=[]) (cs:=[]) (live:=[0,1,6,7,9,53,54]) (m:=7) (evs:=[.b true,.auto,.auto,.ld (.int .i64 e),.b true,.auto,.ld (.int .i64 e2),.b false,.stop]) (obs:=_) hE.2.1 (hE.nogh _) Qv (by kernel_rfl) ho hg
theorem p186_1002_2 (v6:List Int) (j:Nat) (v4:List Int) (g6:Nat) (g4:Nat) (e:Int) (e1:Int) {E:Env} {rv:AV} (hE:Qg Try.prog 186 rv E) (ho:AllP [(decide ((j:Int)<(((List.replicate (Int.toNat (1008:Int)) (1152921504606846976:Int)).length:Nat):Int)))=true,(0:Int)≤1∧(1:Int)<((3:Nat):Int),0=0,0=0,InR .i64 2,(0:Int)≤2∧(2:Int)<((3:Nat):Int),0=0,0=0,0≤(j:Int)∧(j:Int)<(v6.length:Int),g6=g6,g6=g6,((rowI v6).drop (0+(Int.toNat (j:Int))*1)).take 1=[.int .i64 e],0≤(j:Int)∧(j:Int)<(v4.length:Int),g4=g4,((0+(Int.toNat (j:Int))*1)+1)≤(rowI v4).length,g4=g4,(0:Int)≤1∧(1:Int)<((2:Nat):Int),InR .i64 ((j:Int) - 6),(decide (((j:Int) - 6)≥0))=false,false=false,InR .i64 ((j:Int)+1)])
 (hg:G Try.prog E (XF Try.prog) ⟨([.rsl [.int .i64 1,.int .i64 200,.int .i64 6,.int .i64 1000] 0 2,.int .i64 7,J,J,J,J,.int .i64 1007,.sl 0 0 0 3 1,J,.int .i64 1]++jj 43 ([.int .i64 (((List.replicate (Int.toNat (1008:Int)) (1152921504606846976:Int)).length:Nat):Int),.int .i64 ((j:Int)+1)]++Js 163)),[⟨true,0,1,false,[.sl 2 0 0 ((List.replicate (Int.toNat (1008:Int)) (1152921504606846976:Int)).length) 1,.sl 4 g4 0 v4.length 1,.sl 6 g6 0 v6.length 1],true⟩,⟨false,1,1,true,[],false⟩,⟨true,0,1,true,(rowI (List.replicate (Int.toNat (1008:Int)) (1152921504606846976:Int))),true⟩,⟨false,1,1,true,[],false⟩,⟨true,g4,1,true,(Qu (rowI v4) (0+(Int.toNat (j:Int))*1) [.int .i64 e]),true⟩,⟨false,1,1,true,[],false⟩,⟨true,g6,1,true,(rowI v6),true⟩]⟩):G Try.prog E (XF Try.prog) (XD v6 j v4 g6 g4) :=
 Qh (n:=400) (ds:=[]) (cs:=[]) (live:=[0,1,6,7,9,53,54]) (m:=7) (evs:=[.b true,.auto,.auto,.ld (.int .i64 e),.b false,.b false,.stop]) (obs:=_) hE.2.1 (hE.nogh _) Qv (by kernel_rfl) ho hg
theorem p186_1002_3 (v6:List Int) (j:Nat) (v4:List Int) (g6:Nat) (g4:Nat) {E:Env} {rv:AV} (hE:Qg Try.prog 186 rv E) (ho:AllP [(decide ((j:Int)<(((List.replicate (Int.toNat (1008:Int)) (1152921504606846976:Int)).length:Nat):Int)))=false,InR .i64 0,true=true,(0:Int)≤0∧(0:Int)<((3:Nat):Int),0=0,0=0,0=0])
 (hg:G Try.prog E (Vw Try.prog) ⟨([.rsl [.int .i64 1,.int .i64 200,.int .i64 6,.int .i64 1000] 0 2,.int .i64 7,J,J,J,J,.int .i64 1007,.sl 0 0 0 3 1,J,.int .i64 0]++jj 43 ([.int .i64 (((List.replicate (Int.toNat (1008:Int)) (1152921504606846976:Int)).length:Nat):Int),.int .i64 0]++Js 163)),[⟨true,0,1,false,[.sl 2 0 0 ((List.replicate (Int.toNat (1008:Int)) (1152921504606846976:Int)).length) 1,.sl 4 g4 0 v4.length 1,.sl 6 g6 0 v6.length 1],true⟩,⟨false,1,1,true,[],false⟩,⟨true,0,1,true,(rowI (List.replicate (Int.toNat (1008:Int)) (1152921504606846976:Int))),true⟩,⟨false,1,1,true,[],false⟩,⟨true,g4,1,true,(rowI v4),true⟩,⟨false,1,1,true,[],false⟩,⟨true,g6,1,true,(rowI v6),true⟩]⟩):G Try.prog E (XF Try.prog) (XD v6 j v4 g6 g4) :=
 Qh (n:=400) (ds:=[]) (cs:=[]) (live:=[0,1,6,7,9,53,54]) (m:=7) (evs:=[.b false,.b true,.stop]) (obs:=_) hE.2.1 (hE.nogh _) Qv (by kernel_rfl) ho hg
theorem f186W1002 (v6:List Int) (j:Nat) (v4:List Int) {E:Env} {rv:((List Int) × Int)} (hE:Qg Try.prog 186 (.tup [.rsl (rowI rv.1) 0 rv.1.length,.int .i64 rv.2]) E)
 (h:(((j:Int)<(((List.replicate (Int.toNat (1008:Int)) (1152921504606846976:Int)).length:Nat):Int)→(∃ e:Int,v6[j]?=some e∧(∃ e1:Int,v4[j]?=some e1∧((I6 ((j:Int) - 6))∧((((j:Int) - 6)≥0→(0≤((j:Int) - 6)∧(∃ e2:Int,(v4.set j e)[Int.toNat ((j:Int) - 6)]?=some e2∧((e2<1152921504606846976→(∃ e3:Int,(v4.set j e)[j]?=some e3∧((I6 (e2+1000))∧((I6 ((j:Int)+1))∧Yw E v6 (j+1) ((v4.set j e).set j (iMin e3 (e2+1000)))))))∧(¬ (e2<1152921504606846976)→((I6 ((j:Int)+1))∧Yw E v6 (j+1) (v4.set j e)))))))∧(¬ (((j:Int) - 6)≥0)→((I6 ((j:Int)+1))∧Yw E v6 (j+1) (v4.set j e))))))))∧(¬ ((j:Int)<(((List.replicate (Int.toNat (1008:Int)) (1152921504606846976:Int)).length:Nat):Int))→qT E v4 v6 0 (List.replicate (Int.toNat (1008:Int)) (1152921504606846976:Int))))):Yw E v6 j v4:=by
 intro g6 g4
 rcases bft (decide ((j:Int)<(((List.replicate (Int.toNat (1008:Int)) (1152921504606846976:Int)).length:Nat):Int))) with hc0 | hc0
 · have h:=h.1 (odt hc0)
   obtain ⟨e,h1,h⟩:=h
   obtain ⟨e1,h2,h⟩:=h
   obtain ⟨q19_1,h⟩:=h
   rcases bft (decide (((j:Int) - 6)≥0)) with hc1 | hc1
   · have h:=h.1 (odt hc1)
     obtain ⟨h4,h⟩:=h
     obtain ⟨e2,h3,h⟩:=h
     rcases bft (decide (e2<1152921504606846976)) with hc2 | hc2
     · have h:=h.1 (odt hc2)
       obtain ⟨e3,h5,h⟩:=h
       obtain ⟨q49_3,h⟩:=h
       obtain ⟨q54_3,h⟩:=h
       refine p186_1002_0 v6 j v4 g6 g4 e e1 e2 e3 hE ⟨hc0,(⟨by decide,by decide⟩),rfl,rfl,(⟨by decide,by decide⟩),(⟨by decide,by decide⟩),rfl,rfl,(Qq h1),rfl,rfl,(rp cI 1 0 1 h1),(Qq h2),rfl,(rf cI 1 0 1 h2),rfl,(⟨by decide,by decide⟩),q19_1,hc1,(⟨by decide,by decide⟩),rfl,rfl,(by have hx:=Qm h4 h3; simpa using hx),rfl,rfl,(by rw [(show Qu (rowI v4) (0+(Int.toNat (j:Int))*1) [.int .i64 e]=rowI (v4.set j e) from QE cI (s:=1) (k:=0) (fun _=>rfl) h2 rfl (by first | decide | simp))]; exact rp cI 1 0 1 h3),hc2,(⟨by decide,by decide⟩),rfl,rfl,(⟨by decide,by decide⟩),rfl,rfl,(by have hx:=Qq h5; simpa using hx),rfl,rfl,(by rw [(show Qu (rowI v4) (0+(Int.toNat (j:Int))*1) [.int .i64 e]=rowI (v4.set j e) from QE cI (s:=1) (k:=0) (fun _=>rfl) h2 rfl (by first | decide | simp))]; exact rp cI 1 0 1 h5),(⟨by decide,by decide⟩),rfl,rfl,(by have hx:=Qm h4 h3; simpa using hx),rfl,rfl,(by rw [(show Qu (rowI v4) (0+(Int.toNat (j:Int))*1) [.int .i64 e]=rowI (v4.set j e) from QE cI (s:=1) (k:=0) (fun _=>rfl) h2 rfl (by first | decide | simp))]; exact rp cI 1 0 1 h3),(⟨by decide,by decide⟩),q49_3,(by have hx:=Qq h5; simpa using hx),rfl,(by rw [(show Qu (rowI v4) (0+(Int.toNat (j:Int))*1) [.int .i64 e]=rowI (v4.set j e) from QE cI (s:=1) (k:=0) (fun _=>rfl) h2 rfl (by first | decide | simp))]; exact rf cI 1 0 1 h5),rfl,q54_3,trivial⟩ ?_
       have h:=(h g6 g4)
       simp only [XD,List.length_set] at h
       rw [(show Qu (rowI v4) (0+(Int.toNat (j:Int))*1) [.int .i64 e]=rowI (v4.set j e) from QE cI (s:=1) (k:=0) (fun _=>rfl) h2 rfl (by first | decide | simp))]; rw [(show Qu (rowI (v4.set j e)) (0+(Int.toNat (j:Int))*1) [.int .i64 (iMin e3 (e2+1000))]=rowI ((v4.set j e).set j (iMin e3 (e2+1000))) from QE cI (s:=1) (k:=0) (fun _=>rfl) h5 rfl (by first | decide | simp))]
       exact h
     · have h:=h.2 (odf hc2)
       obtain ⟨q30_3,h⟩:=h
       refine p186_1002_1 v6 j v4 g6 g4 e e1 e2 hE ⟨hc0,(⟨by decide,by decide⟩),rfl,rfl,(⟨by decide,by decide⟩),(⟨by decide,by decide⟩),rfl,rfl,(Qq h1),rfl,rfl,(rp cI 1 0 1 h1),(Qq h2),rfl,(rf cI 1 0 1 h2),rfl,(⟨by decide,by decide⟩),q19_1,hc1,(⟨by decide,by decide⟩),rfl,rfl,(by have hx:=Qm h4 h3; simpa using hx),rfl,rfl,(by rw [(show Qu (rowI v4) (0+(Int.toNat (j:Int))*1) [.int .i64 e]=rowI (v4.set j e) from QE cI (s:=1) (k:=0) (fun _=>rfl) h2 rfl (by first | decide | simp))]; exact rp cI 1 0 1 h3),hc2,q30_3,trivial⟩ ?_
       have h:=(h g6 g4)
       simp only [XD,List.length_set] at h
       rw [(show Qu (rowI v4) (0+(Int.toNat (j:Int))*1) [.int .i64 e]=rowI (v4.set j e) from QE cI (s:=1) (k:=0) (fun _=>rfl) h2 rfl (by first | decide | simp))]
       exact h
   · have h:=h.2 (odf hc1)
     obtain ⟨q22_2,h⟩:=h
     refine p186_1002_2 v6 j v4 g6 g4 e e1 hE ⟨hc0,(⟨by decide,by decide⟩),rfl,rfl,(⟨by decide,by decide⟩),(⟨by decide,by decide⟩),rfl,rfl,(Qq h1),rfl,rfl,(rp cI 1 0 1 h1),(Qq h2),rfl,(rf cI 1 0 1 h2),rfl,(⟨by decide,by decide⟩),q19_1,hc1,rfl,q22_2,trivial⟩ ?_
     have h:=(h g6 g4)
     simp only [XD,List.length_set] at h
     rw [(show Qu (rowI v4) (0+(Int.toNat (j:Int))*1) [.int .i64 e]=rowI (v4.set j e) from QE cI (s:=1) (k:=0) (fun _=>rfl) h2 rfl (by first | decide | simp))]
     exact h
 · have h:=h.2 (odf hc0)
   exact p186_1002_3 v6 j v4 g6 g4 hE ⟨hc0,(⟨by decide,by decide⟩),rfl,(⟨by decide,by decide⟩),rfl,rfl,rfl,trivial⟩ (h g4 g6 0)
theorem p186_1005_0 (price:Int) (tokens:Int) (left:Int) (v2:List Int) (v4:List Int) (v6:List Int) (v7_0:Nat) (v7_1:Nat) (g2:Nat) (g4:Nat) (g6:Nat) (e:Int) {E:Env} {rv:AV} (hE:Qg Try.prog 186 rv E) (ho:AllP [(decide (tokens≥6))=true,(0:Int)≤1∧(1:Int)<((3:Nat):Int),0=0,0=0,InR .i64 (tokens - 6),0≤(tokens - 6)∧(tokens - 6)<(v4.length:Int),g4=g4,g4=g4,((rowI v4).drop (0+(Int.toNat (tokens - 6))*1)).take 1=[.int .i64 e],(decide (e<1152921504606846976))=true,(0:Int)≤1∧(1:Int)<((3:Nat):Int),0=0,0=0,InR .i64 (tokens - 6),0≤(tokens - 6)∧(tokens - 6)<(v4.length:Int),g4=g4,g4=g4,((rowI v4).drop (0+(Int.toNat (tokens - 6))*1)).take 1=[.int .i64 e],InR .i64 (e+1000),((e+1000) == left)=true,InR .i64 (tokens - 6),(0:Int)≤1∧(1:Int)<((2:Nat):Int),0=0,0=0,InR .i64 ((v7_1:Int)+1),(0:Int)≤1∧(1:Int)<((2:Nat):Int),0=0,2≤2,0=0,(0:Int)≤1∧(1:Int)<((3:Nat):Int),0=0,0=0,0≤(tokens - 6)∧(tokens - 6)<(v4.length:Int),g4=g4,g4=g4,((rowI v4).drop (0+(Int.toNat (tokens - 6))*1)).take 1=[.int .i64 e]])
 (hg:G Try.prog E (XE Try.prog) ⟨([J,J,J,J,.sl 7 0 0 2 1,.int .i64 price,J,.sl 0 0 0 3 1,J,J,J,J,.int .i64 (tokens - 6),J,.int .i64 1,.ptr 9 0 0,.int .i64 e]++jj 133 ([.rsl [.int .i64 1,.int .i64 200,.int .i64 6,.int .i64 1000] 0 2,.int .i64 2,.int .i64 1]++Js 65)),[⟨true,0,1,false,[.sl 2 g2 0 v2.length 1,.sl 4 g4 0 v4.length 1,.sl 6 g6 0 v6.length 1],true⟩,⟨false,1,1,true,[],false⟩,⟨true,g2,1,true,(rowI v2),true⟩,⟨false,1,1,true,[],false⟩,⟨true,g4,1,true,(rowI v4),true⟩,⟨false,1,1,true,[],false⟩,⟨true,g6,1,true,(rowI v6),true⟩,⟨true,0,1,true,[.int .i64 (v7_0:Int),.int .i64 ((v7_1:Int)+1)],true⟩,⟨true,0,1,true,[.int .i64 1,.int .i64 200],false⟩,⟨true,0,1,true,[.int .i64 6,.int .i64 1000],false⟩]⟩):G Try.prog E (XE Try.prog) (YP price tokens left v2 v4 v6 v7_0 v7_1 g2 g4 g6) :=
 Qh (n:=400) (ds:=[]) (cs:=[]) (live:=[4,5,7,12,14,15,16,150,151,152]) (m:=10) (evs:=[.b true,.auto,.auto,.ld (.int .i64 e),.b true,.auto,.auto,.ld (.int .i64 e),.b true,.auto,.auto,.auto,.ld (.int .i64 e),.stop]) (obs:=_) hE.2.1 (hE.nogh _) Qv (by kernel_rfl) ho hg
theorem p186_1005_1 (price:Int) (tokens:Int) (left:Int) (v2:List Int) (v4:List Int) (v6:List Int) (v7_0:Nat) (v7_1:Nat) (g2:Nat) (g4:Nat) (g6:Nat) (e:Int) {E:Env} {res:AV} (hE:Qg Try.prog 186 res E) (ho:AllP [(decide (tokens≥6))=true,(0:Int)≤1∧(1:Int)<((3:Nat):Int),0=0,0=0,InR .i64 (tokens - 6),0≤(tokens - 6)∧(tokens - 6)<(v4.length:Int),g4=g4,g4=g4,((rowI v4).drop (0+(Int.toNat (tokens - 6))*1)).take 1=[.int .i64 e],(decide (e<1152921504606846976))=true,(0:Int)≤1∧(1:Int)<((3:Nat):Int),0=0,0=0,InR .i64 (tokens - 6),0≤(tokens - 6)∧(tokens - 6)<(v4.length:Int),g4=g4,g4=g4,((rowI v4).drop (0+(Int.toNat (tokens - 6))*1)).take 1=[.int .i64 e],InR .i64 (e+1000),((e+1000) == left)=false,InR .i64 2,false=false,0=0])
 (hr:AvLe (.tup [.rsl [.int .i64 (v7_0:Int),.int .i64 (v7_1:Int)] 0 2,.int .i64 price]) res):G Try.prog E (XE Try.prog) (YP price tokens left v2 v4 v6 v7_0 v7_1 g2 g4 g6) :=
 Qa (n:=400) (evs:=[.b true,.auto,.auto,.ld (.int .i64 e),.b true,.auto,.auto,.ld (.int .i64 e),.b false,.b false]) (obs:=_) hE Try.func186 Qv (by kernel_rfl) ho hr
theorem p186_1005_2 (price:Int) (tokens:Int) (left:Int) (v2:List Int) (v4:List Int) (v6:List Int) (v7_0:Nat) (v7_1:Nat) (g2:Nat) (g4:Nat) (g6:Nat) (e:Int) {E:Env} {res:AV} (hE:Qg Try.prog 186 res E) (ho:AllP [(decide (tokens≥6))=true,(0:Int)≤1∧(1:Int)<((3:Nat):Int),0=0,0=0,InR .i64 (tokens - 6),0≤(tokens - 6)∧(tokens - 6)<(v4.length:Int),g4=g4,g4=g4,((rowI v4).drop (0+(Int.toNat (tokens - 6))*1)).take 1=[.int .i64 e],(decide (e<1152921504606846976))=false,false=false,InR .i64 2,false=false,0=0])
 (hr:AvLe (.tup [.rsl [.int .i64 (v7_0:Int),.int .i64 (v7_1:Int)] 0 2,.int .i64 price]) res):G Try.prog E (XE Try.prog) (YP price tokens left v2 v4 v6 v7_0 v7_1 g2 g4 g6) :=
 Qa (n:=400) (evs:=[.b true,.auto,.auto,.ld (.int .i64 e),.b false,.b false,.b false]) (obs:=_) hE Try.func186 Qv (by kernel_rfl) ho hr
theorem p186_1005_3 (price:Int) (tokens:Int) (left:Int) (v2:List Int) (v4:List Int) (v6:List Int) (v7_0:Nat) (v7_1:Nat) (g2:Nat) (g4:Nat) (g6:Nat) {E:Env} {res:AV} (hE:Qg Try.prog 186 res E) (ho:AllP [(decide (tokens≥6))=false,false=false,false=false,InR .i64 2,false=false,0=0])
 (hr:AvLe (.tup [.rsl [.int .i64 (v7_0:Int),.int .i64 (v7_1:Int)] 0 2,.int .i64 price]) res):G Try.prog E (XE Try.prog) (YP price tokens left v2 v4 v6 v7_0 v7_1 g2 g4 g6) :=
 Qa (n:=400) (evs:=[.b false,.b false,.b false,.b false]) (obs:=_) hE Try.func186 Qv (by kernel_rfl) ho hr
theorem f186W1005 (price:Int) (tokens:Int) (left:Int) (v2:List Int) (v4:List Int) (v6:List Int) (v7_0:Nat) (v7_1:Nat) {E:Env} {rv:((List Int) × Int)} (hE:Qg Try.prog 186 (.tup [.rsl (rowI rv.1) 0 rv.1.length,.int .i64 rv.2]) E)
 (h:((tokens≥6→((I6 (tokens - 6))∧(0≤(tokens - 6)∧(∃ e:Int,v4[Int.toNat (tokens - 6)]?=some e∧((e<1152921504606846976→((I6 (tokens - 6))∧((I6 (e+1000))∧(((e+1000)=left→((I6 (tokens - 6))∧((I6 ((v7_1:Int)+1))∧Yd E price (tokens - 6) e v2 v4 v6 v7_0 (v7_1+1))))∧(¬ ((e+1000)=left)→rv=([(v7_0:Int),(v7_1:Int)],price))))))∧(¬ (e<1152921504606846976)→rv=([(v7_0:Int),(v7_1:Int)],price)))))))∧(¬ (tokens≥6)→rv=([(v7_0:Int),(v7_1:Int)],price)))):Yd E price tokens left v2 v4 v6 v7_0 v7_1:=by
 intro g2 g4 g6
 rcases bft (decide (tokens≥6)) with hc0 | hc0
 · have h:=h.1 (odt hc0)
   obtain ⟨q4_1,h⟩:=h
   obtain ⟨h2,h⟩:=h
   obtain ⟨e,h1,h⟩:=h
   rcases bft (decide (e<1152921504606846976)) with hc1 | hc1
   · have h:=h.1 (odt hc1)
     obtain ⟨q14_2,h⟩:=h
     obtain ⟨q19_2,h⟩:=h
     rcases bft ((e+1000) == left) with hc2 | hc2
     · have h:=h.1 (eq_of_beq hc2)
       obtain ⟨q21_3,h⟩:=h
       obtain ⟨q25_3,h⟩:=h
       exact p186_1005_0 price tokens left v2 v4 v6 v7_0 v7_1 g2 g4 g6 e hE ⟨hc0,(⟨by decide,by decide⟩),rfl,rfl,q4_1,(Qm h2 h1),rfl,rfl,(rp cI 1 0 1 h1),hc1,(⟨by decide,by decide⟩),rfl,rfl,q14_2,(Qm h2 h1),rfl,rfl,(rp cI 1 0 1 h1),q19_2,hc2,q21_3,(⟨by decide,by decide⟩),rfl,rfl,q25_3,(⟨by decide,by decide⟩),rfl,(by decide),rfl,(⟨by decide,by decide⟩),rfl,rfl,(Qm h2 h1),rfl,rfl,(rp cI 1 0 1 h1),trivial⟩ (h g2 g4 g6)
     · have h:=h.2 (ne_of_beq_false hc2)
       exact p186_1005_1 price tokens left v2 v4 v6 v7_0 v7_1 g2 g4 g6 e hE ⟨hc0,(⟨by decide,by decide⟩),rfl,rfl,q4_1,(Qm h2 h1),rfl,rfl,(rp cI 1 0 1 h1),hc1,(⟨by decide,by decide⟩),rfl,rfl,q14_2,(Qm h2 h1),rfl,rfl,(rp cI 1 0 1 h1),q19_2,hc2,(⟨by decide,by decide⟩),rfl,rfl,trivial⟩ (AvLe.of_eq (by rw [h]; try rfl))
   · have h:=h.2 (odf hc1)
     exact p186_1005_2 price tokens left v2 v4 v6 v7_0 v7_1 g2 g4 g6 e hE ⟨hc0,(⟨by decide,by decide⟩),rfl,rfl,q4_1,(Qm h2 h1),rfl,rfl,(rp cI 1 0 1 h1),hc1,rfl,(⟨by decide,by decide⟩),rfl,rfl,trivial⟩ (AvLe.of_eq (by rw [h]; try rfl))
 · have h:=h.2 (odf hc0)
   exact p186_1005_3 price tokens left v2 v4 v6 v7_0 v7_1 g2 g4 g6 hE ⟨hc0,rfl,rfl,(⟨by decide,by decide⟩),rfl,rfl,trivial⟩ (AvLe.of_eq (by rw [h]; try rfl))
theorem p186_2_0 (v4:List Int) (v6:List Int) (j:Nat) (v2:List Int) (g4:Nat) (g6:Nat) (g2:Nat) (e:Int) (e1:Int) (e2:Int) (e3:Int) {E:Env} {rv:AV} (hE:Qg Try.prog 186 rv E) (ho:AllP [(decide ((j:Int)<(((List.replicate (Int.toNat (1008:Int)) (1152921504606846976:Int)).length:Nat):Int)))=true,(0:Int)≤0∧(0:Int)<((3:Nat):Int),0=0,0=0,InR .i64 1,(0:Int)≤1∧(1:Int)<((3:Nat):Int),0=0,0=0,0≤(j:Int)∧(j:Int)<(v4.length:Int),g4=g4,g4=g4,((rowI v4).drop (0+(Int.toNat (j:Int))*1)).take 1=[.int .i64 e],0≤(j:Int)∧(j:Int)<(v2.length:Int),g2=g2,((0+(Int.toNat (j:Int))*1)+1)≤(rowI v2).length,g2=g2,(0:Int)≤0∧(0:Int)<((2:Nat):Int),InR .i64 ((j:Int) - 1),(decide (((j:Int) - 1)≥0))=true,(0:Int)≤0∧(0:Int)<((3:Nat):Int),0=0,0=0,0≤((j:Int) - 1)∧((j:Int) - 1)<(v2.length:Int),g2=g2,g2=g2,((Qu (rowI v2) (0+(Int.toNat (j:Int))*1) [.int .i64 e]).drop (0+(Int.toNat ((j:Int) - 1))*1)).take 1=[.int .i64 e2],(decide (e2<1152921504606846976))=true,(0:Int)≤0∧(0:Int)<((3:Nat):Int),0=0,0=0,(0:Int)≤0∧(0:Int)<((3:Nat):Int),0=0,0=0,0≤(j:Int)∧(j:Int)<(v2.length:Int),g2=g2,g2=g2,((Qu (rowI v2) (0+(Int.toNat (j:Int))*1) [.int .i64 e]).drop (0+(Int.toNat (j:Int))*1)).take 1=[.int .i64 e3],(0:Int)≤0∧(0:Int)<((3:Nat):Int),0=0,0=0,0≤((j:Int) - 1)∧((j:Int) - 1)<(v2.length:Int),g2=g2,g2=g2,((Qu (rowI v2) (0+(Int.toNat (j:Int))*1) [.int .i64 e]).drop (0+(Int.toNat ((j:Int) - 1))*1)).take 1=[.int .i64 e2],(0:Int)≤0∧(0:Int)<((2:Nat):Int),InR .i64 (e2+200),0≤(j:Int)∧(j:Int)<(v2.length:Int),g2=g2,((0+(Int.toNat (j:Int))*1)+1)≤(Qu (rowI v2) (0+(Int.toNat (j:Int))*1) [.int .i64 e]).length,g2=g2,InR .i64 ((j:Int)+1)])
 (hg:G Try.prog E (Vw Try.prog) ⟨([.rsl [.int .i64 1,.int .i64 200,.int .i64 6,.int .i64 1000] 0 2,.int .i64 7,J,J,J,J,.int .i64 1007,.sl 0 0 0 3 1,J,.int .i64 0]++jj 43 ([.int .i64 (((List.replicate (Int.toNat (1008:Int)) (1152921504606846976:Int)).length:Nat):Int),.int .i64 ((j:Int)+1)]++Js 163)),[⟨true,0,1,false,[.sl 2 g2 0 v2.length 1,.sl 4 g4 0 v4.length 1,.sl 6 g6 0 v6.length 1],true⟩,⟨false,1,1,true,[],false⟩,⟨true,g2,1,true,(Qu (Qu (rowI v2) (0+(Int.toNat (j:Int))*1) [.int .i64 e]) (0+(Int.toNat (j:Int))*1) [.int .i64 (iMin e3 (e2+200))]),true⟩,⟨false,1,1,true,[],false⟩,⟨true,g4,1,true,(rowI v4),true⟩,⟨false,1,1,true,[],false⟩,⟨true,g6,1,true,(rowI v6),true⟩]⟩):G Try.prog E (Vw Try.prog) (Wg v4 v6 j v2 g4 g6 g2) :=
 Qh (n:=400) (ds:=[]) (cs:=[]) (live:=[0,1,6,7,9,53,54]) (m:=7) (evs:=[.b true,.auto,.auto,.ld (.int .i64 e),.b true,.auto,.ld (.int .i64 e2),.b true,.auto,.auto,.ld (.int .i64 e3),.auto,.ld (.int .i64 e2),.stop]) (obs:=_) hE.2.1 (hE.nogh _) Qv (by kernel_rfl) ho hg
theorem p186_2_1 (v4:List Int) (v6:List Int) (j:Nat) (v2:List Int) (g4:Nat) (g6:Nat) (g2:Nat) (e:Int) (e1:Int) (e2:Int) {E:Env} {rv:AV} (hE:Qg Try.prog 186 rv E) (ho:AllP [(decide ((j:Int)<(((List.replicate (Int.toNat (1008:Int)) (1152921504606846976:Int)).length:Nat):Int)))=true,(0:Int)≤0∧(0:Int)<((3:Nat):Int),0=0,0=0,InR .i64 1,(0:Int)≤1∧(1:Int)<((3:Nat):Int),0=0,0=0,0≤(j:Int)∧(j:Int)<(v4.length:Int),g4=g4,g4=g4,((rowI v4).drop (0+(Int.toNat (j:Int))*1)).take 1=[.int .i64 e],0≤(j:Int)∧(j:Int)<(v2.length:Int),g2=g2,((0+(Int.toNat (j:Int))*1)+1)≤(rowI v2).length,g2=g2,(0:Int)≤0∧(0:Int)<((2:Nat):Int),InR .i64 ((j:Int) - 1),(decide (((j:Int) - 1)≥0))=true,(0:Int)≤0∧(0:Int)<((3:Nat):Int),0=0,0=0,0≤((j:Int) - 1)∧((j:Int) - 1)<(v2.length:Int),g2=g2,g2=g2,((Qu (rowI v2) (0+(Int.toNat (j:Int))*1) [.int .i64 e]).drop (0+(Int.toNat ((j:Int) - 1))*1)).take 1=[.int .i64 e2],(decide (e2<1152921504606846976))=false,InR .i64 ((j:Int)+1)])
 (hg:G Try.prog E (Vw Try.prog) ⟨([.rsl [.int .i64 1,.int .i64 200,.int .i64 6,.int .i64 1000] 0 2,.int .i64 7,J,J,J,J,.int .i64 1007,.sl 0 0 0 3 1,J,.int .i64 0]++jj 43 ([.int .i64 (((List.replicate (Int.toNat (1008:Int)) (1152921504606846976:Int)).length:Nat):Int),.int .i64 ((j:Int)+1)]++Js 163)),[⟨true,0,1,false,[.sl 2 g2 0 v2.length 1,.sl 4 g4 0 v4.length 1,.sl 6 g6 0 v6.length 1],true⟩,⟨false,1,1,true,[],false⟩,⟨true,g2,1,true,(Qu (rowI v2) (0+(Int.toNat (j:Int))*1) [.int .i64 e]),true⟩,⟨false,1,1,true,[],false⟩,⟨true,g4,1,true,(rowI v4),true⟩,⟨false,1,1,true,[],false⟩,⟨true,g6,1,true,(rowI v6),true⟩]⟩):G Try.prog E (Vw Try.prog) (Wg v4 v6 j v2 g4 g6 g2) :=
 Qh (n:=400) (ds:=[]) (cs:=[]) (live:=[0,1,6,7,9,53,54]) (m:=7) (evs:=[.b true,.auto,.auto,.ld (.int .i64 e),.b true,.auto,.ld (.int .i64 e2),.b false,.stop]) (obs:=_) hE.2.1 (hE.nogh _) Qv (by kernel_rfl) ho hg
theorem p186_2_2 (v4:List Int) (v6:List Int) (j:Nat) (v2:List Int) (g4:Nat) (g6:Nat) (g2:Nat) (e:Int) (e1:Int) {E:Env} {rv:AV} (hE:Qg Try.prog 186 rv E) (ho:AllP [(decide ((j:Int)<(((List.replicate (Int.toNat (1008:Int)) (1152921504606846976:Int)).length:Nat):Int)))=true,(0:Int)≤0∧(0:Int)<((3:Nat):Int),0=0,0=0,InR .i64 1,(0:Int)≤1∧(1:Int)<((3:Nat):Int),0=0,0=0,0≤(j:Int)∧(j:Int)<(v4.length:Int),g4=g4,g4=g4,((rowI v4).drop (0+(Int.toNat (j:Int))*1)).take 1=[.int .i64 e],0≤(j:Int)∧(j:Int)<(v2.length:Int),g2=g2,((0+(Int.toNat (j:Int))*1)+1)≤(rowI v2).length,g2=g2,(0:Int)≤0∧(0:Int)<((2:Nat):Int),InR .i64 ((j:Int) - 1),(decide (((j:Int) - 1)≥0))=false,false=false,InR .i64 ((j:Int)+1)])
 (hg:G Try.prog E (Vw Try.prog) ⟨([.rsl [.int .i64 1,.int .i64 200,.int .i64 6,.int .i64 1000] 0 2,.int .i64 7,J,J,J,J,.int .i64 1007,.sl 0 0 0 3 1,J,.int .i64 0]++jj 43 ([.int .i64 (((List.replicate (Int.toNat (1008:Int)) (1152921504606846976:Int)).length:Nat):Int),.int .i64 ((j:Int)+1)]++Js 163)),[⟨true,0,1,false,[.sl 2 g2 0 v2.length 1,.sl 4 g4 0 v4.length 1,.sl 6 g6 0 v6.length 1],true⟩,⟨false,1,1,true,[],false⟩,⟨true,g2,1,true,(Qu (rowI v2) (0+(Int.toNat (j:Int))*1) [.int .i64 e]),true⟩,⟨false,1,1,true,[],false⟩,⟨true,g4,1,true,(rowI v4),true⟩,⟨false,1,1,true,[],false⟩,⟨true,g6,1,true,(rowI v6),true⟩]⟩):G Try.prog E (Vw Try.prog) (Wg v4 v6 j v2 g4 g6 g2) :=
 Qh (n:=400) (ds:=[]) (cs:=[]) (live:=[0,1,6,7,9,53,54]) (m:=7) (evs:=[.b true,.auto,.auto,.ld (.int .i64 e),.b false,.b false,.stop]) (obs:=_) hE.2.1 (hE.nogh _) Qv (by kernel_rfl) ho hg
theorem p186_2_3 (v4:List Int) (v6:List Int) (j:Nat) (v2:List Int) (g4:Nat) (g6:Nat) (g2:Nat) {E:Env} {rv:AV} (hE:Qg Try.prog 186 rv E) (ho:AllP [(decide ((j:Int)<(((List.replicate (Int.toNat (1008:Int)) (1152921504606846976:Int)).length:Nat):Int)))=false,InR .i64 (-1),false=false])
 (hg:G Try.prog E (Wh Try.prog) ⟨([.rsl [.int .i64 1,.int .i64 200,.int .i64 6,.int .i64 1000] 0 2]++jj 5 ([.int .i64 1007,.sl 0 0 0 3 1,J,J,J,J,.int .i64 7,.int .i64 7]++Js 204)),[⟨true,0,1,false,[.sl 2 g2 0 v2.length 1,.sl 4 g4 0 v4.length 1,.sl 6 g6 0 v6.length 1],true⟩,⟨false,1,1,true,[],false⟩,⟨true,g2,1,true,(rowI v2),true⟩,⟨false,1,1,true,[],false⟩,⟨true,g4,1,true,(rowI v4),true⟩,⟨false,1,1,true,[],false⟩,⟨true,g6,1,true,(rowI v6),true⟩]⟩):G Try.prog E (Vw Try.prog) (Wg v4 v6 j v2 g4 g6 g2) :=
 Qh (n:=400) (ds:=[]) (cs:=[]) (live:=[0,6,7,12,13]) (m:=7) (evs:=[.b false,.b false,.stop]) (obs:=_) hE.2.1 (hE.nogh _) Qv (by kernel_rfl) ho hg
theorem f186W2 (v4:List Int) (v6:List Int) (j:Nat) (v2:List Int) {E:Env} {rv:((List Int) × Int)} (hE:Qg Try.prog 186 (.tup [.rsl (rowI rv.1) 0 rv.1.length,.int .i64 rv.2]) E)
 (h:(((j:Int)<(((List.replicate (Int.toNat (1008:Int)) (1152921504606846976:Int)).length:Nat):Int)→(∃ e:Int,v4[j]?=some e∧(∃ e1:Int,v2[j]?=some e1∧((I6 ((j:Int) - 1))∧((((j:Int) - 1)≥0→(0≤((j:Int) - 1)∧(∃ e2:Int,(v2.set j e)[Int.toNat ((j:Int) - 1)]?=some e2∧((e2<1152921504606846976→(∃ e3:Int,(v2.set j e)[j]?=some e3∧((I6 (e2+200))∧((I6 ((j:Int)+1))∧qT E v4 v6 (j+1) ((v2.set j e).set j (iMin e3 (e2+200)))))))∧(¬ (e2<1152921504606846976)→((I6 ((j:Int)+1))∧qT E v4 v6 (j+1) (v2.set j e)))))))∧(¬ (((j:Int) - 1)≥0)→((I6 ((j:Int)+1))∧qT E v4 v6 (j+1) (v2.set j e))))))))∧(¬ ((j:Int)<(((List.replicate (Int.toNat (1008:Int)) (1152921504606846976:Int)).length:Nat):Int))→f186G3 E v2 v4 v6 7 7))):qT E v4 v6 j v2:=by
 intro g4 g6 g2
 rcases bft (decide ((j:Int)<(((List.replicate (Int.toNat (1008:Int)) (1152921504606846976:Int)).length:Nat):Int))) with hc0 | hc0
 · have h:=h.1 (odt hc0)
   obtain ⟨e,h1,h⟩:=h
   obtain ⟨e1,h2,h⟩:=h
   obtain ⟨q19_1,h⟩:=h
   rcases bft (decide (((j:Int) - 1)≥0)) with hc1 | hc1
   · have h:=h.1 (odt hc1)
     obtain ⟨h4,h⟩:=h
     obtain ⟨e2,h3,h⟩:=h
     rcases bft (decide (e2<1152921504606846976)) with hc2 | hc2
     · have h:=h.1 (odt hc2)
       obtain ⟨e3,h5,h⟩:=h
       obtain ⟨q49_3,h⟩:=h
       obtain ⟨q54_3,h⟩:=h
       refine p186_2_0 v4 v6 j v2 g4 g6 g2 e e1 e2 e3 hE ⟨hc0,(⟨by decide,by decide⟩),rfl,rfl,(⟨by decide,by decide⟩),(⟨by decide,by decide⟩),rfl,rfl,(Qq h1),rfl,rfl,(rp cI 1 0 1 h1),(Qq h2),rfl,(rf cI 1 0 1 h2),rfl,(⟨by decide,by decide⟩),q19_1,hc1,(⟨by decide,by decide⟩),rfl,rfl,(by have hx:=Qm h4 h3; simpa using hx),rfl,rfl,(by rw [(show Qu (rowI v2) (0+(Int.toNat (j:Int))*1) [.int .i64 e]=rowI (v2.set j e) from QE cI (s:=1) (k:=0) (fun _=>rfl) h2 rfl (by first | decide | simp))]; exact rp cI 1 0 1 h3),hc2,(⟨by decide,by decide⟩),rfl,rfl,(⟨by decide,by decide⟩),rfl,rfl,(by have hx:=Qq h5; simpa using hx),rfl,rfl,(by rw [(show Qu (rowI v2) (0+(Int.toNat (j:Int))*1) [.int .i64 e]=rowI (v2.set j e) from QE cI (s:=1) (k:=0) (fun _=>rfl) h2 rfl (by first | decide | simp))]; exact rp cI 1 0 1 h5),(⟨by decide,by decide⟩),rfl,rfl,(by have hx:=Qm h4 h3; simpa using hx),rfl,rfl,(by rw [(show Qu (rowI v2) (0+(Int.toNat (j:Int))*1) [.int .i64 e]=rowI (v2.set j e) from QE cI (s:=1) (k:=0) (fun _=>rfl) h2 rfl (by first | decide | simp))]; exact rp cI 1 0 1 h3),(⟨by decide,by decide⟩),q49_3,(by have hx:=Qq h5; simpa using hx),rfl,(by rw [(show Qu (rowI v2) (0+(Int.toNat (j:Int))*1) [.int .i64 e]=rowI (v2.set j e) from QE cI (s:=1) (k:=0) (fun _=>rfl) h2 rfl (by first | decide | simp))]; exact rf cI 1 0 1 h5),rfl,q54_3,trivial⟩ ?_
       have h:=(h g4 g6 g2)
       simp only [Wg,List.length_set] at h
       rw [(show Qu (rowI v2) (0+(Int.toNat (j:Int))*1) [.int .i64 e]=rowI (v2.set j e) from QE cI (s:=1) (k:=0) (fun _=>rfl) h2 rfl (by first | decide | simp))]; rw [(show Qu (rowI (v2.set j e)) (0+(Int.toNat (j:Int))*1) [.int .i64 (iMin e3 (e2+200))]=rowI ((v2.set j e).set j (iMin e3 (e2+200))) from QE cI (s:=1) (k:=0) (fun _=>rfl) h5 rfl (by first | decide | simp))]
       exact h
     · have h:=h.2 (odf hc2)
       obtain ⟨q30_3,h⟩:=h
       refine p186_2_1 v4 v6 j v2 g4 g6 g2 e e1 e2 hE ⟨hc0,(⟨by decide,by decide⟩),rfl,rfl,(⟨by decide,by decide⟩),(⟨by decide,by decide⟩),rfl,rfl,(Qq h1),rfl,rfl,(rp cI 1 0 1 h1),(Qq h2),rfl,(rf cI 1 0 1 h2),rfl,(⟨by decide,by decide⟩),q19_1,hc1,(⟨by decide,by decide⟩),rfl,rfl,(by have hx:=Qm h4 h3; simpa using hx),rfl,rfl,(by rw [(show Qu (rowI v2) (0+(Int.toNat (j:Int))*1) [.int .i64 e]=rowI (v2.set j e) from QE cI (s:=1) (k:=0) (fun _=>rfl) h2 rfl (by first | decide | simp))]; exact rp cI 1 0 1 h3),hc2,q30_3,trivial⟩ ?_
       have h:=(h g4 g6 g2)
       simp only [Wg,List.length_set] at h
       rw [(show Qu (rowI v2) (0+(Int.toNat (j:Int))*1) [.int .i64 e]=rowI (v2.set j e) from QE cI (s:=1) (k:=0) (fun _=>rfl) h2 rfl (by first | decide | simp))]
       exact h
   · have h:=h.2 (odf hc1)
     obtain ⟨q22_2,h⟩:=h
     refine p186_2_2 v4 v6 j v2 g4 g6 g2 e e1 hE ⟨hc0,(⟨by decide,by decide⟩),rfl,rfl,(⟨by decide,by decide⟩),(⟨by decide,by decide⟩),rfl,rfl,(Qq h1),rfl,rfl,(rp cI 1 0 1 h1),(Qq h2),rfl,(rf cI 1 0 1 h2),rfl,(⟨by decide,by decide⟩),q19_1,hc1,rfl,q22_2,trivial⟩ ?_
     have h:=(h g4 g6 g2)
     simp only [Wg,List.length_set] at h
     rw [(show Qu (rowI v2) (0+(Int.toNat (j:Int))*1) [.int .i64 e]=rowI (v2.set j e) from QE cI (s:=1) (k:=0) (fun _=>rfl) h2 rfl (by first | decide | simp))]
     exact h
 · have h:=h.2 (odf hc0)
   exact p186_2_3 v4 v6 j v2 g4 g6 g2 hE ⟨hc0,(⟨by decide,by decide⟩),rfl,trivial⟩ (h g2 g4 g6)
theorem p186_3_0 (v2:List Int) (v4:List Int) (v6:List Int) (t:Nat) (tokens:Nat) (g2:Nat) (g4:Nat) (g6:Nat) (e:Int) (e1:Int) {E:Env} {rv:AV} (hE:Qg Try.prog 186 rv E) (ho:AllP [(decide ((t:Int)≤1007))=true,(0:Int)≤0∧(0:Int)<((3:Nat):Int),0=0,0=0,0≤(t:Int)∧(t:Int)<(v2.length:Int),g2=g2,g2=g2,((rowI v2).drop (0+(Int.toNat (t:Int))*1)).take 1=[.int .i64 e],(0:Int)≤0∧(0:Int)<((3:Nat):Int),0=0,0=0,0≤(tokens:Int)∧(tokens:Int)<(v2.length:Int),g2=g2,g2=g2,((rowI v2).drop (0+(Int.toNat (tokens:Int))*1)).take 1=[.int .i64 e1],(decide (e<e1))=true,InR .i64 ((t:Int)+1)])
 (hg:G Try.prog E (Wh Try.prog) ⟨([.rsl [.int .i64 1,.int .i64 200,.int .i64 6,.int .i64 1000] 0 2]++jj 5 ([.int .i64 1007,.sl 0 0 0 3 1,J,J,J,J,.int .i64 (t:Int),.int .i64 ((t:Int)+1)]++Js 204)),[⟨true,0,1,false,[.sl 2 g2 0 v2.length 1,.sl 4 g4 0 v4.length 1,.sl 6 g6 0 v6.length 1],true⟩,⟨false,1,1,true,[],false⟩,⟨true,g2,1,true,(rowI v2),true⟩,⟨false,1,1,true,[],false⟩,⟨true,g4,1,true,(rowI v4),true⟩,⟨false,1,1,true,[],false⟩,⟨true,g6,1,true,(rowI v6),true⟩]⟩):G Try.prog E (Wh Try.prog) (f186S3 v2 v4 v6 t tokens g2 g4 g6) :=
 Qh (n:=400) (ds:=[]) (cs:=[]) (live:=[0,6,7,12,13]) (m:=7) (evs:=[.b true,.auto,.ld (.int .i64 e),.auto,.ld (.int .i64 e1),.b true,.stop]) (obs:=_) hE.2.1 (hE.nogh _) Qv (by kernel_rfl) ho hg
theorem p186_3_1 (v2:List Int) (v4:List Int) (v6:List Int) (t:Nat) (tokens:Nat) (g2:Nat) (g4:Nat) (g6:Nat) (e:Int) (e1:Int) {E:Env} {rv:AV} (hE:Qg Try.prog 186 rv E) (ho:AllP [(decide ((t:Int)≤1007))=true,(0:Int)≤0∧(0:Int)<((3:Nat):Int),0=0,0=0,0≤(t:Int)∧(t:Int)<(v2.length:Int),g2=g2,g2=g2,((rowI v2).drop (0+(Int.toNat (t:Int))*1)).take 1=[.int .i64 e],(0:Int)≤0∧(0:Int)<((3:Nat):Int),0=0,0=0,0≤(tokens:Int)∧(tokens:Int)<(v2.length:Int),g2=g2,g2=g2,((rowI v2).drop (0+(Int.toNat (tokens:Int))*1)).take 1=[.int .i64 e1],(decide (e<e1))=false,InR .i64 ((t:Int)+1)])
 (hg:G Try.prog E (Wh Try.prog) ⟨([.rsl [.int .i64 1,.int .i64 200,.int .i64 6,.int .i64 1000] 0 2]++jj 5 ([.int .i64 1007,.sl 0 0 0 3 1,J,J,J,J,.int .i64 (tokens:Int),.int .i64 ((t:Int)+1)]++Js 204)),[⟨true,0,1,false,[.sl 2 g2 0 v2.length 1,.sl 4 g4 0 v4.length 1,.sl 6 g6 0 v6.length 1],true⟩,⟨false,1,1,true,[],false⟩,⟨true,g2,1,true,(rowI v2),true⟩,⟨false,1,1,true,[],false⟩,⟨true,g4,1,true,(rowI v4),true⟩,⟨false,1,1,true,[],false⟩,⟨true,g6,1,true,(rowI v6),true⟩]⟩):G Try.prog E (Wh Try.prog) (f186S3 v2 v4 v6 t tokens g2 g4 g6) :=
 Qh (n:=400) (ds:=[]) (cs:=[]) (live:=[0,6,7,12,13]) (m:=7) (evs:=[.b true,.auto,.ld (.int .i64 e),.auto,.ld (.int .i64 e1),.b false,.stop]) (obs:=_) hE.2.1 (hE.nogh _) Qv (by kernel_rfl) ho hg
theorem p186_3_2 (v2:List Int) (v4:List Int) (v6:List Int) (t:Nat) (tokens:Nat) (g2:Nat) (g4:Nat) (g6:Nat) (e:Int) {E:Env} {res:AV} (hE:Qg Try.prog 186 res E) (ho:AllP [(decide ((t:Int)≤1007))=false,(0:Int)≤0∧(0:Int)<((3:Nat):Int),0=0,0=0,0≤(tokens:Int)∧(tokens:Int)<(v2.length:Int),g2=g2,g2=g2,((rowI v2).drop (0+(Int.toNat (tokens:Int))*1)).take 1=[.int .i64 e],(e == 1152921504606846976)=true])
 (hr:AvLe (.tup [.nilSl,.int .i64 0]) res):G Try.prog E (Wh Try.prog) (f186S3 v2 v4 v6 t tokens g2 g4 g6) :=
 Qa (n:=400) (evs:=[.b false,.auto,.ld (.int .i64 e),.b true]) (obs:=_) hE Try.func186 Qv (by kernel_rfl) ho hr
theorem p186_3_3 (v2:List Int) (v4:List Int) (v6:List Int) (t:Nat) (tokens:Nat) (g2:Nat) (g4:Nat) (g6:Nat) (e:Int) {E:Env} {rv:AV} (hE:Qg Try.prog 186 rv E) (ho:AllP [(decide ((t:Int)≤1007))=false,(0:Int)≤0∧(0:Int)<((3:Nat):Int),0=0,0=0,0≤(tokens:Int)∧(tokens:Int)<(v2.length:Int),g2=g2,g2=g2,((rowI v2).drop (0+(Int.toNat (tokens:Int))*1)).take 1=[.int .i64 e],(e == 1152921504606846976)=false,(0:Int)≤2∧(2:Int)≤2∧(2:Int)≤2147483648,true=true,(0:Int)≤0∧(0:Int)<((2:Nat):Int),2≤2,(0:Int)≤0∧(0:Int)<((3:Nat):Int),0=0,0=0,0≤(tokens:Int)∧(tokens:Int)<(v2.length:Int),g2=g2,g2=g2,((rowI v2).drop (0+(Int.toNat (tokens:Int))*1)).take 1=[.int .i64 e]])
 (hg:G Try.prog E (WW Try.prog) ⟨([J,J,J,J,.sl 7 0 0 2 1,.int .i64 e,J,.sl 0 0 0 3 1,J,J,J,J,.int .i64 (tokens:Int),J,.int .i64 0,.ptr 8 0 0,.int .i64 e]++jj 133 ([.rsl [.int .i64 1,.int .i64 200,.int .i64 6,.int .i64 1000] 0 2,.int .i64 2,.int .i64 0]++Js 65)),[⟨true,0,1,false,[.sl 2 g2 0 v2.length 1,.sl 4 g4 0 v4.length 1,.sl 6 g6 0 v6.length 1],true⟩,⟨false,1,1,true,[],false⟩,⟨true,g2,1,true,(rowI v2),true⟩,⟨false,1,1,true,[],false⟩,⟨true,g4,1,true,(rowI v4),true⟩,⟨false,1,1,true,[],false⟩,⟨true,g6,1,true,(rowI v6),true⟩,⟨true,0,1,true,[.int .i64 0,.int .i64 0],true⟩,⟨true,0,1,true,[.int .i64 1,.int .i64 200],false⟩]⟩):G Try.prog E (Wh Try.prog) (f186S3 v2 v4 v6 t tokens g2 g4 g6) :=
 Qh (n:=400) (ds:=[]) (cs:=[]) (live:=[4,5,7,12,14,15,16,150,151,152]) (m:=9) (evs:=[.b false,.auto,.ld (.int .i64 e),.b false,.b true,.auto,.auto,.ld (.int .i64 e),.stop]) (obs:=_) hE.2.1 (hE.nogh _) Qv (by kernel_rfl) ho hg
theorem f186W3 (v2:List Int) (v4:List Int) (v6:List Int) (t:Nat) (tokens:Nat) {E:Env} {rv:((List Int) × Int)} (hE:Qg Try.prog 186 (.tup [.rsl (rowI rv.1) 0 rv.1.length,.int .i64 rv.2]) E)
 (h:(((t:Int)≤1007→(∃ e:Int,v2[t]?=some e∧(∃ e1:Int,v2[tokens]?=some e1∧((e<e1→((I6 ((t:Int)+1))∧f186G3 E v2 v4 v6 (t+1) t))∧(¬ (e<e1)→((I6 ((t:Int)+1))∧f186G3 E v2 v4 v6 (t+1) tokens))))))∧(¬ ((t:Int)≤1007)→(∃ e:Int,v2[tokens]?=some e∧((e=1152921504606846976→rv=(([]:List Int),0))∧(¬ (e=1152921504606846976)→f186G5 E e (tokens:Int) e v2 v4 v6 0)))))):f186G3 E v2 v4 v6 t tokens:=by
 intro g2 g4 g6
 rcases bft (decide ((t:Int)≤1007)) with hc0 | hc0
 · have h:=h.1 (odt hc0)
   obtain ⟨e,h1,h⟩:=h
   obtain ⟨e1,h2,h⟩:=h
   rcases bft (decide (e<e1)) with hc1 | hc1
   · have h:=h.1 (odt hc1)
     obtain ⟨q18_2,h⟩:=h
     exact p186_3_0 v2 v4 v6 t tokens g2 g4 g6 e e1 hE ⟨hc0,(⟨by decide,by decide⟩),rfl,rfl,(Qq h1),rfl,rfl,(rp cI 1 0 1 h1),(⟨by decide,by decide⟩),rfl,rfl,(Qq h2),rfl,rfl,(rp cI 1 0 1 h2),hc1,q18_2,trivial⟩ (h g2 g4 g6)
   · have h:=h.2 (odf hc1)
     obtain ⟨q18_2,h⟩:=h
     exact p186_3_1 v2 v4 v6 t tokens g2 g4 g6 e e1 hE ⟨hc0,(⟨by decide,by decide⟩),rfl,rfl,(Qq h1),rfl,rfl,(rp cI 1 0 1 h1),(⟨by decide,by decide⟩),rfl,rfl,(Qq h2),rfl,rfl,(rp cI 1 0 1 h2),hc1,q18_2,trivial⟩ (h g2 g4 g6)
 · have h:=h.2 (odf hc0)
   obtain ⟨e,h1,h⟩:=h
   rcases bft (e == 1152921504606846976) with hc1 | hc1
   · have h:=h.1 (eq_of_beq hc1)
     exact p186_3_2 v2 v4 v6 t tokens g2 g4 g6 e hE ⟨hc0,(⟨by decide,by decide⟩),rfl,rfl,(Qq h1),rfl,rfl,(rp cI 1 0 1 h1),hc1,trivial⟩ (by rw [h]; exact (YI ⟨Yb,⟨AvLe.of_eq rfl,trivial⟩⟩))
   · have h:=h.2 (ne_of_beq_false hc1)
     exact p186_3_3 v2 v4 v6 t tokens g2 g4 g6 e hE ⟨hc0,(⟨by decide,by decide⟩),rfl,rfl,(Qq h1),rfl,rfl,(rp cI 1 0 1 h1),hc1,(⟨by decide,by decide,by decide⟩),rfl,(⟨by decide,by decide⟩),(by decide),(⟨by decide,by decide⟩),rfl,rfl,(Qq h1),rfl,rfl,(rp cI 1 0 1 h1),trivial⟩ (h g2 g4 g6)
theorem p186_5_0 (price:Int) (tokens:Int) (left:Int) (v2:List Int) (v4:List Int) (v6:List Int) (v7_0:Nat) (g2:Nat) (g4:Nat) (g6:Nat) (e:Int) {E:Env} {rv:AV} (hE:Qg Try.prog 186 rv E) (ho:AllP [(decide (tokens≥1))=true,(0:Int)≤0∧(0:Int)<((3:Nat):Int),0=0,0=0,InR .i64 (tokens - 1),0≤(tokens - 1)∧(tokens - 1)<(v2.length:Int),g2=g2,g2=g2,((rowI v2).drop (0+(Int.toNat (tokens - 1))*1)).take 1=[.int .i64 e],(decide (e<1152921504606846976))=true,(0:Int)≤0∧(0:Int)<((3:Nat):Int),0=0,0=0,InR .i64 (tokens - 1),0≤(tokens - 1)∧(tokens - 1)<(v2.length:Int),g2=g2,g2=g2,((rowI v2).drop (0+(Int.toNat (tokens - 1))*1)).take 1=[.int .i64 e],InR .i64 (e+200),((e+200) == left)=true,InR .i64 (tokens - 1),(0:Int)≤0∧(0:Int)<((2:Nat):Int),0=0,0=0,InR .i64 ((v7_0:Int)+1),(0:Int)≤0∧(0:Int)<((2:Nat):Int),0=0,1≤2,0=0,(0:Int)≤0∧(0:Int)<((3:Nat):Int),0=0,0=0,0≤(tokens - 1)∧(tokens - 1)<(v2.length:Int),g2=g2,g2=g2,((rowI v2).drop (0+(Int.toNat (tokens - 1))*1)).take 1=[.int .i64 e]])
 (hg:G Try.prog E (WW Try.prog) ⟨([J,J,J,J,.sl 7 0 0 2 1,.int .i64 price,J,.sl 0 0 0 3 1,J,J,J,J,.int .i64 (tokens - 1),J,.int .i64 0,.ptr 8 0 0,.int .i64 e]++jj 133 ([.rsl [.int .i64 1,.int .i64 200,.int .i64 6,.int .i64 1000] 0 2,.int .i64 2,.int .i64 0]++Js 65)),[⟨true,0,1,false,[.sl 2 g2 0 v2.length 1,.sl 4 g4 0 v4.length 1,.sl 6 g6 0 v6.length 1],true⟩,⟨false,1,1,true,[],false⟩,⟨true,g2,1,true,(rowI v2),true⟩,⟨false,1,1,true,[],false⟩,⟨true,g4,1,true,(rowI v4),true⟩,⟨false,1,1,true,[],false⟩,⟨true,g6,1,true,(rowI v6),true⟩,⟨true,0,1,true,[.int .i64 ((v7_0:Int)+1),.int .i64 0],true⟩,⟨true,0,1,true,[.int .i64 1,.int .i64 200],false⟩]⟩):G Try.prog E (WW Try.prog) (f186S5 price tokens left v2 v4 v6 v7_0 g2 g4 g6) :=
 Qh (n:=400) (ds:=[]) (cs:=[]) (live:=[4,5,7,12,14,15,16,150,151,152]) (m:=9) (evs:=[.b true,.auto,.auto,.ld (.int .i64 e),.b true,.auto,.auto,.ld (.int .i64 e),.b true,.auto,.auto,.auto,.ld (.int .i64 e),.stop]) (obs:=_) hE.2.1 (hE.nogh _) Qv (by kernel_rfl) ho hg
theorem p186_5_1 (price:Int) (tokens:Int) (left:Int) (v2:List Int) (v4:List Int) (v6:List Int) (v7_0:Nat) (g2:Nat) (g4:Nat) (g6:Nat) (e:Int) (e1:Int) {E:Env} {rv:AV} (hE:Qg Try.prog 186 rv E) (ho:AllP [(decide (tokens≥1))=true,(0:Int)≤0∧(0:Int)<((3:Nat):Int),0=0,0=0,InR .i64 (tokens - 1),0≤(tokens - 1)∧(tokens - 1)<(v2.length:Int),g2=g2,g2=g2,((rowI v2).drop (0+(Int.toNat (tokens - 1))*1)).take 1=[.int .i64 e],(decide (e<1152921504606846976))=true,(0:Int)≤0∧(0:Int)<((3:Nat):Int),0=0,0=0,InR .i64 (tokens - 1),0≤(tokens - 1)∧(tokens - 1)<(v2.length:Int),g2=g2,g2=g2,((rowI v2).drop (0+(Int.toNat (tokens - 1))*1)).take 1=[.int .i64 e],InR .i64 (e+200),((e+200) == left)=false,InR .i64 1,true=true,(0:Int)≤1∧(1:Int)<((2:Nat):Int),2≤2,(0:Int)≤1∧(1:Int)<((3:Nat):Int),0=0,0=0,0≤tokens∧tokens<(v4.length:Int),g4=g4,g4=g4,((rowI v4).drop (0+(Int.toNat tokens)*1)).take 1=[.int .i64 e1]])
 (hg:G Try.prog E (XE Try.prog) ⟨([J,J,J,J,.sl 7 0 0 2 1,.int .i64 price,J,.sl 0 0 0 3 1,J,J,J,J,.int .i64 tokens,J,.int .i64 1,.ptr 9 0 0,.int .i64 e1]++jj 133 ([.rsl [.int .i64 1,.int .i64 200,.int .i64 6,.int .i64 1000] 0 2,.int .i64 2,.int .i64 1]++Js 65)),[⟨true,0,1,false,[.sl 2 g2 0 v2.length 1,.sl 4 g4 0 v4.length 1,.sl 6 g6 0 v6.length 1],true⟩,⟨false,1,1,true,[],false⟩,⟨true,g2,1,true,(rowI v2),true⟩,⟨false,1,1,true,[],false⟩,⟨true,g4,1,true,(rowI v4),true⟩,⟨false,1,1,true,[],false⟩,⟨true,g6,1,true,(rowI v6),true⟩,⟨true,0,1,true,[.int .i64 (v7_0:Int),.int .i64 0],true⟩,⟨true,0,1,true,[.int .i64 1,.int .i64 200],false⟩,⟨true,0,1,true,[.int .i64 6,.int .i64 1000],false⟩]⟩):G Try.prog E (WW Try.prog) (f186S5 price tokens left v2 v4 v6 v7_0 g2 g4 g6) :=
 Qh (n:=400) (ds:=[]) (cs:=[]) (live:=[4,5,7,12,14,15,16,150,151,152]) (m:=10) (evs:=[.b true,.auto,.auto,.ld (.int .i64 e),.b true,.auto,.auto,.ld (.int .i64 e),.b false,.b true,.auto,.auto,.ld (.int .i64 e1),.stop]) (obs:=_) hE.2.1 (hE.nogh _) Qv (by kernel_rfl) ho hg
theorem p186_5_2 (price:Int) (tokens:Int) (left:Int) (v2:List Int) (v4:List Int) (v6:List Int) (v7_0:Nat) (g2:Nat) (g4:Nat) (g6:Nat) (e:Int) (e1:Int) {E:Env} {rv:AV} (hE:Qg Try.prog 186 rv E) (ho:AllP [(decide (tokens≥1))=true,(0:Int)≤0∧(0:Int)<((3:Nat):Int),0=0,0=0,InR .i64 (tokens - 1),0≤(tokens - 1)∧(tokens - 1)<(v2.length:Int),g2=g2,g2=g2,((rowI v2).drop (0+(Int.toNat (tokens - 1))*1)).take 1=[.int .i64 e],(decide (e<1152921504606846976))=false,false=false,InR .i64 1,true=true,(0:Int)≤1∧(1:Int)<((2:Nat):Int),2≤2,(0:Int)≤1∧(1:Int)<((3:Nat):Int),0=0,0=0,0≤tokens∧tokens<(v4.length:Int),g4=g4,g4=g4,((rowI v4).drop (0+(Int.toNat tokens)*1)).take 1=[.int .i64 e1]])
 (hg:G Try.prog E (XE Try.prog) ⟨([J,J,J,J,.sl 7 0 0 2 1,.int .i64 price,J,.sl 0 0 0 3 1,J,J,J,J,.int .i64 tokens,J,.int .i64 1,.ptr 9 0 0,.int .i64 e1]++jj 133 ([.rsl [.int .i64 1,.int .i64 200,.int .i64 6,.int .i64 1000] 0 2,.int .i64 2,.int .i64 1]++Js 65)),[⟨true,0,1,false,[.sl 2 g2 0 v2.length 1,.sl 4 g4 0 v4.length 1,.sl 6 g6 0 v6.length 1],true⟩,⟨false,1,1,true,[],false⟩,⟨true,g2,1,true,(rowI v2),true⟩,⟨false,1,1,true,[],false⟩,⟨true,g4,1,true,(rowI v4),true⟩,⟨false,1,1,true,[],false⟩,⟨true,g6,1,true,(rowI v6),true⟩,⟨true,0,1,true,[.int .i64 (v7_0:Int),.int .i64 0],true⟩,⟨true,0,1,true,[.int .i64 1,.int .i64 200],false⟩,⟨true,0,1,true,[.int .i64 6,.int .i64 1000],false⟩]⟩):G Try.prog E (WW Try.prog) (f186S5 price tokens left v2 v4 v6 v7_0 g2 g4 g6) :=
 Qh (n:=400) (ds:=[]) (cs:=[]) (live:=[4,5,7,12,14,15,16,150,151,152]) (m:=10) (evs:=[.b true,.auto,.auto,.ld (.int .i64 e),.b false,.b false,.b true,.auto,.auto,.ld (.int .i64 e1),.stop]) (obs:=_) hE.2.1 (hE.nogh _) Qv (by kernel_rfl) ho hg
theorem p186_5_3 (price:Int) (tokens:Int) (left:Int) (v2:List Int) (v4:List Int) (v6:List Int) (v7_0:Nat) (g2:Nat) (g4:Nat) (g6:Nat) (e:Int) {E:Env} {rv:AV} (hE:Qg Try.prog 186 rv E) (ho:AllP [(decide (tokens≥1))=false,false=false,false=false,InR .i64 1,true=true,(0:Int)≤1∧(1:Int)<((2:Nat):Int),2≤2,(0:Int)≤1∧(1:Int)<((3:Nat):Int),0=0,0=0,0≤tokens∧tokens<(v4.length:Int),g4=g4,g4=g4,((rowI v4).drop (0+(Int.toNat tokens)*1)).take 1=[.int .i64 e]])
 (hg:G Try.prog E (XE Try.prog) ⟨([J,J,J,J,.sl 7 0 0 2 1,.int .i64 price,J,.sl 0 0 0 3 1,J,J,J,J,.int .i64 tokens,J,.int .i64 1,.ptr 9 0 0,.int .i64 e]++jj 133 ([.rsl [.int .i64 1,.int .i64 200,.int .i64 6,.int .i64 1000] 0 2,.int .i64 2,.int .i64 1]++Js 65)),[⟨true,0,1,false,[.sl 2 g2 0 v2.length 1,.sl 4 g4 0 v4.length 1,.sl 6 g6 0 v6.length 1],true⟩,⟨false,1,1,true,[],false⟩,⟨true,g2,1,true,(rowI v2),true⟩,⟨false,1,1,true,[],false⟩,⟨true,g4,1,true,(rowI v4),true⟩,⟨false,1,1,true,[],false⟩,⟨true,g6,1,true,(rowI v6),true⟩,⟨true,0,1,true,[.int .i64 (v7_0:Int),.int .i64 0],true⟩,⟨true,0,1,true,[.int .i64 1,.int .i64 200],false⟩,⟨true,0,1,true,[.int .i64 6,.int .i64 1000],false⟩]⟩):G Try.prog E (WW Try.prog) (f186S5 price tokens left v2 v4 v6 v7_0 g2 g4 g6) :=
 Qh (n:=400) (ds:=[]) (cs:=[]) (live:=[4,5,7,12,14,15,16,150,151,152]) (m:=10) (evs:=[.b false,.b false,.b false,.b true,.auto,.auto,.ld (.int .i64 e),.stop]) (obs:=_) hE.2.1 (hE.nogh _) Qv (by kernel_rfl) ho hg
theorem f186W5 (price:Int) (tokens:Int) (left:Int) (v2:List Int) (v4:List Int) (v6:List Int) (v7_0:Nat) {E:Env} {rv:((List Int) × Int)} (hE:Qg Try.prog 186 (.tup [.rsl (rowI rv.1) 0 rv.1.length,.int .i64 rv.2]) E)
 (h:((tokens≥1→((I6 (tokens - 1))∧(0≤(tokens - 1)∧(∃ e:Int,v2[Int.toNat (tokens - 1)]?=some e∧((e<1152921504606846976→((I6 (tokens - 1))∧((I6 (e+200))∧(((e+200)=left→((I6 (tokens - 1))∧((I6 ((v7_0:Int)+1))∧f186G5 E price (tokens - 1) e v2 v4 v6 (v7_0+1))))∧(¬ ((e+200)=left)→(0≤tokens∧(∃ e1:Int,v4[Int.toNat tokens]?=some e1∧Yd E price tokens e1 v2 v4 v6 v7_0 0)))))))∧(¬ (e<1152921504606846976)→(0≤tokens∧(∃ e1:Int,v4[Int.toNat tokens]?=some e1∧Yd E price tokens e1 v2 v4 v6 v7_0 0))))))))∧(¬ (tokens≥1)→(0≤tokens∧(∃ e:Int,v4[Int.toNat tokens]?=some e∧Yd E price tokens e v2 v4 v6 v7_0 0))))):f186G5 E price tokens left v2 v4 v6 v7_0:=by
 intro g2 g4 g6
 rcases bft (decide (tokens≥1)) with hc0 | hc0
 · have h:=h.1 (odt hc0)
   obtain ⟨q4_1,h⟩:=h
   obtain ⟨h2,h⟩:=h
   obtain ⟨e,h1,h⟩:=h
   rcases bft (decide (e<1152921504606846976)) with hc1 | hc1
   · have h:=h.1 (odt hc1)
     obtain ⟨q14_2,h⟩:=h
     obtain ⟨q19_2,h⟩:=h
     rcases bft ((e+200) == left) with hc2 | hc2
     · have h:=h.1 (eq_of_beq hc2)
       obtain ⟨q21_3,h⟩:=h
       obtain ⟨q25_3,h⟩:=h
       exact p186_5_0 price tokens left v2 v4 v6 v7_0 g2 g4 g6 e hE ⟨hc0,(⟨by decide,by decide⟩),rfl,rfl,q4_1,(Qm h2 h1),rfl,rfl,(rp cI 1 0 1 h1),hc1,(⟨by decide,by decide⟩),rfl,rfl,q14_2,(Qm h2 h1),rfl,rfl,(rp cI 1 0 1 h1),q19_2,hc2,q21_3,(⟨by decide,by decide⟩),rfl,rfl,q25_3,(⟨by decide,by decide⟩),rfl,(by decide),rfl,(⟨by decide,by decide⟩),rfl,rfl,(Qm h2 h1),rfl,rfl,(rp cI 1 0 1 h1),trivial⟩ (h g2 g4 g6)
     · have h:=h.2 (ne_of_beq_false hc2)
       obtain ⟨h4,h⟩:=h
       obtain ⟨e1,h3,h⟩:=h
       exact p186_5_1 price tokens left v2 v4 v6 v7_0 g2 g4 g6 e e1 hE ⟨hc0,(⟨by decide,by decide⟩),rfl,rfl,q4_1,(Qm h2 h1),rfl,rfl,(rp cI 1 0 1 h1),hc1,(⟨by decide,by decide⟩),rfl,rfl,q14_2,(Qm h2 h1),rfl,rfl,(rp cI 1 0 1 h1),q19_2,hc2,(⟨by decide,by decide⟩),rfl,(⟨by decide,by decide⟩),(by decide),(⟨by decide,by decide⟩),rfl,rfl,(Qm h4 h3),rfl,rfl,(rp cI 1 0 1 h3),trivial⟩ (h g2 g4 g6)
   · have h:=h.2 (odf hc1)
     obtain ⟨h4,h⟩:=h
     obtain ⟨e1,h3,h⟩:=h
     exact p186_5_2 price tokens left v2 v4 v6 v7_0 g2 g4 g6 e e1 hE ⟨hc0,(⟨by decide,by decide⟩),rfl,rfl,q4_1,(Qm h2 h1),rfl,rfl,(rp cI 1 0 1 h1),hc1,rfl,(⟨by decide,by decide⟩),rfl,(⟨by decide,by decide⟩),(by decide),(⟨by decide,by decide⟩),rfl,rfl,(Qm h4 h3),rfl,rfl,(rp cI 1 0 1 h3),trivial⟩ (h g2 g4 g6)
 · have h:=h.2 (odf hc0)
   obtain ⟨h2,h⟩:=h
   obtain ⟨e,h1,h⟩:=h
   exact p186_5_3 price tokens left v2 v4 v6 v7_0 g2 g4 g6 e hE ⟨hc0,rfl,rfl,(⟨by decide,by decide⟩),rfl,(⟨by decide,by decide⟩),(by decide),(⟨by decide,by decide⟩),rfl,rfl,(Qm h2 h1),rfl,rfl,(rp cI 1 0 1 h1),trivial⟩ (h g2 g4 g6)
theorem buy_ok:Pure Try.prog 186 [.rsl [.int .i64 1,.int .i64 200,.int .i64 6,.int .i64 1000] 0 2,.int .i64 7] (.tup [.rsl (rowI [1,1]) 0 2,.int .i64 1200]):=Qs Try.func186 f186b fun E hE=>by
 have hl:(List.replicate (Int.toNat (1008:Int)) (1152921504606846976:Int)).length=1008:=by rw [List.length_replicate]; rfl
 -- the last loops
 have e5:Yd E 1200 0 0 (LP c0 1008) (LP c1 1008) r2 1 1:=f186W1005 1200 0 0 _ _ _ 1 1 (rv:=([1,1],1200)) hE ⟨fun h=>by omega,fun _=>rfl⟩
 have a0:(LP c1 1008)[0]?=some 0:=Yn (by omega)
 have a6:(LP c1 1008)[6]?=some 1000:=Yn (by omega)
 have b6:(LP c0 1008)[6]?=some 1000:=Yn (by omega)
 have b5:(LP c0 1008)[5]?=some 1000:=Yn (by omega)
 have b7:(LP c0 1008)[7]?=some 1200:=Yn (by omega)
 have e4:Yd E 1200 6 1000 (LP c0 1008) (LP c1 1008) r2 1 0:=f186W1005 1200 6 1000 _ _ _ 1 0 (rv:=([1,1],1200)) hE
  ⟨fun _=>⟨by omega,by omega,0,a0,fun _=>⟨by omega,by omega,fun _=>⟨by omega,by omega,e5⟩,fun h=>absurd rfl h⟩,fun h=>absurd (by omega) h⟩,fun h=>absurd (by omega) h⟩
 have e3:f186G5 E 1200 6 1000 (LP c0 1008) (LP c1 1008) r2 1:=f186W5 1200 6 1000 _ _ _ 1 (rv:=([1,1],1200)) hE
  ⟨fun _=>⟨by omega,by omega,1000,b5,fun _=>⟨by omega,by omega,fun h=>absurd h (by omega),fun _=>⟨by omega,1000,a6,e4⟩⟩,fun h=>absurd (by omega) h⟩,fun h=>absurd (by omega) h⟩
 have e2:f186G5 E 1200 7 1200 (LP c0 1008) (LP c1 1008) r2 0:=f186W5 1200 7 1200 _ _ _ 0 (rv:=([1,1],1200)) hE
  ⟨fun _=>⟨by omega,by omega,1000,b6,fun _=>⟨by omega,by omega,fun _=>⟨by omega,by omega,e3⟩,fun h=>absurd rfl h⟩,fun h=>absurd (by omega) h⟩,fun h=>absurd (by omega) h⟩
 -- the least price
 have l3:∀ (d t:Nat),t+d=1008→7≤t→f186G3 E (LP c0 1008) (LP c1 1008) r2 t 7:=by
  intro d
  induction d with
  | zero =>
   intro t ht h7
   exact f186W3 _ _ _ t 7 (rv:=([1,1],1200)) hE ⟨fun h=>by omega,fun _=>⟨1200,b7,fun h=>absurd h (by omega),fun _=>e2⟩⟩
  | succ d ih =>
   intro t ht h7
   have hg:(LP c0 1008)[t]?=some (c0 t):=by rw [Yn (by omega),if_pos (by omega)]
   have hge:¬ c0 t<1200:=by unfold c0; omega
   exact f186W3 _ _ _ t 7 (rv:=([1,1],1200)) hE ⟨fun _=>⟨_,hg,1200,b7,fun h=>absurd h hge,fun _=>⟨by omega,ih (t+1) (by omega) (by omega)⟩⟩,fun h=>by omega⟩
 -- the rows
 have l2:∀ (d j:Nat),j+d=1008→qT E (LP c1 1008) r2 j (LP c0 j):=by
  intro d
  induction d with
  | zero =>
   intro j hj
   have ej:j=1008:=by omega
   subst ej
   exact f186W2 _ _ _ _ (rv:=([1,1],1200)) hE ⟨fun h=>by rw [hl] at h; omega,fun _=>l3 1001 7 (by omega) (by omega)⟩
  | succ d ih =>
   intro j hj
   have g1:(LP c1 1008)[j]?=some (c1 j):=by rw [Yn (by omega),if_pos (by omega)]
   have g2:(LP c0 j)[j]?=some NN:=by rw [Yn (by omega),if_neg (by omega)]
   have nx:=ih (j+1) (by omega)
   rw [← LP_set (f:=c0) (j:=j) (by omega)] at nx
   refine f186W2 _ _ j _ (rv:=([1,1],1200)) hE ⟨fun _=>⟨_,g1,_,g2,by omega,fun h1=>?_,fun h1=>⟨by omega,?_⟩⟩,fun h=>by rw [hl] at h; omega⟩
   · have ej:Int.toNat ((j:Int) - 1)=j - 1:=by omega
     have bd:=c0_bd (t:=j - 1) (by omega)
     have g3:((LP c0 j).set j (c1 j))[Int.toNat ((j:Int) - 1)]?=some (c0 (j - 1)):=by rw [ej,List.getElem?_set_ne (by omega),Yn (by omega),if_pos (by omega)]
     have g4:((LP c0 j).set j (c1 j))[j]?=some (c1 j):=List.getElem?_set_self (by rw [yb]; omega)
     refine ⟨by omega,_,g3,fun _=>⟨_,g4,by omega,by omega,?_⟩,fun h=>absurd (by omega) h⟩
     rw [List.set_set,c0_step (by omega) (by omega)]
     exact nx
   · have e0:j=0:=by omega
     subst e0
     exact nx
 have l1:∀ (d j:Nat),j+d=1008→Yw E r2 j (LP c1 j):=by
  intro d
  induction d with
  | zero =>
   intro j hj
   have ej:j=1008:=by omega
   subst ej
   refine f186W1002 _ _ _ (rv:=([1,1],1200)) hE ⟨fun h=>by rw [hl] at h; omega,fun _=>?_⟩
   have:=l2 1008 0 (by omega)
   rw [← LP_zero] at this
   exact this
  | succ d ih =>
   intro j hj
   have g1:=r2_get (j:=j) (by omega)
   have g2:(LP c1 j)[j]?=some NN:=by rw [Yn (by omega),if_neg (by omega)]
   have nx:=ih (j+1) (by omega)
   rw [← LP_set (f:=c1) (j:=j) (by omega)] at nx
   refine f186W1002 _ j _ (rv:=([1,1],1200)) hE ⟨fun _=>⟨_,g1,_,g2,by omega,fun h1=>?_,fun h1=>⟨by omega,?_⟩⟩,fun h=>by rw [hl] at h; omega⟩
   · have ej:Int.toNat ((j:Int) - 6)=j - 6:=by omega
     rw [if_neg (show ¬ j=0 by omega)]
     have g3:((LP c1 j).set j NN)[Int.toNat ((j:Int) - 6)]?=some (c1 (j - 6)):=by rw [ej,List.getElem?_set_ne (by omega),Yn (by omega),if_pos (by omega)]
     have g4:((LP c1 j).set j NN)[j]?=some NN:=List.getElem?_set_self (by rw [yb]; omega)
     refine ⟨by omega,_,g3,fun h2=>⟨_,g4,?_,by omega,?_⟩,fun h2=>⟨by omega,?_⟩⟩
     · by_cases h6:(j - 6) % 6=0
       · have:=VA (t:=j - 6) (by omega) h6
         omega
       · rw [qi h6] at h2
         exact absurd h2 (by decide)
     · have h6:(j - 6) % 6=0:=Decidable.byContradiction fun h6=>by
        rw [qi h6] at h2
        exact absurd h2 (by decide)
       rw [List.set_set,c1_step (by omega) (by omega) h6]
       exact nx
     · have h6:¬ j % 6=0:=fun h6=>by
        have:=VA (t:=j - 6) (by omega) (by omega)
        omega
       rw [qi h6] at nx
       exact nx
   · by_cases e0:j=0
     · subst e0
       exact nx
     · rw [if_neg e0]
       have h6:¬ j % 6=0:=by omega
       rw [qi h6] at nx
       exact nx
 have z:(List.replicate (Int.toNat (1008:Int)) (1152921504606846976:Int))[0]?=some NN:=by rw [List.getElem?_replicate,if_pos (by decide)]
 have fin:=l1 1008 0 (by omega)
 rw [← LP_zero] at fin
 exact f186W (rv:=([1,1],1200)) hE ⟨by omega,by omega,by omega,NN,z,fin⟩
end Go.Proofs.Ytemklbioijmjiaa
namespace Go.Proofs.Ytemklbioijmjiaa
open Go Ax
open Go.Proofs
def exF:Fair:=⟨0,0,[5],[0],[⟨1,200⟩,⟨6,1000⟩],0,0,1⟩
theorem f116b:Try.f116.body=some (Qb Try.prog 116):=by kernel_rfl
theorem u116 {a c k:List AV} {r:AV} (h:Pure Try.prog 116 (a++c++k) r):Qi Try.prog (.clos 116 a k) c r:=Qk Try.func116 (by kernel_rfl) f116b h
theorem p116_start_0 {E:Env} {res:AV} (hE:Qg Try.prog 116 res E) (ho:AllP [Qi Try.prog (.clos 186 [] []) [.rsl [.int .i64 1,.int .i64 200,.int .i64 6,.int .i64 1000] 0 2,.int .i64 7] (.tup [.rsl (rowI [1,1]) 0 2,.int .i64 1200]),2 ≠ 0,false=false])
 (hr:AvLe (.tup [.rsl (rowI [1,1]) 0 2,.int .i64 1200,.int .i64 0]) res):G Try.prog E [.code (Qb Try.prog 116)] ⟨[.agg [.int .i64 0,.int .i64 0,.rsl [.int .i64 5] 0 1,.rsl [.int .i64 0] 0 1,.rsl [.int .i64 1,.int .i64 200,.int .i64 6,.int .i64 1000] 0 2,.int .i64 0,.int .i64 0,.int .i64 1],.int .i64 7]++unds (Try.f116.ntmps - 2),[]⟩ :=
 Qa (n:=400) (evs:=[.v (.tup [.rsl (rowI [1,1]) 0 2,.int .i64 1200]),.b false]) (obs:=_) hE Try.func116 Qv (by kernel_rfl) ho hr
theorem f116W {E:Env} {rv:((List Int) × Int × Int)} (hE:Qg Try.prog 116 (.tup [.rsl (rowI rv.1) 0 rv.1.length,.int .i64 rv.2.1,.int .i64 rv.2.2]) E)
 (h:rv=((([1,1]:List Int).take 2),1200,0)):G Try.prog E [.code (Qb Try.prog 116)] ⟨[.agg [.int .i64 0,.int .i64 0,.rsl [.int .i64 5] 0 1,.rsl [.int .i64 0] 0 1,.rsl [.int .i64 1,.int .i64 200,.int .i64 6,.int .i64 1000] 0 2,.int .i64 0,.int .i64 0,.int .i64 1],.int .i64 7]++unds (Try.f116.ntmps - 2),[]⟩:=by
 exact p116_start_0 hE ⟨(u186 buy_ok),(by decide),rfl,trivial⟩ (AvLe.of_eq (by rw [h]; rw [(show AV.rsl (rowI [1,1]) 0 2=AV.rsl (rowI ([1,1]:List Int)) 0 ([1,1]:List Int).length from by rw [show 2=([1,1]:List Int).length from by simp]; try rfl)]; try rfl))
theorem bought_ok:Pure Try.prog 116 [.agg [.int .i64 0,.int .i64 0,.rsl [.int .i64 5] 0 1,.rsl [.int .i64 0] 0 1,.rsl [.int .i64 1,.int .i64 200,.int .i64 6,.int .i64 1000] 0 2,.int .i64 0,.int .i64 0,.int .i64 1],.int .i64 7] (.tup [.rsl (rowI [1,1]) 0 2,.int .i64 1200,.int .i64 0]):=Qs Try.func116 f116b fun E hE=>f116W (rv:=([1,1],1200,0)) hE rfl
theorem f48b:Try.f48.body=some (Qb Try.prog 48):=by kernel_rfl
theorem u48 {a c k:List AV} {r:AV} (h:Pure Try.prog 48 (a++c++k) r):Qi Try.prog (.clos 48 a k) c r:=Qk Try.func48 (by kernel_rfl) f48b h
theorem p48_start_0 {E:Env} {res:AV} (hE:Qg Try.prog 48 res E) (ho:AllP [Qi Try.prog (.clos 114 [] []) [.agg [.int .i64 0,.int .i64 0,.rsl [.int .i64 5] 0 1,.rsl [.int .i64 0] 0 1,.rsl [.int .i64 1,.int .i64 200,.int .i64 6,.int .i64 1000] 0 2,.int .i64 0,.int .i64 0,.int .i64 1]] (.int .i64 (Yv exF)),((Yv exF) != 0)=true])
 (hr:AvLe (.tup [.nilSl,.int .i64 0,.int .i64 (Yv exF)]) res):G Try.prog E [.code (Qb Try.prog 48)] ⟨[.agg [.int .i64 0,.int .i64 0,.rsl [.int .i64 5] 0 1,.rsl [.int .i64 0] 0 1,.rsl [.int .i64 1,.int .i64 200,.int .i64 6,.int .i64 1000] 0 2,.int .i64 0,.int .i64 0,.int .i64 1],.int .i64 7]++unds (Try.f48.ntmps - 2),[]⟩ :=
 Qa (n:=400) (evs:=[.v (.int .i64 (Yv exF)),.b true]) (obs:=_) hE Try.func48 Qv (by kernel_rfl) ho hr
theorem p48_start_1 {E:Env} {res:AV} (hE:Qg Try.prog 48 res E) (ho:AllP [Qi Try.prog (.clos 114 [] []) [.agg [.int .i64 0,.int .i64 0,.rsl [.int .i64 5] 0 1,.rsl [.int .i64 0] 0 1,.rsl [.int .i64 1,.int .i64 200,.int .i64 6,.int .i64 1000] 0 2,.int .i64 0,.int .i64 0,.int .i64 1]] (.int .i64 (Yv exF)),((Yv exF) != 0)=false,Qi Try.prog (.clos 115 [] []) [.int .i64 7,.int .i64 0,.int .i64 1000] (.bool (Qc 7 0 1000)),(!(Qc 7 0 1000))=true])
 (hr:AvLe (.tup [.nilSl,.int .i64 0,.int .i64 1]) res):G Try.prog E [.code (Qb Try.prog 48)] ⟨[.agg [.int .i64 0,.int .i64 0,.rsl [.int .i64 5] 0 1,.rsl [.int .i64 0] 0 1,.rsl [.int .i64 1,.int .i64 200,.int .i64 6,.int .i64 1000] 0 2,.int .i64 0,.int .i64 0,.int .i64 1],.int .i64 7]++unds (Try.f48.ntmps - 2),[]⟩ :=
 Qa (n:=400) (evs:=[.v (.int .i64 (Yv exF)),.b false,.v (.bool (Qc 7 0 1000)),.b true]) (obs:=_) hE Try.func48 Qv (by kernel_rfl) ho hr
theorem p48_start_2 {E:Env} {res:AV} (hE:Qg Try.prog 48 res E) (ho:AllP [Qi Try.prog (.clos 114 [] []) [.agg [.int .i64 0,.int .i64 0,.rsl [.int .i64 5] 0 1,.rsl [.int .i64 0] 0 1,.rsl [.int .i64 1,.int .i64 200,.int .i64 6,.int .i64 1000] 0 2,.int .i64 0,.int .i64 0,.int .i64 1]] (.int .i64 (Yv exF)),((Yv exF) != 0)=false,Qi Try.prog (.clos 115 [] []) [.int .i64 7,.int .i64 0,.int .i64 1000] (.bool (Qc 7 0 1000)),(!(Qc 7 0 1000))=false,Qi Try.prog (.clos 116 [] []) [.agg [.int .i64 0,.int .i64 0,.rsl [.int .i64 5] 0 1,.rsl [.int .i64 0] 0 1,.rsl [.int .i64 1,.int .i64 200,.int .i64 6,.int .i64 1000] 0 2,.int .i64 0,.int .i64 0,.int .i64 1],.int .i64 7] (.tup [.rsl (rowI [1,1]) 0 2,.int .i64 1200,.int .i64 0])])
 (hr:AvLe (.tup [.rsl (rowI [1,1]) 0 2,.int .i64 1200,.int .i64 0]) res):G Try.prog E [.code (Qb Try.prog 48)] ⟨[.agg [.int .i64 0,.int .i64 0,.rsl [.int .i64 5] 0 1,.rsl [.int .i64 0] 0 1,.rsl [.int .i64 1,.int .i64 200,.int .i64 6,.int .i64 1000] 0 2,.int .i64 0,.int .i64 0,.int .i64 1],.int .i64 7]++unds (Try.f48.ntmps - 2),[]⟩ :=
 Qa (n:=400) (evs:=[.v (.int .i64 (Yv exF)),.b false,.v (.bool (Qc 7 0 1000)),.b false,.v (.tup [.rsl (rowI [1,1]) 0 2,.int .i64 1200,.int .i64 0])]) (obs:=_) hE Try.func48 Qv (by kernel_rfl) ho hr
theorem f48W {E:Env} {rv:((List Int) × Int × Int)} (hE:Qg Try.prog 48 (.tup [.rsl (rowI rv.1) 0 rv.1.length,.int .i64 rv.2.1,.int .i64 rv.2.2]) E)
 (h:((¬ ((Yv exF)=0)→rv=(([]:List Int),0,(Yv exF)))∧((Yv exF)=0→(((Qc 7 0 1000)=false→rv=(([]:List Int),0,1))∧((Qc 7 0 1000)=true→rv=((([1,1]:List Int).take 2),1200,0)))))):G Try.prog E [.code (Qb Try.prog 48)] ⟨[.agg [.int .i64 0,.int .i64 0,.rsl [.int .i64 5] 0 1,.rsl [.int .i64 0] 0 1,.rsl [.int .i64 1,.int .i64 200,.int .i64 6,.int .i64 1000] 0 2,.int .i64 0,.int .i64 0,.int .i64 1],.int .i64 7]++unds (Try.f48.ntmps - 2),[]⟩:=by
 rcases bft ((Yv exF) != 0) with hc0 | hc0
 · have h:=h.1 (bneT hc0)
   exact p48_start_0 hE ⟨(u114 (Wx exF ⟨by decide,by decide,by decide⟩)),hc0,trivial⟩ (by rw [h]; exact (YI ⟨Yb,⟨AvLe.of_eq rfl,⟨AvLe.of_eq rfl,trivial⟩⟩⟩))
 · have h:=h.2 (bneF hc0)
   rcases bft (!(Qc 7 0 1000)) with hc1 | hc1
   · have h:=h.1 (bnT hc1)
     exact p48_start_1 hE ⟨(u114 (Wx exF ⟨by decide,by decide,by decide⟩)),hc0,(u115 (Ql 7 0 1000)),hc1,trivial⟩ (by rw [h]; exact (YI ⟨Yb,⟨AvLe.of_eq rfl,⟨AvLe.of_eq rfl,trivial⟩⟩⟩))
   · have h:=h.2 (bnF hc1)
     exact p48_start_2 hE ⟨(u114 (Wx exF ⟨by decide,by decide,by decide⟩)),hc0,(u115 (Ql 7 0 1000)),hc1,(u116 bought_ok),trivial⟩ (AvLe.of_eq (by rw [h]; rw [(show AV.rsl (rowI [1,1]) 0 2=AV.rsl (rowI ([1,1]:List Int)) 0 ([1,1]:List Int).length from by rw [show 2=([1,1]:List Int).length from by simp]; try rfl)]; try rfl))
theorem exF_ok:Yv exF=0:=by decide
theorem Buy_ok:Pure Try.prog 48 [.agg [.int .i64 0,.int .i64 0,.rsl [.int .i64 5] 0 1,.rsl [.int .i64 0] 0 1,.rsl [.int .i64 1,.int .i64 200,.int .i64 6,.int .i64 1000] 0 2,.int .i64 0,.int .i64 0,.int .i64 1],.int .i64 7] (.tup [.rsl (rowI [1,1]) 0 2,.int .i64 1200,.int .i64 0]):=Qs Try.func48 f48b fun E hE=>f48W (rv:=([1,1],1200,0)) hE ⟨fun h=>absurd exF_ok h,fun _=>⟨fun h=>absurd h (by decide),fun _=>rfl⟩⟩
theorem f31b:Try.f31.body=some (Qb Try.prog 31):=by kernel_rfl
theorem u31 {a c k:List AV} {r:AV} (h:Pure Try.prog 31 (a++c++k) r):Qi Try.prog (.clos 31 a k) c r:=Qk Try.func31 (by kernel_rfl) f31b h
def f31K0 (P:Program):List Item:=kAt 400 [.code (Qb P 31)] [.b false,.stop]
def f31S0 (a:(List Int)) (b:(List Int)) (i:Nat):St:=⟨([.rsl (rowI a) 0 a.length,.rsl (rowI b) 0 b.length,J,J,J,.int .i64 (i:Int)]++Js 20),[]⟩
def f31G0 (E:Env) (a:(List Int)) (b:(List Int)) (i:Nat):Prop:=G Try.prog E (f31K0 Try.prog) (f31S0 a b i )
theorem p31_start_0 (a:(List Int)) (b:(List Int)) {E:Env} {res:AV} (hE:Qg Try.prog 31 res E) (ho:AllP [((a.length:Int) != (b.length:Int))=true])
 (hr:AvLe (.bool false) res):G Try.prog E [.code (Qb Try.prog 31)] ⟨[.rsl (rowI a) 0 a.length,.rsl (rowI b) 0 b.length]++unds (Try.f31.ntmps - 2),[]⟩ :=
 Qa (n:=400) (evs:=[.b true]) (obs:=_) hE Try.func31 Qv (by kernel_rfl) ho hr
theorem p31_start_1 (a:(List Int)) (b:(List Int)) {E:Env} {rv:AV} (hE:Qg Try.prog 31 rv E) (ho:AllP [((a.length:Int) != (b.length:Int))=false])
 (hg:G Try.prog E (f31K0 Try.prog) ⟨([.rsl (rowI a) 0 a.length,.rsl (rowI b) 0 b.length,J,J,J,.int .i64 0]++Js 20),[]⟩):G Try.prog E [.code (Qb Try.prog 31)] ⟨[.rsl (rowI a) 0 a.length,.rsl (rowI b) 0 b.length]++unds (Try.f31.ntmps - 2),[]⟩ :=
 Qh (n:=400) (ds:=[]) (cs:=[]) (live:=[0,1,5]) (m:=0) (evs:=[.b false,.stop]) (obs:=_) hE.2.1 (hE.nogh _) Qv (by kernel_rfl) ho hg
theorem f31W (a:(List Int)) (b:(List Int)) {E:Env} {rv:Bool} (hE:Qg Try.prog 31 (.bool rv) E)
 (h:((¬ ((a.length:Int)=(b.length:Int))→rv=false)∧((a.length:Int)=(b.length:Int)→f31G0 E a b 0))):G Try.prog E [.code (Qb Try.prog 31)] ⟨[.rsl (rowI a) 0 a.length,.rsl (rowI b) 0 b.length]++unds (Try.f31.ntmps - 2),[]⟩:=by
 rcases bft ((a.length:Int) != (b.length:Int)) with hc0 | hc0
 · have h:=h.1 (bneT hc0)
   exact p31_start_0 a b hE ⟨hc0,trivial⟩ (AvLe.of_eq (by rw [h]; try rfl))
 · have h:=h.2 (bneF hc0)
   exact p31_start_1 a b hE ⟨hc0,trivial⟩ h
theorem p31_0_0 (a:(List Int)) (b:(List Int)) (i:Nat) (e:Int) (e1:Int) {E:Env} {res:AV} (hE:Qg Try.prog 31 res E) (ho:AllP [(decide ((i:Int)<(a.length:Int)))=true,0≤(i:Int)∧(i:Int)<(a.length:Int),((rowI a).drop (0+(Int.toNat (i:Int))*1)).take 1=[.int .i64 e],0≤(i:Int)∧(i:Int)<(b.length:Int),((rowI b).drop (0+(Int.toNat (i:Int))*1)).take 1=[.int .i64 e1],(e != e1)=true])
 (hr:AvLe (.bool false) res):G Try.prog E (f31K0 Try.prog) (f31S0 a b i ) :=
 Qa (n:=400) (evs:=[.b true,.ld (.int .i64 e),.ld (.int .i64 e1),.b true]) (obs:=_) hE Try.func31 Qv (by kernel_rfl) ho hr
theorem p31_0_1 (a:(List Int)) (b:(List Int)) (i:Nat) (e:Int) (e1:Int) {E:Env} {rv:AV} (hE:Qg Try.prog 31 rv E) (ho:AllP [(decide ((i:Int)<(a.length:Int)))=true,0≤(i:Int)∧(i:Int)<(a.length:Int),((rowI a).drop (0+(Int.toNat (i:Int))*1)).take 1=[.int .i64 e],0≤(i:Int)∧(i:Int)<(b.length:Int),((rowI b).drop (0+(Int.toNat (i:Int))*1)).take 1=[.int .i64 e1],(e != e1)=false,InR .i64 ((i:Int)+1)])
 (hg:G Try.prog E (f31K0 Try.prog) ⟨([.rsl (rowI a) 0 a.length,.rsl (rowI b) 0 b.length,J,J,J,.int .i64 ((i:Int)+1)]++Js 20),[]⟩):G Try.prog E (f31K0 Try.prog) (f31S0 a b i ) :=
 Qh (n:=400) (ds:=[]) (cs:=[]) (live:=[0,1,5]) (m:=0) (evs:=[.b true,.ld (.int .i64 e),.ld (.int .i64 e1),.b false,.stop]) (obs:=_) hE.2.1 (hE.nogh _) Qv (by kernel_rfl) ho hg
theorem p31_0_2 (a:(List Int)) (b:(List Int)) (i:Nat) {E:Env} {res:AV} (hE:Qg Try.prog 31 res E) (ho:AllP [(decide ((i:Int)<(a.length:Int)))=false])
 (hr:AvLe (.bool true) res):G Try.prog E (f31K0 Try.prog) (f31S0 a b i ) :=
 Qa (n:=400) (evs:=[.b false]) (obs:=_) hE Try.func31 Qv (by kernel_rfl) ho hr
theorem f31W0 (a:(List Int)) (b:(List Int)) (i:Nat) {E:Env} {rv:Bool} (hE:Qg Try.prog 31 (.bool rv) E)
 (h:(((i:Int)<(a.length:Int)→(∃ e:Int,a[i]?=some e∧(∃ e1:Int,b[i]?=some e1∧((¬ (e=e1)→rv=false)∧(e=e1→((I6 ((i:Int)+1))∧f31G0 E a b (i+1)))))))∧(¬ ((i:Int)<(a.length:Int))→rv=true))):f31G0 E a b i:=by
 rcases bft (decide ((i:Int)<(a.length:Int))) with hc0 | hc0
 · have h:=h.1 (odt hc0)
   obtain ⟨e,h1,h⟩:=h
   obtain ⟨e1,h2,h⟩:=h
   rcases bft (e != e1) with hc1 | hc1
   · have h:=h.1 (bneT hc1)
     exact p31_0_0 a b i e e1 hE ⟨hc0,(Qq h1),(rp cI 1 0 1 h1),(Qq h2),(rp cI 1 0 1 h2),hc1,trivial⟩ (AvLe.of_eq (by rw [h]; try rfl))
   · have h:=h.2 (bneF hc1)
     obtain ⟨q8_2,h⟩:=h
     exact p31_0_1 a b i e e1 hE ⟨hc0,(Qq h1),(rp cI 1 0 1 h1),(Qq h2),(rp cI 1 0 1 h2),hc1,q8_2,trivial⟩ h
 · have h:=h.2 (odf hc0)
   exact p31_0_2 a b i hE ⟨hc0,trivial⟩ (AvLe.of_eq (by rw [h]; try rfl))
theorem tsame_ok (a b:List Int) (h:a=b∧a.length≤1000000):Pure Try.prog 31 [.rsl (rowI a) 0 a.length,.rsl (rowI b) 0 b.length] (.bool true):=Qs Try.func31 f31b fun E hE=>by
 obtain ⟨rfl,hl⟩:=h
 have key:∀ (d i:Nat),i+d=a.length→f31G0 E a a i:=by
  intro d
  induction d with
  | zero=>intro i hi; exact f31W0 a a i (rv:=true) hE ⟨fun h=>by omega,fun _=>rfl⟩
  | succ d ih =>
   intro i hi
   have hx:a[i]?=some (a[i]'(by omega)):=List.getElem?_eq_getElem (by omega)
   exact f31W0 a a i (rv:=true) hE ⟨fun _=>⟨_,hx,_,hx,fun h=>absurd rfl h,fun _=>⟨by omega,ih (i+1) (by omega)⟩⟩,fun h=>by omega⟩
 exact f31W a a (rv:=true) hE ⟨fun h=>absurd rfl h,fun _=>key a.length 0 (by omega)⟩
theorem f13b:Try.f13.body=some (Qb Try.prog 13):=by kernel_rfl
theorem u13 {a c k:List AV} {r:AV} (h:Pure Try.prog 13 (a++c++k) r):Qi Try.prog (.clos 13 a k) c r:=Qk Try.func13 (by kernel_rfl) f13b h
theorem p13_start_0 {E:Env} {res:AV} (hE:Qg Try.prog 13 res E) (ho:AllP [8≤8,YF Try.prog (.clos 48 [] []) [.agg [.int .i64 0,.int .i64 0,.sl 0 0 0 1 1,.sl 1 0 0 1 1,.sl 2 0 0 2 2,.int .i64 0,.int .i64 0,.int .i64 1],.int .i64 7] [⟨true,0,1,true,[.int .i64 5],true⟩,⟨true,0,1,true,[.int .i64 0],true⟩,⟨true,0,2,true,[.int .i64 1,.int .i64 200,.int .i64 6,.int .i64 1000],true⟩] (.tup [.rsl (rowI [1,1]) 0 2,.int .i64 1200,.int .i64 0]) [⟨false,1,1,true,[],false⟩,⟨false,1,1,true,[],false⟩,⟨false,1,2,true,[],false⟩],true=true,true=true,Qi Try.prog (.clos 31 [] []) [.rsl (rowI [1,1]) 0 2,.rsl [.int .i64 1,.int .i64 1] 0 2] (.bool true),0=0])
 (hr:AvLe (.bool true) res):G Try.prog E [.code (Qb Try.prog 13)] ⟨[]++unds (Try.f13.ntmps - 0),[]⟩ :=
 Qa (n:=400) (evs:=[.lent [0,1,2] (.tup [.rsl (rowI [1,1]) 0 2,.int .i64 1200,.int .i64 0]) [⟨false,1,1,true,[],false⟩,⟨false,1,1,true,[],false⟩,⟨false,1,2,true,[],false⟩],.b true,.b true,.v (.bool true)]) (obs:=_) hE Try.func13 Qv (by kernel_rfl) ho hr
theorem f13W {E:Env} {rv:Bool} (hE:Qg Try.prog 13 (.bool rv) E)
 (h:(((([1,1]:List Int).take 2)=([1,1])∧(([1,1]:List Int).take 2).length≤1000000)∧rv=true)):G Try.prog E [.code (Qb Try.prog 13)] ⟨[]++unds (Try.f13.ntmps - 0),[]⟩:=by
 obtain ⟨h1,h⟩:=h
 exact p13_start_0 hE ⟨(by decide),(Xo (fv':=.clos 48 [] []) (args':=[.agg [.int .i64 0,.int .i64 0,.rsl [.int .i64 5] 0 1,.rsl [.int .i64 0] 0 1,.rsl [.int .i64 1,.int .i64 200,.int .i64 6,.int .i64 1000] 0 2,.int .i64 0,.int .i64 0,.int .i64 1],.int .i64 7]) (o1:=[]) (o2:=[0=0,0=0,0=0]) (by kernel_rfl) trivial (by kernel_rfl) ⟨rfl,rfl,rfl,trivial⟩ (u48 Buy_ok)),rfl,rfl,(Qi.le (args:=[.rsl (rowI (([1,1]:List Int).take 2)) 0 ((([1,1]:List Int).take 2).length),.rsl (rowI ([1,1])) 0 (([1,1]).length)]) (u31 (tsame_ok (([1,1]:List Int).take 2) ([1,1]) h1)) ⟨(by exact rsl_take cI (s:=1) (fun _=>rfl) (by first | omega | decide | simp)),⟨AvLe.of_eq rfl,trivial⟩⟩),rfl,trivial⟩ (AvLe.of_eq (by rw [h]; try rfl))
theorem Yq:Pure Try.prog 13 [] (.bool true):=Qs Try.func13 f13b fun E hE=>f13W (rv:=true) hE ⟨⟨rfl,by decide⟩,rfl⟩
end Go.Proofs.Ytemklbioijmjiaa
namespace Go.Proofs.Ytemklbioijmjiaa
open Go Ax
open Go.Proofs
theorem ownT:ownKnob Try.prog.godebug=none:=by kernel_rfl
theorem laidT:laidOutB Try.prog=true:=by kernel_rfl
theorem tInts (W:World):Dec Try.prog W 34 (List Int) (fun a=>[.rsl (rowI a) 0 a.length]) (fun a=>a.length≤9223372036854775807):=by
 refine Dec.map (qd Try.underlying34 (n:=1) (by kernel_rfl) (by decide) (fun _=>rfl) (fun _=>rfl) (VT Try.underlying3)) (fun x=>x) ?_ ?_
 · exact fun _=>rfl
 · exact fun _ h=>h.1
end Go.Proofs.Ytemklbioijmjiaa
namespace Go.Proofs.Ytemklbioijmjiaa
open Go Ax
open Go.Proofs
theorem Qo:Try.prog.follows .mixedOrders=true:=by kernel_rfl
structure Trn where
 w:Int
 to:Int
def cTrn (t:Trn):List AV:=[.int .i64 t.w,.int .i64 t.to]
def Qn (l:List Trn):List AV:=l.flatMap cTrn
structure Stg where
 kind:Int
 prize:Int
 turns:List Trn
def cStg (x:Stg):List AV:=[.int .i64 x.kind,.int .i64 x.prize,.rsl (Qn x.turns) 0 x.turns.length]
def Qe (l:List Stg):List AV:=l.flatMap cStg
structure Stl where
 stages:List Stg
 worth:List Int
 price:Int
structure Mch where
 s:Stl
 meas:List Int
 mult:List Int
def cMch (m:Mch):List AV:=[.rsl (Qe m.s.stages) 0 m.s.stages.length,.rsl (rowI m.s.worth) 0 m.s.worth.length,.int .i64 m.s.price,.rsl (rowI m.meas) 0 m.meas.length,.rsl (rowI m.mult) 0 m.mult.length]
theorem f69b:Try.f69.body=some (Qb Try.prog 69):=by kernel_rfl
theorem u69 {a c k:List AV} {r:AV} (h:Pure Try.prog 69 (a++c++k) r):Qi Try.prog (.clos 69 a k) c r:=Qk Try.func69 (by kernel_rfl) f69b h
theorem p69_start_0 (n:Int) (lo:Int) (hi:Int) {E:Env} {res:AV} (hE:Qg Try.prog 69 res E) (ho:AllP [(decide (n≥lo))=true])
 (hr:AvLe (.bool (decide (n≤hi))) res):G Try.prog E [.code (Qb Try.prog 69)] ⟨[.int .i64 n,.int .i64 lo,.int .i64 hi]++unds (Try.f69.ntmps - 3),[]⟩ :=
 Qa (n:=400) (evs:=[.b true]) (obs:=_) hE Try.func69 Qo (by kernel_rfl) ho hr
theorem p69_start_1 (n:Int) (lo:Int) (hi:Int) {E:Env} {res:AV} (hE:Qg Try.prog 69 res E) (ho:AllP [(decide (n≥lo))=false])
 (hr:AvLe (.bool false) res):G Try.prog E [.code (Qb Try.prog 69)] ⟨[.int .i64 n,.int .i64 lo,.int .i64 hi]++unds (Try.f69.ntmps - 3),[]⟩ :=
 Qa (n:=400) (evs:=[.b false]) (obs:=_) hE Try.func69 Qo (by kernel_rfl) ho hr
theorem f69W (n:Int) (lo:Int) (hi:Int) {E:Env} {rv:Bool} (hE:Qg Try.prog 69 (.bool rv) E)
 (h:((n≥lo→rv=(decide (n≤hi)))∧(¬ (n≥lo)→rv=false))):G Try.prog E [.code (Qb Try.prog 69)] ⟨[.int .i64 n,.int .i64 lo,.int .i64 hi]++unds (Try.f69.ntmps - 3),[]⟩:=by
 rcases bft (decide (n≥lo)) with hc0 | hc0
 · have h:=h.1 (odt hc0)
   exact p69_start_0 n lo hi hE ⟨hc0,trivial⟩ (AvLe.of_eq (by rw [h]; try rfl))
 · have h:=h.2 (odf hc0)
   exact p69_start_1 n lo hi hE ⟨hc0,trivial⟩ (AvLe.of_eq (by rw [h]; try rfl))
def Qd (n lo hi:Int):Bool:=decide (n≥lo) && decide (n≤hi)
theorem Qx (n lo hi:Int):Pure Try.prog 69 [.int .i64 n,.int .i64 lo,.int .i64 hi] (.bool (Qd n lo hi)):=Qs Try.func69 f69b fun E hE=>by
 refine f69W n lo hi hE ⟨fun h=>by simp [Qd,h],fun h=>by simp only [Qd]; rw [decide_eq_false h]; rfl⟩
theorem Qz {n lo hi:Int}:Qd n lo hi=true ↔ lo≤n∧n≤hi:=by simp [Qd]
theorem within_not {n lo hi:Int}:Qd n lo hi=false ↔ ¬ (lo≤n∧n≤hi):=by rw [← Qz]; simp
theorem f198b:Try.f198.body=some (Qb Try.prog 198):=by kernel_rfl
theorem u198 {a c k:List AV} {r:AV} (h:Pure Try.prog 198 (a++c++k) r):Qi Try.prog (.clos 198 a k) c r:=Qk Try.func198 (by kernel_rfl) f198b h
def f198K0 (P:Program):List Item:=kAt 400 [.code (Qb P 198)] [.stop]
def f198S0 (a:Int) (b:Int) (a1:Int) (b1:Int):St:=⟨([.int .i64 a1,.int .i64 b1]++Js 11),[]⟩
def f198G0 (E:Env) (a:Int) (b:Int) (a1:Int) (b1:Int):Prop:=G Try.prog E (f198K0 Try.prog) (f198S0 a b a1 b1 )
theorem p198_start_0 (a:Int) (b:Int) {E:Env} {rv:AV} (hE:Qg Try.prog 198 rv E) (ho:AllP [])
 (hg:G Try.prog E (f198K0 Try.prog) ⟨([.int .i64 a,.int .i64 b]++Js 11),[]⟩):G Try.prog E [.code (Qb Try.prog 198)] ⟨[.int .i64 a,.int .i64 b]++unds (Try.f198.ntmps - 2),[]⟩ :=
 Qh (n:=400) (ds:=[]) (cs:=[]) (live:=[0,1]) (m:=0) (evs:=[.stop]) (obs:=_) hE.2.1 (hE.nogh _) Qo (by kernel_rfl) ho hg
theorem f198W (a:Int) (b:Int) {E:Env} {rv:Int} (hE:Qg Try.prog 198 (.int .i64 rv) E)
 (h:f198G0 E a b a b):G Try.prog E [.code (Qb Try.prog 198)] ⟨[.int .i64 a,.int .i64 b]++unds (Try.f198.ntmps - 2),[]⟩:=by
 exact p198_start_0 a b hE trivial h
theorem p198_0_0 (a:Int) (b:Int) (a1:Int) (b1:Int) {E:Env} {rv:AV} (hE:Qg Try.prog 198 rv E) (ho:AllP [(decide (b1 > 0))=true,b1 ≠ 0])
 (hg:G Try.prog E (f198K0 Try.prog) ⟨([.int .i64 b1,.int .i64 (Int.tmod a1 b1)]++Js 11),[]⟩):G Try.prog E (f198K0 Try.prog) (f198S0 a b a1 b1 ) :=
 Qh (n:=400) (ds:=[]) (cs:=[]) (live:=[0,1]) (m:=0) (evs:=[.b true,.stop]) (obs:=_) hE.2.1 (hE.nogh _) Qo (by kernel_rfl) ho hg
theorem p198_0_1 (a:Int) (b:Int) (a1:Int) (b1:Int) {E:Env} {res:AV} (hE:Qg Try.prog 198 res E) (ho:AllP [(decide (b1 > 0))=false])
 (hr:AvLe (.int .i64 (iMax a1 1)) res):G Try.prog E (f198K0 Try.prog) (f198S0 a b a1 b1 ) :=
 Qa (n:=400) (evs:=[.b false]) (obs:=_) hE Try.func198 Qo (by kernel_rfl) ho hr
theorem f198W0 (a:Int) (b:Int) (a1:Int) (b1:Int) {E:Env} {rv:Int} (hE:Qg Try.prog 198 (.int .i64 rv) E)
 (h:((b1 > 0→(b1 ≠ 0∧f198G0 E a b b1 (Int.tmod a1 b1)))∧(¬ (b1 > 0)→rv=(iMax a1 1)))):f198G0 E a b a1 b1:=by
 rcases bft (decide (b1 > 0)) with hc0 | hc0
 · have h:=h.1 (odt hc0)
   obtain ⟨q1_1,h⟩:=h
   exact p198_0_0 a b a1 b1 hE ⟨hc0,q1_1,trivial⟩ h
 · have h:=h.2 (odf hc0)
   exact p198_0_1 a b a1 b1 hE ⟨hc0,trivial⟩ (AvLe.of_eq (by rw [h]; try rfl))
theorem f197b:Try.f197.body=some (Qb Try.prog 197):=by kernel_rfl
theorem u197 {a c k:List AV} {r:AV} (h:Pure Try.prog 197 (a++c++k) r):Qi Try.prog (.clos 197 a k) c r:=Qk Try.func197 (by kernel_rfl) f197b h
theorem p197_start_0 (a:Int) (b:Int) {E:Env} {res:AV} (hE:Qg Try.prog 197 res E) (ho:AllP [InR .i64 (Int.tdiv 1000000000000 b),b ≠ 0,(decide (a > (Int.tdiv 1000000000000 b)))=true])
 (hr:AvLe (.tup [.int .i64 0,.bool false]) res):G Try.prog E [.code (Qb Try.prog 197)] ⟨[.int .i64 a,.int .i64 b]++unds (Try.f197.ntmps - 2),[]⟩ :=
 Qa (n:=400) (evs:=[.b true]) (obs:=_) hE Try.func197 Qo (by kernel_rfl) ho hr
theorem p197_start_1 (a:Int) (b:Int) {E:Env} {res:AV} (hE:Qg Try.prog 197 res E) (ho:AllP [InR .i64 (Int.tdiv 1000000000000 b),b ≠ 0,(decide (a > (Int.tdiv 1000000000000 b)))=false,InR .i64 (a*b)])
 (hr:AvLe (.tup [.int .i64 (a*b),.bool true]) res):G Try.prog E [.code (Qb Try.prog 197)] ⟨[.int .i64 a,.int .i64 b]++unds (Try.f197.ntmps - 2),[]⟩ :=
 Qa (n:=400) (evs:=[.b false]) (obs:=_) hE Try.func197 Qo (by kernel_rfl) ho hr
theorem f197W (a:Int) (b:Int) {E:Env} {rv:(Int × Bool)} (hE:Qg Try.prog 197 (.tup [.int .i64 rv.1,.bool rv.2]) E)
 (h:((I6 (Int.tdiv 1000000000000 b))∧(b ≠ 0∧((a > (Int.tdiv 1000000000000 b)→rv=(0,false))∧(¬ (a > (Int.tdiv 1000000000000 b))→((I6 (a*b))∧rv=((a*b),true))))))):G Try.prog E [.code (Qb Try.prog 197)] ⟨[.int .i64 a,.int .i64 b]++unds (Try.f197.ntmps - 2),[]⟩:=by
 obtain ⟨q0_0,h⟩:=h
 obtain ⟨q1_0,h⟩:=h
 rcases bft (decide (a > (Int.tdiv 1000000000000 b))) with hc0 | hc0
 · have h:=h.1 (odt hc0)
   exact p197_start_0 a b hE ⟨q0_0,q1_0,hc0,trivial⟩ (AvLe.of_eq (by rw [h]; try rfl))
 · have h:=h.2 (odf hc0)
   obtain ⟨q3_1,h⟩:=h
   exact p197_start_1 a b hE ⟨q0_0,q1_0,hc0,q3_1,trivial⟩ (AvLe.of_eq (by rw [h]; try rfl))
theorem f70b:Try.f70.body=some (Qb Try.prog 70):=by kernel_rfl
theorem u70 {a c k:List AV} {r:AV} (h:Pure Try.prog 70 (a++c++k) r):Qi Try.prog (.clos 70 a k) c r:=Qk Try.func70 (by kernel_rfl) f70b h
def f70K0 (P:Program):List Item:=kAt 400 [.code (Qb P 70)] [.stop]
def f70S0 (x:Stg) (sum:Int) (i:Nat):St:=⟨([J,J,.int .i64 sum,J,J,J,.rsl (Qn x.turns) 0 x.turns.length,.int .i64 (x.turns.length:Int),.int .i64 (i:Int)]++Js 9),[⟨true,0,1,true,[.int .i64 x.kind,.int .i64 x.prize,.rsl (Qn x.turns) 0 x.turns.length],false⟩]⟩
def f70G0 (E:Env) (x:Stg) (sum:Int) (i:Nat):Prop:=G Try.prog E (f70K0 Try.prog) (f70S0 x sum i )
theorem p70_start_0 (x:Stg) {E:Env} {rv:AV} (hE:Qg Try.prog 70 rv E) (ho:AllP [])
 (hg:G Try.prog E (f70K0 Try.prog) ⟨([J,J,.int .i64 0,J,J,J,.rsl (Qn x.turns) 0 x.turns.length,.int .i64 (x.turns.length:Int),.int .i64 0]++Js 9),[⟨true,0,1,true,[.int .i64 x.kind,.int .i64 x.prize,.rsl (Qn x.turns) 0 x.turns.length],false⟩]⟩):G Try.prog E [.code (Qb Try.prog 70)] ⟨[.agg [.int .i64 x.kind,.int .i64 x.prize,.rsl (Qn x.turns) 0 x.turns.length]]++unds (Try.f70.ntmps - 1),[]⟩ :=
 Qh (n:=400) (ds:=[]) (cs:=[]) (live:=[2,6,7,8]) (m:=1) (evs:=[.stop]) (obs:=_) hE.2.1 (hE.nogh _) Qo (by kernel_rfl) ho hg
theorem f70W (x:Stg) {E:Env} {rv:Int} (hE:Qg Try.prog 70 (.int .i64 rv) E)
 (h:f70G0 E x 0 0):G Try.prog E [.code (Qb Try.prog 70)] ⟨[.agg [.int .i64 x.kind,.int .i64 x.prize,.rsl (Qn x.turns) 0 x.turns.length]]++unds (Try.f70.ntmps - 1),[]⟩:=by
 exact p70_start_0 x hE trivial h
theorem p70_0_0 (x:Stg) (sum:Int) (i:Nat) (te:Trn) {E:Env} {rv:AV} (hE:Qg Try.prog 70 rv E) (ho:AllP [(decide ((i:Int)<(x.turns.length:Int)))=true,0≤(i:Int)∧(i:Int)<(x.turns.length:Int),((Qn x.turns).drop (0+(Int.toNat (i:Int))*2)).take 2=[.int .i64 te.w,.int .i64 te.to],2≤2,InR .i64 (sum+te.w),InR .i64 ((i:Int)+1)])
 (hg:G Try.prog E (f70K0 Try.prog) ⟨([J,J,.int .i64 (sum+te.w),J,J,J,.rsl (Qn x.turns) 0 x.turns.length,.int .i64 (x.turns.length:Int),.int .i64 ((i:Int)+1)]++Js 9),[⟨true,0,1,true,[.int .i64 x.kind,.int .i64 x.prize,.rsl (Qn x.turns) 0 x.turns.length],false⟩]⟩):G Try.prog E (f70K0 Try.prog) (f70S0 x sum i ) :=
 Qh (n:=400) (ds:=[]) (cs:=[]) (live:=[2,6,7,8]) (m:=1) (evs:=[.b true,.ld (.agg [.int .i64 te.w,.int .i64 te.to]),.stop]) (obs:=_) hE.2.1 (hE.nogh _) Qo (by kernel_rfl) ho hg
theorem p70_0_1 (x:Stg) (sum:Int) (i:Nat) {E:Env} {res:AV} (hE:Qg Try.prog 70 res E) (ho:AllP [(decide ((i:Int)<(x.turns.length:Int)))=false])
 (hr:AvLe (.int .i64 sum) res):G Try.prog E (f70K0 Try.prog) (f70S0 x sum i ) :=
 Qa (n:=400) (evs:=[.b false]) (obs:=_) hE Try.func70 Qo (by kernel_rfl) ho hr
theorem f70W0 (x:Stg) (sum:Int) (i:Nat) {E:Env} {rv:Int} (hE:Qg Try.prog 70 (.int .i64 rv) E)
 (h:(((i:Int)<(x.turns.length:Int)→(∃ te:Trn,x.turns[i]?=some te∧((I6 (sum+te.w))∧((I6 ((i:Int)+1))∧f70G0 E x (sum+te.w) (i+1)))))∧(¬ ((i:Int)<(x.turns.length:Int))→rv=sum))):f70G0 E x sum i:=by
 rcases bft (decide ((i:Int)<(x.turns.length:Int))) with hc0 | hc0
 · have h:=h.1 (odt hc0)
   obtain ⟨te,h1,h⟩:=h
   obtain ⟨q5_1,h⟩:=h
   obtain ⟨q6_1,h⟩:=h
   exact p70_0_0 x sum i te hE ⟨hc0,(Qq h1),(rp cTrn 2 0 2 h1),(by decide),q5_1,q6_1,trivial⟩ h
 · have h:=h.2 (odf hc0)
   exact p70_0_1 x sum i hE ⟨hc0,trivial⟩ (AvLe.of_eq (by rw [h]; try rfl))
theorem f133b:Try.f133.body=some (Qb Try.prog 133):=by kernel_rfl
theorem u133 {a c k:List AV} {r:AV} (h:Pure Try.prog 133 (a++c++k) r):Qi Try.prog (.clos 133 a k) c r:=Qk Try.func133 (by kernel_rfl) f133b h
theorem p133_start_0 (n:Int) {E:Env} {res:AV} (hE:Qg Try.prog 133 res E) (ho:AllP [Qi Try.prog (.clos 69 [] []) [.int .i64 n,.int .i64 0,.int .i64 10000] (.bool (Qd n 0 10000))])
 (hr:AvLe (.bool (!(Qd n 0 10000))) res):G Try.prog E [.code (Qb Try.prog 133)] ⟨[.int .i64 n]++unds (Try.f133.ntmps - 1),[]⟩ :=
 Qa (n:=400) (evs:=[.v (.bool (Qd n 0 10000))]) (obs:=_) hE Try.func133 Qo (by kernel_rfl) ho hr
theorem f133W (n:Int) {E:Env} {rv:Bool} (hE:Qg Try.prog 133 (.bool rv) E)
 (h:rv=(!(Qd n 0 10000))):G Try.prog E [.code (Qb Try.prog 133)] ⟨[.int .i64 n]++unds (Try.f133.ntmps - 1),[]⟩:=by
 exact p133_start_0 n hE ⟨(u69 (Qx n 0 10000)),trivial⟩ (AvLe.of_eq (by rw [h]; try rfl))
theorem f196b:Try.f196.body=some (Qb Try.prog 196):=by kernel_rfl
theorem u196 {a c k:List AV} {r:AV} (h:Pure Try.prog 196 (a++c++k) r):Qi Try.prog (.clos 196 a k) c r:=Qk Try.func196 (by kernel_rfl) f196b h
theorem p196_start_0 (t:Trn) (lo hi i:Int) (s:Stl) {E:Env} {res:AV} (hE:Qg Try.prog 196 res E) (ho:AllP [Qi Try.prog (.clos 69 [] []) [.int .i64 t.w,.int .i64 lo,.int .i64 hi] (.bool (Qd t.w lo hi)),(!(Qd t.w lo hi))=true])
 (hr:AvLe (.bool true) res):G Try.prog E [.code (Qb Try.prog 196)] ⟨[.agg [.int .i64 t.w,.int .i64 t.to],.rptr [.int .i64 lo] 0,.rptr [.int .i64 hi] 0,.rptr [.int .i64 i] 0,.rptr [.rsl (Qe s.stages) 0 s.stages.length,.rsl (rowI s.worth) 0 s.worth.length,.int .i64 s.price] 0]++unds (Try.f196.ntmps - 5),[]⟩ :=
 Qa (n:=400) (evs:=[.v (.bool (Qd t.w lo hi)),.b true]) (obs:=_) hE Try.func196 Qo (by kernel_rfl) ho hr
theorem p196_start_1 (t:Trn) (lo hi i:Int) (s:Stl) {E:Env} {res:AV} (hE:Qg Try.prog 196 res E) (ho:AllP [Qi Try.prog (.clos 69 [] []) [.int .i64 t.w,.int .i64 lo,.int .i64 hi] (.bool (Qd t.w lo hi)),(!(Qd t.w lo hi))=false,InR .i64 (i+1),InR .i64 ((s.stages.length:Int) - 1),Qi Try.prog (.clos 69 [] []) [.int .i64 t.to,.int .i64 (i+1),.int .i64 ((s.stages.length:Int) - 1)] (.bool (Qd t.to (i+1) ((s.stages.length:Int) - 1)))])
 (hr:AvLe (.bool (!(Qd t.to (i+1) ((s.stages.length:Int) - 1)))) res):G Try.prog E [.code (Qb Try.prog 196)] ⟨[.agg [.int .i64 t.w,.int .i64 t.to],.rptr [.int .i64 lo] 0,.rptr [.int .i64 hi] 0,.rptr [.int .i64 i] 0,.rptr [.rsl (Qe s.stages) 0 s.stages.length,.rsl (rowI s.worth) 0 s.worth.length,.int .i64 s.price] 0]++unds (Try.f196.ntmps - 5),[]⟩ :=
 Qa (n:=400) (evs:=[.v (.bool (Qd t.w lo hi)),.b false,.v (.bool (Qd t.to (i+1) ((s.stages.length:Int) - 1)))]) (obs:=_) hE Try.func196 Qo (by kernel_rfl) ho hr
theorem f196W (t:Trn) (lo hi i:Int) (s:Stl) {E:Env} {rv:Bool} (hE:Qg Try.prog 196 (.bool rv) E)
 (h:(((Qd t.w lo hi)=false→rv=true)∧((Qd t.w lo hi)=true→((I6 (i+1))∧((I6 ((s.stages.length:Int) - 1))∧rv=(!(Qd t.to (i+1) ((s.stages.length:Int) - 1)))))))):G Try.prog E [.code (Qb Try.prog 196)] ⟨[.agg [.int .i64 t.w,.int .i64 t.to],.rptr [.int .i64 lo] 0,.rptr [.int .i64 hi] 0,.rptr [.int .i64 i] 0,.rptr [.rsl (Qe s.stages) 0 s.stages.length,.rsl (rowI s.worth) 0 s.worth.length,.int .i64 s.price] 0]++unds (Try.f196.ntmps - 5),[]⟩:=by
 rcases bft (!(Qd t.w lo hi)) with hc0 | hc0
 · have h:=h.1 (bnT hc0)
   exact p196_start_0 t lo hi i s hE ⟨(u69 (Qx t.w lo hi)),hc0,trivial⟩ (AvLe.of_eq (by rw [h]; try rfl))
 · have h:=h.2 (bnF hc0)
   obtain ⟨q2_1,h⟩:=h
   obtain ⟨q3_1,h⟩:=h
   exact p196_start_1 t lo hi i s hE ⟨(u69 (Qx t.w lo hi)),hc0,q2_1,q3_1,(u69 (Qx t.to (i+1) ((s.stages.length:Int) - 1))),trivial⟩ (AvLe.of_eq (by rw [h]; try rfl))
/-- The greatest common divisor,as it is looked for. -/
def gcdF:Nat→Int→Int→Int
 | 0,a,_=>a
 | n+1,a,b=>if b > 0 then gcdF n b (Int.tmod a b) else a
def gcdI (a b:Int):Int:=gcdF (Int.toNat b+1) a b
theorem gcdF_eq:∀ {n m:Nat} {a b:Int},0≤a→0≤b→b<n→b<m→gcdF n a b=gcdF m a b
 | 0,m,a,b,_,hb,h,_=>by omega
 | n+1,0,a,b,_,hb,_,h=>by omega
 | n+1,m+1,a,b,ha,hb,h1,h2=>by
  simp only [gcdF]
  split
  · rename_i h0
    have t0:=Int.tmod_nonneg b ha
    have t1:=Int.tmod_lt_of_pos a h0
    exact gcdF_eq hb t0 (by omega) (by omega)
  · rfl
theorem gcd_step {a b:Int} (ha:0≤a) (hb:b > 0):gcdI a b=gcdI b (Int.tmod a b):=by
 have t0:=Int.tmod_nonneg b ha
 have t1:=Int.tmod_lt_of_pos a hb
 rw [gcdI,gcdF,if_pos hb,gcdI]
 exact gcdF_eq (by omega) t0 (by omega) (by omega)
theorem gcd_nonneg {a b:Int} (ha:0≤a) (hb:0≤b):0≤gcdI a b:=by
 have:∀ (n:Nat) (a b:Int),0≤a→0≤b→0≤gcdF n a b:=by
  intro n
  induction n with
  | zero=>intro a b ha _; exact ha
  | succ n ih =>
   intro a b ha hb
   simp only [gcdF]
   split
   · exact ih _ _ hb (Int.tmod_nonneg b ha)
   · exact ha
 exact this _ _ _ ha hb
theorem qV (a b:Int) (h:0≤a∧0≤b):Pure Try.prog 198 [.int .i64 a,.int .i64 b] (.int .i64 (iMax (gcdI a b) 1)):=Qs Try.func198 f198b fun E hE=>by
 have key:∀ (d:Nat) (x y:Int),0≤x→0≤y→y≤d→gcdI a b=gcdI x y→f198G0 E a b x y:=by
  intro d
  induction d with
  | zero =>
   intro x y hx hy hd h
   refine f198W0 a b x y (rv:=iMax (gcdI a b) 1) hE ⟨fun h=>by omega,fun h0=>?_⟩
   rw [h,gcdI,gcdF,if_neg h0]
  | succ d ih =>
   intro x y hx hy hd h
   refine f198W0 a b x y (rv:=iMax (gcdI a b) 1) hE ⟨fun h0=>⟨by omega,ih _ _ hy (Int.tmod_nonneg y hx) ?_ (by rw [h,gcd_step hx h0])⟩,fun h0=>?_⟩
   · have:=Int.tmod_lt_of_pos x h0; omega
   · rw [h,gcdI,gcdF,if_neg h0]
 exact f198W a b (rv:=iMax (gcdI a b) 1) hE (key (Int.toNat b) a b h.1 h.2 (by omega) rfl)
def Xg (a b:Int):Int × Bool:=if a > Int.tdiv 1000000000000 b then (0,false) else (a*b,true)
theorem prod_of {a b:Int} (ha:0≤a) (hb:0<b):(Xg a b=(0,false)∧a*b > 1000000000000) ∨ (Xg a b=(a*b,true)∧a*b≤1000000000000):=by
 have e:Int.tdiv 1000000000000 b=1000000000000 / b:=Int.tdiv_eq_ediv_of_nonneg (by omega)
 rw [Xg,e]
 have:a*b≤1000000000000 ↔ a≤1000000000000 / b:=(Int.le_ediv_iff_mul_le hb).symm
 split
 · left; exact ⟨rfl,by omega⟩
 · right; exact ⟨rfl,by omega⟩
theorem VK (a b:Int) (h:0≤a∧0<b):Pure Try.prog 197 [.int .i64 a,.int .i64 b] (.tup [.int .i64 (Xg a b).1,.bool (Xg a b).2]):=Qs Try.func197 f197b fun E hE=>by
 have e:Int.tdiv 1000000000000 b=1000000000000 / b:=Int.tdiv_eq_ediv_of_nonneg (by omega)
 have e1:=Int.ediv_le_self b (show (0:Int)≤1000000000000 by omega)
 have e2:=Int.ediv_nonneg (show (0:Int)≤1000000000000 by omega) (show 0≤b by omega)
 have iff:a*b≤1000000000000 ↔ a≤1000000000000 / b:=(Int.le_ediv_iff_mul_le h.2).symm
 have n0:=Int.mul_nonneg h.1 (show 0≤b by omega)
 refine f197W a b (rv:=Xg a b) hE ⟨by omega,by omega,fun h1=>by rw [Xg,if_pos h1],fun h1=>⟨by omega,by rw [Xg,if_neg h1]⟩⟩
def totI (x:Stg):Int:=(x.turns.map (·.w)).sum
def TotOk (x:Stg):Prop:=x.turns.length≤1000∧∀ t ∈ x.turns,0≤t.w∧t.w≤1000000
theorem tot_bd:∀ {l:List Trn} {B:Int},(∀ t ∈ l,0≤t.w∧t.w≤B)→0≤(l.map (·.w)).sum∧(l.map (·.w)).sum≤B*(l.length:Int)
 | [],B,_=>by simp
 | t :: l,B,h=>by
  have h1:=h t (by simp)
  have h2:=tot_bd (l:=l) (B:=B) fun x hx=>h x (by simp [hx])
  simp only [List.map_cons,List.sum_cons,List.length_cons,Int.natCast_add,Int.mul_add]
  omega
theorem yd (x:Stg) (h:TotOk x):Pure Try.prog 70 [.agg [.int .i64 x.kind,.int .i64 x.prize,.rsl (Qn x.turns) 0 x.turns.length]] (.int .i64 (totI x)):=Qs Try.func70 f70b fun E hE=>by
 have key:∀ (d i:Nat) (s:Int),i+d=x.turns.length→s=((x.turns.take i).map (·.w)).sum→f70G0 E x s i:=by
  intro d
  induction d with
  | zero =>
   intro i s hd hs
   refine f70W0 x s i (rv:=totI x) hE ⟨fun h=>by omega,fun _=>?_⟩
   rw [totI,hs,List.take_of_length_le (by omega)]
  | succ d ih =>
   intro i s hd hs
   have hi:x.turns[i]?=some x.turns[i]:=List.getElem?_eq_getElem (by omega)
   have b1:=h.2 _ (List.mem_of_getElem? hi)
   have b2:=tot_bd (l:=x.turns.take i) (B:=1000000) fun t ht=>h.2 t (List.mem_of_mem_take ht)
   have b3:((x.turns.take i).length:Int)≤1000:=by rw [List.length_take]; have:=h.1; omega
   have:=h.1
   refine f70W0 x s i (rv:=totI x) hE ⟨fun _=>⟨_,hi,by omega,by omega,ih (i+1) _ (by omega) ?_⟩,fun h=>by omega⟩
   rw [List.take_add_one,hi,List.map_append,List.sum_append,hs]; simp
 exact f70W x (rv:=totI x) hE (key x.turns.length 0 0 (by omega) (by simp))
theorem bad_ok (n:Int):Pure Try.prog 133 [.int .i64 n] (.bool (!Qd n 0 10000)):=Qs Try.func133 f133b fun E hE=>f133W n hE rfl
/-- Whether a turn of the stage 'i' is right; 'n' is how many stages there are. -/
def Xi (lo hi i:Int) (n:Nat) (t:Trn):Bool:=Qd t.w lo hi && Qd t.to (i+1) ((n:Int) - 1)
theorem qK (t:Trn) (lo hi i:Int) (s:Stl) (h:(0≤i∧i≤1000000)∧s.stages.length≤1000000):Pure Try.prog 196 [.agg [.int .i64 t.w,.int .i64 t.to],.rptr [.int .i64 lo] 0,.rptr [.int .i64 hi] 0,.rptr [.int .i64 i] 0,.rptr [.rsl (Qe s.stages) 0 s.stages.length,.rsl (rowI s.worth) 0 s.worth.length,.int .i64 s.price] 0] (.bool (!Xi lo hi i s.stages.length t)):=Qs Try.func196 f196b fun E hE =>
 f196W t lo hi i s (rv:=!Xi lo hi i s.stages.length t) hE ⟨fun h1=>by simp [Xi,h1],fun h1=>⟨by omega,by omega,by simp [Xi,h1]⟩⟩
def yg (s:Stl) (i:Nat) (x:Stg):Bool :=
 if x.kind=4 then decide (x.turns.length=0) && Qd x.prize (-1) ((s.worth.length:Int) - 1)
 else Qd x.kind 1 3 && (decide (x.prize=0) && (Qd x.turns.length 1 8 && x.turns.all (Xi (if x.kind=1 then 1 else 0) (if x.kind=1 then 100 else 0) i s.stages.length)))
def Xu (s:Stl) (i:Nat):Bool:=match s.stages[i]? with
 | some x=>yg s i x
 | none=>false
end Go.Proofs.Ytemklbioijmjiaa
namespace Go.Proofs.Ytemklbioijmjiaa
open Go Ax
open Go.Proofs
theorem f243b:Try.f243.body=some (Qb Try.prog 243):=by kernel_rfl
theorem u243 {a c k:List AV} {r:AV} (h:Pure Try.prog 243 (a++c++k) r):Qi Try.prog (.clos 243 a k) c r:=Qk Try.func243 (by kernel_rfl) f243b h
def qS (P:Program):List Item:=kAt 400 [.code (Qb P 243)] [.stop]
def f243S0 (l:(List Trn)) (lo hi p:Int) (s:Stl) (i:Nat):St:=⟨([.rsl (Qn l) 0 l.length,.clos 196 [] [.rptr [.int .i64 lo] 0,.rptr [.int .i64 hi] 0,.rptr [.int .i64 p] 0,.rptr [.rsl (Qe s.stages) 0 s.stages.length,.rsl (rowI s.worth) 0 s.worth.length,.int .i64 s.price] 0]]++jj 5 ([.int .i64 (l.length:Int),.int .i64 (i:Int)]++Js 10)),[]⟩
def f243G0 (E:Env) (l:(List Trn)) (lo hi p:Int) (s:Stl) (i:Nat):Prop:=G Try.prog E (qS Try.prog) (f243S0 l lo hi p s i )
theorem p243_start_0 (l:(List Trn)) (lo hi p:Int) (s:Stl) {E:Env} {rv:AV} (hE:Qg Try.prog 243 rv E) (ho:AllP [])
 (hg:G Try.prog E (qS Try.prog) ⟨([.rsl (Qn l) 0 l.length,.clos 196 [] [.rptr [.int .i64 lo] 0,.rptr [.int .i64 hi] 0,.rptr [.int .i64 p] 0,.rptr [.rsl (Qe s.stages) 0 s.stages.length,.rsl (rowI s.worth) 0 s.worth.length,.int .i64 s.price] 0]]++jj 5 ([.int .i64 (l.length:Int),.int .i64 0]++Js 10)),[]⟩):G Try.prog E [.code (Qb Try.prog 243)] ⟨[.rsl (Qn l) 0 l.length,.clos 196 [] [.rptr [.int .i64 lo] 0,.rptr [.int .i64 hi] 0,.rptr [.int .i64 p] 0,.rptr [.rsl (Qe s.stages) 0 s.stages.length,.rsl (rowI s.worth) 0 s.worth.length,.int .i64 s.price] 0]]++unds (Try.f243.ntmps - 2),[]⟩ :=
 Qh (n:=400) (ds:=[]) (cs:=[]) (live:=[0,1,7,8]) (m:=0) (evs:=[.stop]) (obs:=_) hE.2.1 (hE.nogh _) Qo (by kernel_rfl) ho hg
theorem f243W (l:(List Trn)) (lo hi p:Int) (s:Stl) {E:Env} {rv:Int} (hE:Qg Try.prog 243 (.int .i64 rv) E)
 (h:f243G0 E l lo hi p s 0):G Try.prog E [.code (Qb Try.prog 243)] ⟨[.rsl (Qn l) 0 l.length,.clos 196 [] [.rptr [.int .i64 lo] 0,.rptr [.int .i64 hi] 0,.rptr [.int .i64 p] 0,.rptr [.rsl (Qe s.stages) 0 s.stages.length,.rsl (rowI s.worth) 0 s.worth.length,.int .i64 s.price] 0]]++unds (Try.f243.ntmps - 2),[]⟩:=by
 exact p243_start_0 l lo hi p s hE trivial h
theorem p243_0_0 (l:(List Trn)) (lo hi p:Int) (s:Stl) (i:Nat) (te:Trn) {E:Env} {res:AV} (hE:Qg Try.prog 243 res E) (ho:AllP [(decide ((i:Int)<(l.length:Int)))=true,0≤(i:Int)∧(i:Int)<(l.length:Int),((Qn l).drop (0+(Int.toNat (i:Int))*2)).take 2=[.int .i64 te.w,.int .i64 te.to],Qi Try.prog (.clos 196 [] [.rptr [.int .i64 lo] 0,.rptr [.int .i64 hi] 0,.rptr [.int .i64 p] 0,.rptr [.rsl (Qe s.stages) 0 s.stages.length,.rsl (rowI s.worth) 0 s.worth.length,.int .i64 s.price] 0]) [.agg [.int .i64 te.w,.int .i64 te.to]] (.bool (!Xi lo hi p s.stages.length te)),(!Xi lo hi p s.stages.length te)=true])
 (hr:AvLe (.int .i64 (i:Int)) res):G Try.prog E (qS Try.prog) (f243S0 l lo hi p s i ) :=
 Qa (n:=400) (evs:=[.b true,.ld (.agg [.int .i64 te.w,.int .i64 te.to]),.v (.bool (!Xi lo hi p s.stages.length te)),.b true]) (obs:=_) hE Try.func243 Qo (by kernel_rfl) ho hr
theorem p243_0_1 (l:(List Trn)) (lo hi p:Int) (s:Stl) (i:Nat) (te:Trn) {E:Env} {rv:AV} (hE:Qg Try.prog 243 rv E) (ho:AllP [(decide ((i:Int)<(l.length:Int)))=true,0≤(i:Int)∧(i:Int)<(l.length:Int),((Qn l).drop (0+(Int.toNat (i:Int))*2)).take 2=[.int .i64 te.w,.int .i64 te.to],Qi Try.prog (.clos 196 [] [.rptr [.int .i64 lo] 0,.rptr [.int .i64 hi] 0,.rptr [.int .i64 p] 0,.rptr [.rsl (Qe s.stages) 0 s.stages.length,.rsl (rowI s.worth) 0 s.worth.length,.int .i64 s.price] 0]) [.agg [.int .i64 te.w,.int .i64 te.to]] (.bool (!Xi lo hi p s.stages.length te)),(!Xi lo hi p s.stages.length te)=false,InR .i64 ((i:Int)+1)])
 (hg:G Try.prog E (qS Try.prog) ⟨([.rsl (Qn l) 0 l.length,.clos 196 [] [.rptr [.int .i64 lo] 0,.rptr [.int .i64 hi] 0,.rptr [.int .i64 p] 0,.rptr [.rsl (Qe s.stages) 0 s.stages.length,.rsl (rowI s.worth) 0 s.worth.length,.int .i64 s.price] 0]]++jj 5 ([.int .i64 (l.length:Int),.int .i64 ((i:Int)+1)]++Js 10)),[]⟩):G Try.prog E (qS Try.prog) (f243S0 l lo hi p s i ) :=
 Qh (n:=400) (ds:=[]) (cs:=[]) (live:=[0,1,7,8]) (m:=0) (evs:=[.b true,.ld (.agg [.int .i64 te.w,.int .i64 te.to]),.v (.bool (!Xi lo hi p s.stages.length te)),.b false,.stop]) (obs:=_) hE.2.1 (hE.nogh _) Qo (by kernel_rfl) ho hg
theorem p243_0_2 (l:(List Trn)) (lo hi p:Int) (s:Stl) (i:Nat) {E:Env} {res:AV} (hE:Qg Try.prog 243 res E) (ho:AllP [(decide ((i:Int)<(l.length:Int)))=false])
 (hr:AvLe (.int .i64 (-1)) res):G Try.prog E (qS Try.prog) (f243S0 l lo hi p s i ) :=
 Qa (n:=400) (evs:=[.b false]) (obs:=_) hE Try.func243 Qo (by kernel_rfl) ho hr
theorem f243W0 (l:(List Trn)) (lo hi p:Int) (s:Stl) (i:Nat) {E:Env} {rv:Int} (hE:Qg Try.prog 243 (.int .i64 rv) E)
 (h:(((i:Int)<(l.length:Int)→(∃ te:Trn,l[i]?=some te∧(((0≤p∧p≤1000000)∧s.stages.length≤1000000)∧(((!Xi lo hi p s.stages.length te)=true→rv=(i:Int))∧((!Xi lo hi p s.stages.length te)=false→((I6 ((i:Int)+1))∧f243G0 E l lo hi p s (i+1)))))))∧(¬ ((i:Int)<(l.length:Int))→rv=(-1)))):f243G0 E l lo hi p s i:=by
 rcases bft (decide ((i:Int)<(l.length:Int))) with hc0 | hc0
 · have h:=h.1 (odt hc0)
   obtain ⟨te,h1,h⟩:=h
   obtain ⟨h2,h⟩:=h
   rcases bft (!Xi lo hi p s.stages.length te) with hc1 | hc1
   · have h:=h.1 hc1
     exact p243_0_0 l lo hi p s i te hE ⟨hc0,(Qq h1),(rp cTrn 2 0 2 h1),(u196 (qK te lo hi p s h2)),hc1,trivial⟩ (AvLe.of_eq (by rw [h]; try rfl))
   · have h:=h.2 hc1
     obtain ⟨q6_2,h⟩:=h
     exact p243_0_1 l lo hi p s i te hE ⟨hc0,(Qq h1),(rp cTrn 2 0 2 h1),(u196 (qK te lo hi p s h2)),hc1,q6_2,trivial⟩ h
 · have h:=h.2 (odf hc0)
   exact p243_0_2 l lo hi p s i hE ⟨hc0,trivial⟩ (AvLe.of_eq (by rw [h]; try rfl))
def XU {α:Type} (p:α→Bool) (l:List α):Int:=match l.findIdx? p with
 | some i=>(i:Int)
 | none=>-1
theorem VN {α:Type} (p:α→Bool) (l:List α):∀ (d i:Nat),i+d=l.length→(∀ j x,j<i→l[j]?=some x→p x=false)→∀ (Q:Nat→Prop),(∀ i,i<l.length→(∀ x,l[i]?=some x→(p x=true→XU p l=i))→(∀ x,l[i]?=some x→p x=false→Q (i+1))→Q i) →
 ((∀ x ∈ l,p x=false)→XU p l=-1→Q l.length)→Q i:=by
 intro d
 induction d with
 | zero =>
  intro i hi hp Q h1 h2
  have:i=l.length:=by omega
  subst this
  have hall:∀ x ∈ l,p x=false:=fun x hx=>by
   obtain ⟨j,hj⟩:=List.getElem?_of_mem hx
   exact hp j x (List.getElem?_eq_some_iff.1 hj).1 hj
  exact h2 hall (by simp only [XU]; rw [List.findIdx?_eq_none_iff.2 hall])
 | succ d ih =>
  intro i hi hp Q h1 h2
  refine h1 i (by omega) (fun x hx hpx=>?_) (fun x hx hpx=>ih (i+1) (by omega) (fun j y hj hy=>?_) Q h1 h2)
  · have:l.findIdx? p=some i:=by
     rw [List.findIdx?_eq_some_iff_getElem]
     have hlt:=(List.getElem?_eq_some_iff.1 hx).1
     have he:=(List.getElem?_eq_some_iff.1 hx).2
     refine ⟨hlt,by rw [he]; exact hpx,fun j hj=>?_⟩
     have:=hp j _ hj (List.getElem?_eq_getElem (by omega))
     simp [this]
    simp only [XU,this]
  · rcases Nat.lt_or_ge j i with h | h
    · exact hp j y h hy
    · have:j=i:=by omega
      subst this
      rw [hx] at hy; cases hy; exact hpx
theorem WR {α:Type} (p:α→Bool) (l:List α):decide (XU p l≥0)=l.any p:=by
 cases h:l.findIdx? p with
 | none =>
  have e:XU p l=-1:=by simp only [XU,h]
  rw [e]
  rw [List.findIdx?_eq_none_iff] at h
  rw [show l.any p=false from by simpa using fun x hx=>by simpa using h x hx]; rfl
 | some i =>
  have e:XU p l=(i:Int):=by simp only [XU,h]
  rw [e]
  have:=List.findIdx?_eq_some_iff_getElem.1 h
  obtain ⟨h1,h2,-⟩:=this
  have:l.any p=true:=by rw [List.any_eq_true]; exact ⟨l[i],List.getElem_mem _,h2⟩
  rw [this]; simp
theorem idxT_ok (l:List Trn) (lo hi p:Int) (s:Stl) (h:((0≤p∧p≤1000000)∧s.stages.length≤1000000)∧l.length≤9223372036854775807) :
 Pure Try.prog 243 [.rsl (Qn l) 0 l.length,.clos 196 [] [.rptr [.int .i64 lo] 0,.rptr [.int .i64 hi] 0,.rptr [.int .i64 p] 0,.rptr [.rsl (Qe s.stages) 0 s.stages.length,.rsl (rowI s.worth) 0 s.worth.length,.int .i64 s.price] 0]] (.int .i64 (XU (fun t=>!Xi lo hi p s.stages.length t) l)):=Qs Try.func243 f243b fun E hE=>by
 refine f243W l lo hi p s hE (VN (fun t=>!Xi lo hi p s.stages.length t) l l.length 0 (by omega) (fun j x hj=>by omega) (fun i=>f243G0 E l lo hi p s i) (fun i hi' h1 h2=>?_) (fun _ h2=>?_))
 · have hx:l[i]?=some l[i]:=List.getElem?_eq_getElem hi'
   exact f243W0 l lo hi p s i hE ⟨fun _=>⟨_,hx,h.1,fun hp=>h1 _ hx hp,fun hp=>⟨by omega,h2 _ hx hp⟩⟩,fun h=>by omega⟩
 · exact f243W0 l lo hi p s _ hE ⟨fun h=>by omega,fun _=>h2⟩
theorem f195b:Try.f195.body=some (Qb Try.prog 195):=by kernel_rfl
theorem u195 {a c k:List AV} {r:AV} (h:Pure Try.prog 195 (a++c++k) r):Qi Try.prog (.clos 195 a k) c r:=Qk Try.func195 (by kernel_rfl) f195b h
theorem p195_start_0 (l:(List Trn)) (lo hi p:Int) (s:Stl) {E:Env} {res:AV} (hE:Qg Try.prog 195 res E) (ho:AllP [Qi Try.prog (.clos 243 [] []) [.rsl (Qn l) 0 l.length,.clos 196 [] [.rptr [.int .i64 lo] 0,.rptr [.int .i64 hi] 0,.rptr [.int .i64 p] 0,.rptr [.rsl (Qe s.stages) 0 s.stages.length,.rsl (rowI s.worth) 0 s.worth.length,.int .i64 s.price] 0]] (.int .i64 (XU (fun t=>!Xi lo hi p s.stages.length t) l))])
 (hr:AvLe (.bool (decide ((XU (fun t=>!Xi lo hi p s.stages.length t) l)≥0))) res):G Try.prog E [.code (Qb Try.prog 195)] ⟨[.rsl (Qn l) 0 l.length,.clos 196 [] [.rptr [.int .i64 lo] 0,.rptr [.int .i64 hi] 0,.rptr [.int .i64 p] 0,.rptr [.rsl (Qe s.stages) 0 s.stages.length,.rsl (rowI s.worth) 0 s.worth.length,.int .i64 s.price] 0]]++unds (Try.f195.ntmps - 2),[]⟩ :=
 Qa (n:=400) (evs:=[.v (.int .i64 (XU (fun t=>!Xi lo hi p s.stages.length t) l))]) (obs:=_) hE Try.func195 Qo (by kernel_rfl) ho hr
theorem f195W (l:(List Trn)) (lo hi p:Int) (s:Stl) {E:Env} {rv:Bool} (hE:Qg Try.prog 195 (.bool rv) E)
 (h:((((0≤p∧p≤1000000)∧s.stages.length≤1000000)∧l.length≤9223372036854775807)∧rv=(decide ((XU (fun t=>!Xi lo hi p s.stages.length t) l)≥0)))):G Try.prog E [.code (Qb Try.prog 195)] ⟨[.rsl (Qn l) 0 l.length,.clos 196 [] [.rptr [.int .i64 lo] 0,.rptr [.int .i64 hi] 0,.rptr [.int .i64 p] 0,.rptr [.rsl (Qe s.stages) 0 s.stages.length,.rsl (rowI s.worth) 0 s.worth.length,.int .i64 s.price] 0]]++unds (Try.f195.ntmps - 2),[]⟩:=by
 obtain ⟨h1,h⟩:=h
 exact p195_start_0 l lo hi p s hE ⟨(u243 (idxT_ok l lo hi p s h1)),trivial⟩ (AvLe.of_eq (by rw [h]; try rfl))
theorem anyT_ok (l:List Trn) (lo hi p:Int) (s:Stl) (h:((0≤p∧p≤1000000)∧s.stages.length≤1000000)∧l.length≤9223372036854775807) :
 Pure Try.prog 195 [.rsl (Qn l) 0 l.length,.clos 196 [] [.rptr [.int .i64 lo] 0,.rptr [.int .i64 hi] 0,.rptr [.int .i64 p] 0,.rptr [.rsl (Qe s.stages) 0 s.stages.length,.rsl (rowI s.worth) 0 s.worth.length,.int .i64 s.price] 0]] (.bool (l.any fun t=>!Xi lo hi p s.stages.length t)):=Qs Try.func195 f195b fun E hE =>
 f195W l lo hi p s hE ⟨h,(WR _ _).symm⟩
theorem f134b:Try.f134.body=some (Qb Try.prog 134):=by kernel_rfl
theorem u134 {a c k:List AV} {r:AV} (h:Pure Try.prog 134 (a++c++k) r):Qi Try.prog (.clos 134 a k) c r:=Qk Try.func134 (by kernel_rfl) f134b h
theorem p134_start_0 (s:Stl) (i:Int) (se:Stg) {E:Env} {res:AV} (hE:Qg Try.prog 134 res E) (ho:AllP [0≤i∧i<(s.stages.length:Int),((Qe s.stages).drop (0+(Int.toNat i)*3)).take 3=[.int .i64 se.kind,.int .i64 se.prize,.rsl (Qn se.turns) 0 se.turns.length],3≤3,1≤1,1≤1,(se.kind == 4)=true,((se.turns.length:Int) == 0)=true,InR .i64 ((s.worth.length:Int) - 1),Qi Try.prog (.clos 69 [] []) [.int .i64 se.prize,.int .i64 (-1),.int .i64 ((s.worth.length:Int) - 1)] (.bool (Qd se.prize (-1) ((s.worth.length:Int) - 1)))])
 (hr:AvLe (.bool (Qd se.prize (-1) ((s.worth.length:Int) - 1))) res):G Try.prog E [.code (Qb Try.prog 134)] ⟨[.agg [.rsl (Qe s.stages) 0 s.stages.length,.rsl (rowI s.worth) 0 s.worth.length,.int .i64 s.price],.int .i64 i]++unds (Try.f134.ntmps - 2),[]⟩ :=
 Qa (n:=400) (evs:=[.auto,.auto,.ld (.agg [.int .i64 se.kind,.int .i64 se.prize,.rsl (Qn se.turns) 0 se.turns.length]),.b true,.b true,.v (.bool (Qd se.prize (-1) ((s.worth.length:Int) - 1)))]) (obs:=_) hE Try.func134 Qo (by kernel_rfl) ho hr
theorem p134_start_1 (s:Stl) (i:Int) (se:Stg) {E:Env} {res:AV} (hE:Qg Try.prog 134 res E) (ho:AllP [0≤i∧i<(s.stages.length:Int),((Qe s.stages).drop (0+(Int.toNat i)*3)).take 3=[.int .i64 se.kind,.int .i64 se.prize,.rsl (Qn se.turns) 0 se.turns.length],3≤3,1≤1,1≤1,(se.kind == 4)=true,((se.turns.length:Int) == 0)=false])
 (hr:AvLe (.bool false) res):G Try.prog E [.code (Qb Try.prog 134)] ⟨[.agg [.rsl (Qe s.stages) 0 s.stages.length,.rsl (rowI s.worth) 0 s.worth.length,.int .i64 s.price],.int .i64 i]++unds (Try.f134.ntmps - 2),[]⟩ :=
 Qa (n:=400) (evs:=[.auto,.auto,.ld (.agg [.int .i64 se.kind,.int .i64 se.prize,.rsl (Qn se.turns) 0 se.turns.length]),.b true,.b false]) (obs:=_) hE Try.func134 Qo (by kernel_rfl) ho hr
theorem p134_start_2 (s:Stl) (i:Int) (se:Stg) {E:Env} {res:AV} (hE:Qg Try.prog 134 res E) (ho:AllP [0≤i∧i<(s.stages.length:Int),((Qe s.stages).drop (0+(Int.toNat i)*3)).take 3=[.int .i64 se.kind,.int .i64 se.prize,.rsl (Qn se.turns) 0 se.turns.length],3≤3,1≤1,1≤1,(se.kind == 4)=false,(se.kind == 1)=true,1≤1,1≤1,(se.prize == 0)=true,Qi Try.prog (.clos 69 [] []) [.int .i64 (se.turns.length:Int),.int .i64 1,.int .i64 8] (.bool (Qd (se.turns.length:Int) 1 8)),(Qd (se.turns.length:Int) 1 8)=true,Qi Try.prog (.clos 195 [] []) [.rsl (Qn se.turns) 0 se.turns.length,.clos 196 [] [.rptr [.int .i64 1] 0,.rptr [.int .i64 100] 0,.rptr [.int .i64 i] 0,.rptr [.rsl (Qe s.stages) 0 s.stages.length,.rsl (rowI s.worth) 0 s.worth.length,.int .i64 s.price] 0]] (.bool (se.turns.any (fun t=>!Xi 1 100 i s.stages.length t)))])
 (hr:AvLe (.bool (!(se.turns.any (fun t=>!Xi 1 100 i s.stages.length t)))) res):G Try.prog E [.code (Qb Try.prog 134)] ⟨[.agg [.rsl (Qe s.stages) 0 s.stages.length,.rsl (rowI s.worth) 0 s.worth.length,.int .i64 s.price],.int .i64 i]++unds (Try.f134.ntmps - 2),[]⟩ :=
 Qa (n:=400) (evs:=[.auto,.auto,.ld (.agg [.int .i64 se.kind,.int .i64 se.prize,.rsl (Qn se.turns) 0 se.turns.length]),.b false,.b true,.b true,.v (.bool (Qd (se.turns.length:Int) 1 8)),.b true,.v (.bool (se.turns.any (fun t=>!Xi 1 100 i s.stages.length t)))]) (obs:=_) hE Try.func134 Qo (by kernel_rfl) ho hr
theorem p134_start_3 (s:Stl) (i:Int) (se:Stg) {E:Env} {res:AV} (hE:Qg Try.prog 134 res E) (ho:AllP [0≤i∧i<(s.stages.length:Int),((Qe s.stages).drop (0+(Int.toNat i)*3)).take 3=[.int .i64 se.kind,.int .i64 se.prize,.rsl (Qn se.turns) 0 se.turns.length],3≤3,1≤1,1≤1,(se.kind == 4)=false,(se.kind == 1)=true,1≤1,1≤1,(se.prize == 0)=true,Qi Try.prog (.clos 69 [] []) [.int .i64 (se.turns.length:Int),.int .i64 1,.int .i64 8] (.bool (Qd (se.turns.length:Int) 1 8)),(Qd (se.turns.length:Int) 1 8)=false])
 (hr:AvLe (.bool false) res):G Try.prog E [.code (Qb Try.prog 134)] ⟨[.agg [.rsl (Qe s.stages) 0 s.stages.length,.rsl (rowI s.worth) 0 s.worth.length,.int .i64 s.price],.int .i64 i]++unds (Try.f134.ntmps - 2),[]⟩ :=
 Qa (n:=400) (evs:=[.auto,.auto,.ld (.agg [.int .i64 se.kind,.int .i64 se.prize,.rsl (Qn se.turns) 0 se.turns.length]),.b false,.b true,.b true,.v (.bool (Qd (se.turns.length:Int) 1 8)),.b false]) (obs:=_) hE Try.func134 Qo (by kernel_rfl) ho hr
theorem p134_start_4 (s:Stl) (i:Int) (se:Stg) {E:Env} {res:AV} (hE:Qg Try.prog 134 res E) (ho:AllP [0≤i∧i<(s.stages.length:Int),((Qe s.stages).drop (0+(Int.toNat i)*3)).take 3=[.int .i64 se.kind,.int .i64 se.prize,.rsl (Qn se.turns) 0 se.turns.length],3≤3,1≤1,1≤1,(se.kind == 4)=false,(se.kind == 1)=true,1≤1,1≤1,(se.prize == 0)=false,false=false])
 (hr:AvLe (.bool false) res):G Try.prog E [.code (Qb Try.prog 134)] ⟨[.agg [.rsl (Qe s.stages) 0 s.stages.length,.rsl (rowI s.worth) 0 s.worth.length,.int .i64 s.price],.int .i64 i]++unds (Try.f134.ntmps - 2),[]⟩ :=
 Qa (n:=400) (evs:=[.auto,.auto,.ld (.agg [.int .i64 se.kind,.int .i64 se.prize,.rsl (Qn se.turns) 0 se.turns.length]),.b false,.b true,.b false,.b false]) (obs:=_) hE Try.func134 Qo (by kernel_rfl) ho hr
theorem p134_start_5 (s:Stl) (i:Int) (se:Stg) {E:Env} {res:AV} (hE:Qg Try.prog 134 res E) (ho:AllP [0≤i∧i<(s.stages.length:Int),((Qe s.stages).drop (0+(Int.toNat i)*3)).take 3=[.int .i64 se.kind,.int .i64 se.prize,.rsl (Qn se.turns) 0 se.turns.length],3≤3,1≤1,1≤1,(se.kind == 4)=false,(se.kind == 1)=false,(se.kind == 2)=true,(se.kind == 2)=true,(se.prize == 0)=true,Qi Try.prog (.clos 69 [] []) [.int .i64 (se.turns.length:Int),.int .i64 1,.int .i64 8] (.bool (Qd (se.turns.length:Int) 1 8)),(Qd (se.turns.length:Int) 1 8)=true,Qi Try.prog (.clos 195 [] []) [.rsl (Qn se.turns) 0 se.turns.length,.clos 196 [] [.rptr [.int .i64 0] 0,.rptr [.int .i64 0] 0,.rptr [.int .i64 i] 0,.rptr [.rsl (Qe s.stages) 0 s.stages.length,.rsl (rowI s.worth) 0 s.worth.length,.int .i64 s.price] 0]] (.bool (se.turns.any (fun t=>!Xi 0 0 i s.stages.length t)))])
 (hr:AvLe (.bool (!(se.turns.any (fun t=>!Xi 0 0 i s.stages.length t)))) res):G Try.prog E [.code (Qb Try.prog 134)] ⟨[.agg [.rsl (Qe s.stages) 0 s.stages.length,.rsl (rowI s.worth) 0 s.worth.length,.int .i64 s.price],.int .i64 i]++unds (Try.f134.ntmps - 2),[]⟩ :=
 Qa (n:=400) (evs:=[.auto,.auto,.ld (.agg [.int .i64 se.kind,.int .i64 se.prize,.rsl (Qn se.turns) 0 se.turns.length]),.b false,.b false,.b true,.b true,.b true,.v (.bool (Qd (se.turns.length:Int) 1 8)),.b true,.v (.bool (se.turns.any (fun t=>!Xi 0 0 i s.stages.length t)))]) (obs:=_) hE Try.func134 Qo (by kernel_rfl) ho hr
theorem p134_start_6 (s:Stl) (i:Int) (se:Stg) {E:Env} {res:AV} (hE:Qg Try.prog 134 res E) (ho:AllP [0≤i∧i<(s.stages.length:Int),((Qe s.stages).drop (0+(Int.toNat i)*3)).take 3=[.int .i64 se.kind,.int .i64 se.prize,.rsl (Qn se.turns) 0 se.turns.length],3≤3,1≤1,1≤1,(se.kind == 4)=false,(se.kind == 1)=false,(se.kind == 2)=true,(se.kind == 2)=true,(se.prize == 0)=true,Qi Try.prog (.clos 69 [] []) [.int .i64 (se.turns.length:Int),.int .i64 1,.int .i64 8] (.bool (Qd (se.turns.length:Int) 1 8)),(Qd (se.turns.length:Int) 1 8)=false])
 (hr:AvLe (.bool false) res):G Try.prog E [.code (Qb Try.prog 134)] ⟨[.agg [.rsl (Qe s.stages) 0 s.stages.length,.rsl (rowI s.worth) 0 s.worth.length,.int .i64 s.price],.int .i64 i]++unds (Try.f134.ntmps - 2),[]⟩ :=
 Qa (n:=400) (evs:=[.auto,.auto,.ld (.agg [.int .i64 se.kind,.int .i64 se.prize,.rsl (Qn se.turns) 0 se.turns.length]),.b false,.b false,.b true,.b true,.b true,.v (.bool (Qd (se.turns.length:Int) 1 8)),.b false]) (obs:=_) hE Try.func134 Qo (by kernel_rfl) ho hr
theorem p134_start_7 (s:Stl) (i:Int) (se:Stg) {E:Env} {res:AV} (hE:Qg Try.prog 134 res E) (ho:AllP [0≤i∧i<(s.stages.length:Int),((Qe s.stages).drop (0+(Int.toNat i)*3)).take 3=[.int .i64 se.kind,.int .i64 se.prize,.rsl (Qn se.turns) 0 se.turns.length],3≤3,1≤1,1≤1,(se.kind == 4)=false,(se.kind == 1)=false,(se.kind == 2)=true,(se.kind == 2)=true,(se.prize == 0)=false,false=false])
 (hr:AvLe (.bool false) res):G Try.prog E [.code (Qb Try.prog 134)] ⟨[.agg [.rsl (Qe s.stages) 0 s.stages.length,.rsl (rowI s.worth) 0 s.worth.length,.int .i64 s.price],.int .i64 i]++unds (Try.f134.ntmps - 2),[]⟩ :=
 Qa (n:=400) (evs:=[.auto,.auto,.ld (.agg [.int .i64 se.kind,.int .i64 se.prize,.rsl (Qn se.turns) 0 se.turns.length]),.b false,.b false,.b true,.b true,.b false,.b false]) (obs:=_) hE Try.func134 Qo (by kernel_rfl) ho hr
theorem p134_start_8 (s:Stl) (i:Int) (se:Stg) {E:Env} {res:AV} (hE:Qg Try.prog 134 res E) (ho:AllP [0≤i∧i<(s.stages.length:Int),((Qe s.stages).drop (0+(Int.toNat i)*3)).take 3=[.int .i64 se.kind,.int .i64 se.prize,.rsl (Qn se.turns) 0 se.turns.length],3≤3,1≤1,1≤1,(se.kind == 4)=false,(se.kind == 1)=false,(se.kind == 2)=true,(se.kind == 2)=false])
 (hr:AvLe (.bool false) res):G Try.prog E [.code (Qb Try.prog 134)] ⟨[.agg [.rsl (Qe s.stages) 0 s.stages.length,.rsl (rowI s.worth) 0 s.worth.length,.int .i64 s.price],.int .i64 i]++unds (Try.f134.ntmps - 2),[]⟩ :=
 Qa (n:=400) (evs:=[.auto,.auto,.ld (.agg [.int .i64 se.kind,.int .i64 se.prize,.rsl (Qn se.turns) 0 se.turns.length]),.b false,.b false,.b true,.b false]) (obs:=_) hE Try.func134 Qo (by kernel_rfl) ho hr
theorem p134_start_9 (s:Stl) (i:Int) (se:Stg) {E:Env} {res:AV} (hE:Qg Try.prog 134 res E) (ho:AllP [0≤i∧i<(s.stages.length:Int),((Qe s.stages).drop (0+(Int.toNat i)*3)).take 3=[.int .i64 se.kind,.int .i64 se.prize,.rsl (Qn se.turns) 0 se.turns.length],3≤3,1≤1,1≤1,(se.kind == 4)=false,(se.kind == 1)=false,(se.kind == 2)=false,(se.kind == 3)=true,(se.prize == 0)=true,Qi Try.prog (.clos 69 [] []) [.int .i64 (se.turns.length:Int),.int .i64 1,.int .i64 8] (.bool (Qd (se.turns.length:Int) 1 8)),(Qd (se.turns.length:Int) 1 8)=true,Qi Try.prog (.clos 195 [] []) [.rsl (Qn se.turns) 0 se.turns.length,.clos 196 [] [.rptr [.int .i64 0] 0,.rptr [.int .i64 0] 0,.rptr [.int .i64 i] 0,.rptr [.rsl (Qe s.stages) 0 s.stages.length,.rsl (rowI s.worth) 0 s.worth.length,.int .i64 s.price] 0]] (.bool (se.turns.any (fun t=>!Xi 0 0 i s.stages.length t)))])
 (hr:AvLe (.bool (!(se.turns.any (fun t=>!Xi 0 0 i s.stages.length t)))) res):G Try.prog E [.code (Qb Try.prog 134)] ⟨[.agg [.rsl (Qe s.stages) 0 s.stages.length,.rsl (rowI s.worth) 0 s.worth.length,.int .i64 s.price],.int .i64 i]++unds (Try.f134.ntmps - 2),[]⟩ :=
 Qa (n:=400) (evs:=[.auto,.auto,.ld (.agg [.int .i64 se.kind,.int .i64 se.prize,.rsl (Qn se.turns) 0 se.turns.length]),.b false,.b false,.b false,.b true,.b true,.v (.bool (Qd (se.turns.length:Int) 1 8)),.b true,.v (.bool (se.turns.any (fun t=>!Xi 0 0 i s.stages.length t)))]) (obs:=_) hE Try.func134 Qo (by kernel_rfl) ho hr
theorem yx (s:Stl) (i:Int) (se:Stg) {E:Env} {res:AV} (hE:Qg Try.prog 134 res E) (ho:AllP [0≤i∧i<(s.stages.length:Int),((Qe s.stages).drop (0+(Int.toNat i)*3)).take 3=[.int .i64 se.kind,.int .i64 se.prize,.rsl (Qn se.turns) 0 se.turns.length],3≤3,1≤1,1≤1,(se.kind == 4)=false,(se.kind == 1)=false,(se.kind == 2)=false,(se.kind == 3)=true,(se.prize == 0)=true,Qi Try.prog (.clos 69 [] []) [.int .i64 (se.turns.length:Int),.int .i64 1,.int .i64 8] (.bool (Qd (se.turns.length:Int) 1 8)),(Qd (se.turns.length:Int) 1 8)=false])
 (hr:AvLe (.bool false) res):G Try.prog E [.code (Qb Try.prog 134)] ⟨[.agg [.rsl (Qe s.stages) 0 s.stages.length,.rsl (rowI s.worth) 0 s.worth.length,.int .i64 s.price],.int .i64 i]++unds (Try.f134.ntmps - 2),[]⟩ :=
 Qa (n:=400) (evs:=[.auto,.auto,.ld (.agg [.int .i64 se.kind,.int .i64 se.prize,.rsl (Qn se.turns) 0 se.turns.length]),.b false,.b false,.b false,.b true,.b true,.v (.bool (Qd (se.turns.length:Int) 1 8)),.b false]) (obs:=_) hE Try.func134 Qo (by kernel_rfl) ho hr
theorem yw (s:Stl) (i:Int) (se:Stg) {E:Env} {res:AV} (hE:Qg Try.prog 134 res E) (ho:AllP [0≤i∧i<(s.stages.length:Int),((Qe s.stages).drop (0+(Int.toNat i)*3)).take 3=[.int .i64 se.kind,.int .i64 se.prize,.rsl (Qn se.turns) 0 se.turns.length],3≤3,1≤1,1≤1,(se.kind == 4)=false,(se.kind == 1)=false,(se.kind == 2)=false,(se.kind == 3)=true,(se.prize == 0)=false,false=false])
 (hr:AvLe (.bool false) res):G Try.prog E [.code (Qb Try.prog 134)] ⟨[.agg [.rsl (Qe s.stages) 0 s.stages.length,.rsl (rowI s.worth) 0 s.worth.length,.int .i64 s.price],.int .i64 i]++unds (Try.f134.ntmps - 2),[]⟩ :=
 Qa (n:=400) (evs:=[.auto,.auto,.ld (.agg [.int .i64 se.kind,.int .i64 se.prize,.rsl (Qn se.turns) 0 se.turns.length]),.b false,.b false,.b false,.b true,.b false,.b false]) (obs:=_) hE Try.func134 Qo (by kernel_rfl) ho hr
theorem yu (s:Stl) (i:Int) (se:Stg) {E:Env} {res:AV} (hE:Qg Try.prog 134 res E) (ho:AllP [0≤i∧i<(s.stages.length:Int),((Qe s.stages).drop (0+(Int.toNat i)*3)).take 3=[.int .i64 se.kind,.int .i64 se.prize,.rsl (Qn se.turns) 0 se.turns.length],3≤3,1≤1,1≤1,(se.kind == 4)=false,(se.kind == 1)=false,(se.kind == 2)=false,(se.kind == 3)=false])
 (hr:AvLe (.bool false) res):G Try.prog E [.code (Qb Try.prog 134)] ⟨[.agg [.rsl (Qe s.stages) 0 s.stages.length,.rsl (rowI s.worth) 0 s.worth.length,.int .i64 s.price],.int .i64 i]++unds (Try.f134.ntmps - 2),[]⟩ :=
 Qa (n:=400) (evs:=[.auto,.auto,.ld (.agg [.int .i64 se.kind,.int .i64 se.prize,.rsl (Qn se.turns) 0 se.turns.length]),.b false,.b false,.b false,.b false]) (obs:=_) hE Try.func134 Qo (by kernel_rfl) ho hr
theorem f134W (s:Stl) (i:Int) {E:Env} {rv:Bool} (hE:Qg Try.prog 134 (.bool rv) E)
 (h:(0≤i∧(∃ se:Stg,s.stages[Int.toNat i]?=some se∧((se.kind=4→(((se.turns.length:Int)=0→((I6 ((s.worth.length:Int) - 1))∧rv=(Qd se.prize (-1) ((s.worth.length:Int) - 1))))∧(¬ ((se.turns.length:Int)=0)→rv=false)))∧(¬ (se.kind=4)→((se.kind=1→((se.prize=0→(((Qd (se.turns.length:Int) 1 8)=true→((((0≤i∧i≤1000000)∧s.stages.length≤1000000)∧se.turns.length≤9223372036854775807)∧rv=(!(se.turns.any (fun t=>!Xi 1 100 i s.stages.length t)))))∧((Qd (se.turns.length:Int) 1 8)=false→rv=false)))∧(¬ (se.prize=0)→rv=false)))∧(¬ (se.kind=1)→((se.kind=2→((se.kind=2→((se.prize=0→(((Qd (se.turns.length:Int) 1 8)=true→((((0≤i∧i≤1000000)∧s.stages.length≤1000000)∧se.turns.length≤9223372036854775807)∧rv=(!(se.turns.any (fun t=>!Xi 0 0 i s.stages.length t)))))∧((Qd (se.turns.length:Int) 1 8)=false→rv=false)))∧(¬ (se.prize=0)→rv=false)))∧(¬ (se.kind=2)→rv=false)))∧(¬ (se.kind=2)→((se.kind=3→((se.prize=0→(((Qd (se.turns.length:Int) 1 8)=true→((((0≤i∧i≤1000000)∧s.stages.length≤1000000)∧se.turns.length≤9223372036854775807)∧rv=(!(se.turns.any (fun t=>!Xi 0 0 i s.stages.length t)))))∧((Qd (se.turns.length:Int) 1 8)=false→rv=false)))∧(¬ (se.prize=0)→rv=false)))∧(¬ (se.kind=3)→rv=false))))))))))):G Try.prog E [.code (Qb Try.prog 134)] ⟨[.agg [.rsl (Qe s.stages) 0 s.stages.length,.rsl (rowI s.worth) 0 s.worth.length,.int .i64 s.price],.int .i64 i]++unds (Try.f134.ntmps - 2),[]⟩:=by
 obtain ⟨h2,h⟩:=h
 obtain ⟨se,h1,h⟩:=h
 rcases bft (se.kind == 4) with hc0 | hc0
 · have h:=h.1 (eq_of_beq hc0)
   rcases bft ((se.turns.length:Int) == 0) with hc1 | hc1
   · have h:=h.1 (eq_of_beq hc1)
     obtain ⟨q8_2,h⟩:=h
     exact p134_start_0 s i se hE ⟨(Qm h2 h1),(rp cStg 3 0 3 h1),(by decide),(by decide),(by decide),hc0,hc1,q8_2,(u69 (Qx se.prize (-1) ((s.worth.length:Int) - 1))),trivial⟩ (AvLe.of_eq (by rw [h]; try rfl))
   · have h:=h.2 (ne_of_beq_false hc1)
     exact p134_start_1 s i se hE ⟨(Qm h2 h1),(rp cStg 3 0 3 h1),(by decide),(by decide),(by decide),hc0,hc1,trivial⟩ (AvLe.of_eq (by rw [h]; try rfl))
 · have h:=h.2 (ne_of_beq_false hc0)
   rcases bft (se.kind == 1) with hc1 | hc1
   · have h:=h.1 (eq_of_beq hc1)
     rcases bft (se.prize == 0) with hc2 | hc2
     · have h:=h.1 (eq_of_beq hc2)
       rcases bft (Qd (se.turns.length:Int) 1 8) with hc3 | hc3
       · have h:=h.1 hc3
         obtain ⟨h3,h⟩:=h
         exact p134_start_2 s i se hE ⟨(Qm h2 h1),(rp cStg 3 0 3 h1),(by decide),(by decide),(by decide),hc0,hc1,(by decide),(by decide),hc2,(u69 (Qx (se.turns.length:Int) 1 8)),hc3,(u195 (anyT_ok se.turns 1 100 i s h3)),trivial⟩ (AvLe.of_eq (by rw [h]; try rfl))
       · have h:=h.2 hc3
         exact p134_start_3 s i se hE ⟨(Qm h2 h1),(rp cStg 3 0 3 h1),(by decide),(by decide),(by decide),hc0,hc1,(by decide),(by decide),hc2,(u69 (Qx (se.turns.length:Int) 1 8)),hc3,trivial⟩ (AvLe.of_eq (by rw [h]; try rfl))
     · have h:=h.2 (ne_of_beq_false hc2)
       exact p134_start_4 s i se hE ⟨(Qm h2 h1),(rp cStg 3 0 3 h1),(by decide),(by decide),(by decide),hc0,hc1,(by decide),(by decide),hc2,rfl,trivial⟩ (AvLe.of_eq (by rw [h]; try rfl))
   · have h:=h.2 (ne_of_beq_false hc1)
     rcases bft (se.kind == 2) with hc2 | hc2
     · have h:=h.1 (eq_of_beq hc2)
       rcases bft (se.kind == 2) with hc3 | hc3
       · have h:=h.1 (eq_of_beq hc3)
         rcases bft (se.prize == 0) with hc4 | hc4
         · have h:=h.1 (eq_of_beq hc4)
           rcases bft (Qd (se.turns.length:Int) 1 8) with hc5 | hc5
           · have h:=h.1 hc5
             obtain ⟨h3,h⟩:=h
             exact p134_start_5 s i se hE ⟨(Qm h2 h1),(rp cStg 3 0 3 h1),(by decide),(by decide),(by decide),hc0,hc1,hc2,hc3,hc4,(u69 (Qx (se.turns.length:Int) 1 8)),hc5,(u195 (anyT_ok se.turns 0 0 i s h3)),trivial⟩ (AvLe.of_eq (by rw [h]; try rfl))
           · have h:=h.2 hc5
             exact p134_start_6 s i se hE ⟨(Qm h2 h1),(rp cStg 3 0 3 h1),(by decide),(by decide),(by decide),hc0,hc1,hc2,hc3,hc4,(u69 (Qx (se.turns.length:Int) 1 8)),hc5,trivial⟩ (AvLe.of_eq (by rw [h]; try rfl))
         · have h:=h.2 (ne_of_beq_false hc4)
           exact p134_start_7 s i se hE ⟨(Qm h2 h1),(rp cStg 3 0 3 h1),(by decide),(by decide),(by decide),hc0,hc1,hc2,hc3,hc4,rfl,trivial⟩ (AvLe.of_eq (by rw [h]; try rfl))
       · have h:=h.2 (ne_of_beq_false hc3)
         exact p134_start_8 s i se hE ⟨(Qm h2 h1),(rp cStg 3 0 3 h1),(by decide),(by decide),(by decide),hc0,hc1,hc2,hc3,trivial⟩ (AvLe.of_eq (by rw [h]; try rfl))
     · have h:=h.2 (ne_of_beq_false hc2)
       rcases bft (se.kind == 3) with hc3 | hc3
       · have h:=h.1 (eq_of_beq hc3)
         rcases bft (se.prize == 0) with hc4 | hc4
         · have h:=h.1 (eq_of_beq hc4)
           rcases bft (Qd (se.turns.length:Int) 1 8) with hc5 | hc5
           · have h:=h.1 hc5
             obtain ⟨h3,h⟩:=h
             exact p134_start_9 s i se hE ⟨(Qm h2 h1),(rp cStg 3 0 3 h1),(by decide),(by decide),(by decide),hc0,hc1,hc2,hc3,hc4,(u69 (Qx (se.turns.length:Int) 1 8)),hc5,(u195 (anyT_ok se.turns 0 0 i s h3)),trivial⟩ (AvLe.of_eq (by rw [h]; try rfl))
           · have h:=h.2 hc5
             exact yx s i se hE ⟨(Qm h2 h1),(rp cStg 3 0 3 h1),(by decide),(by decide),(by decide),hc0,hc1,hc2,hc3,hc4,(u69 (Qx (se.turns.length:Int) 1 8)),hc5,trivial⟩ (AvLe.of_eq (by rw [h]; try rfl))
         · have h:=h.2 (ne_of_beq_false hc4)
           exact yw s i se hE ⟨(Qm h2 h1),(rp cStg 3 0 3 h1),(by decide),(by decide),(by decide),hc0,hc1,hc2,hc3,hc4,rfl,trivial⟩ (AvLe.of_eq (by rw [h]; try rfl))
       · have h:=h.2 (ne_of_beq_false hc3)
         exact yu s i se hE ⟨(Qm h2 h1),(rp cStg 3 0 3 h1),(by decide),(by decide),(by decide),hc0,hc1,hc2,hc3,trivial⟩ (AvLe.of_eq (by rw [h]; try rfl))
theorem all_not {α:Type} {p:α→Bool}:∀ {l:List α},(!(l.any fun t=>!p t))=l.all p
 | []=>rfl
 | x :: l=>by rw [List.any_cons,List.all_cons,← all_not (l:=l)]; cases p x <;> simp
theorem formed_ok (s:Stl) (i:Nat) (h:i<s.stages.length∧s.stages.length≤1000000∧s.worth.length≤1000000):Pure Try.prog 134 [.agg [.rsl (Qe s.stages) 0 s.stages.length,.rsl (rowI s.worth) 0 s.worth.length,.int .i64 s.price],.int .i64 (i:Int)] (.bool (Xu s i)):=Qs Try.func134 f134b fun E hE=>by
 have hi:s.stages[i]?=some s.stages[i]:=List.getElem?_eq_getElem h.1
 have hr:Xu s i=yg s i s.stages[i]:=by rw [Xu,hi]
 generalize s.stages[i]=x at hi hr
 have fin:∀ {lo hi:Int},¬ x.kind=4→Qd x.kind 1 3=true→(if x.kind=1 then (1:Int) else 0)=lo→(if x.kind=1 then (100:Int) else 0)=hi→x.prize=0→Qd x.turns.length 1 8=true→Xu s i=!(x.turns.any fun t=>!Xi lo hi i s.stages.length t):=fun {lo hi} h1 h2 e1 e2 h3 h4=>by
  rw [hr,yg,if_neg h1,h2,decide_eq_true h3,h4,e1,e2,all_not]; simp
 have b1:∀ (h1:¬ x.kind=4),¬ x.prize=0→Xu s i=false:=fun h1 h3=>by rw [hr,yg,if_neg h1,decide_eq_false h3]; simp
 have b2:∀ (h1:¬ x.kind=4),Qd x.turns.length 1 8=false→Xu s i=false:=fun h1 h3=>by rw [hr,yg,if_neg h1,h3]; simp
 have b3:∀ (h1:¬ x.kind=4),Qd x.kind 1 3=false→Xu s i=false:=fun h1 h3=>by rw [hr,yg,if_neg h1,h3]; simp
 have pre:Qd x.turns.length 1 8=true→((0≤(i:Int)∧(i:Int)≤1000000)∧s.stages.length≤1000000)∧x.turns.length≤9223372036854775807:=fun h4=>by have:=Qz.1 h4; omega
 refine f134W s i (rv:=Xu s i) hE ⟨by omega,x,by rw [show Int.toNat (i:Int)=i by omega]; exact hi,fun h1=>⟨fun h2=>⟨by omega,?_⟩,fun h2=>?_⟩,fun h1 =>
  ⟨fun k1=>⟨fun h3=>⟨fun h4=>⟨pre h4,fin h1 (Qz.2 (by omega)) (if_pos k1) (if_pos k1) h3 h4⟩,b2 h1⟩,b1 h1⟩,fun k1 =>
  ⟨fun k2=>⟨fun _=>⟨fun h3=>⟨fun h4=>⟨pre h4,fin h1 (Qz.2 (by omega)) (if_neg k1) (if_neg k1) h3 h4⟩,b2 h1⟩,b1 h1⟩,fun h=>absurd k2 h⟩,fun k2 =>
  ⟨fun k3=>⟨fun h3=>⟨fun h4=>⟨pre h4,fin h1 (Qz.2 (by omega)) (if_neg k1) (if_neg k1) h3 h4⟩,b2 h1⟩,b1 h1⟩,fun k3=>b3 h1 (within_not.2 (by omega))⟩⟩⟩⟩
 · rw [hr,yg,if_pos h1,decide_eq_true (by omega)]; rfl
 · rw [hr,yg,if_pos h1,decide_eq_false (by omega)]; rfl
theorem f59b:Try.f59.body=some (Qb Try.prog 59):=by kernel_rfl
theorem u59 {a c k:List AV} {r:AV} (h:Pure Try.prog 59 (a++c++k) r):Qi Try.prog (.clos 59 a k) c r:=Qk Try.func59 (by kernel_rfl) f59b h
def f59K0 (P:Program):List Item:=kAt 400 [.code (Qb P 59)] [.stop]
def f59S0 (l:(List Int)) (i:Nat):St:=⟨([.rsl (rowI l) 0 l.length,.clos 133 [] []]++jj 5 ([.int .i64 (l.length:Int),.int .i64 (i:Int)]++Js 10)),[]⟩
def f59G0 (E:Env) (l:(List Int)) (i:Nat):Prop:=G Try.prog E (f59K0 Try.prog) (f59S0 l i )
theorem p59_start_0 (l:(List Int)) {E:Env} {rv:AV} (hE:Qg Try.prog 59 rv E) (ho:AllP [])
 (hg:G Try.prog E (f59K0 Try.prog) ⟨([.rsl (rowI l) 0 l.length,.clos 133 [] []]++jj 5 ([.int .i64 (l.length:Int),.int .i64 0]++Js 10)),[]⟩):G Try.prog E [.code (Qb Try.prog 59)] ⟨[.rsl (rowI l) 0 l.length,.clos 133 [] []]++unds (Try.f59.ntmps - 2),[]⟩ :=
 Qh (n:=400) (ds:=[]) (cs:=[]) (live:=[0,1,7,8]) (m:=0) (evs:=[.stop]) (obs:=_) hE.2.1 (hE.nogh _) Qo (by kernel_rfl) ho hg
theorem f59W (l:(List Int)) {E:Env} {rv:Int} (hE:Qg Try.prog 59 (.int .i64 rv) E)
 (h:f59G0 E l 0):G Try.prog E [.code (Qb Try.prog 59)] ⟨[.rsl (rowI l) 0 l.length,.clos 133 [] []]++unds (Try.f59.ntmps - 2),[]⟩:=by
 exact p59_start_0 l hE trivial h
theorem p59_0_0 (l:(List Int)) (i:Nat) (e:Int) {E:Env} {res:AV} (hE:Qg Try.prog 59 res E) (ho:AllP [(decide ((i:Int)<(l.length:Int)))=true,0≤(i:Int)∧(i:Int)<(l.length:Int),((rowI l).drop (0+(Int.toNat (i:Int))*1)).take 1=[.int .i64 e],Qi Try.prog (.clos 133 [] []) [.int .i64 e] (.bool (!Qd e 0 10000)),(!Qd e 0 10000)=true])
 (hr:AvLe (.int .i64 (i:Int)) res):G Try.prog E (f59K0 Try.prog) (f59S0 l i ) :=
 Qa (n:=400) (evs:=[.b true,.ld (.int .i64 e),.v (.bool (!Qd e 0 10000)),.b true]) (obs:=_) hE Try.func59 Qo (by kernel_rfl) ho hr
theorem p59_0_1 (l:(List Int)) (i:Nat) (e:Int) {E:Env} {rv:AV} (hE:Qg Try.prog 59 rv E) (ho:AllP [(decide ((i:Int)<(l.length:Int)))=true,0≤(i:Int)∧(i:Int)<(l.length:Int),((rowI l).drop (0+(Int.toNat (i:Int))*1)).take 1=[.int .i64 e],Qi Try.prog (.clos 133 [] []) [.int .i64 e] (.bool (!Qd e 0 10000)),(!Qd e 0 10000)=false,InR .i64 ((i:Int)+1)])
 (hg:G Try.prog E (f59K0 Try.prog) ⟨([.rsl (rowI l) 0 l.length,.clos 133 [] []]++jj 5 ([.int .i64 (l.length:Int),.int .i64 ((i:Int)+1)]++Js 10)),[]⟩):G Try.prog E (f59K0 Try.prog) (f59S0 l i ) :=
 Qh (n:=400) (ds:=[]) (cs:=[]) (live:=[0,1,7,8]) (m:=0) (evs:=[.b true,.ld (.int .i64 e),.v (.bool (!Qd e 0 10000)),.b false,.stop]) (obs:=_) hE.2.1 (hE.nogh _) Qo (by kernel_rfl) ho hg
theorem p59_0_2 (l:(List Int)) (i:Nat) {E:Env} {res:AV} (hE:Qg Try.prog 59 res E) (ho:AllP [(decide ((i:Int)<(l.length:Int)))=false])
 (hr:AvLe (.int .i64 (-1)) res):G Try.prog E (f59K0 Try.prog) (f59S0 l i ) :=
 Qa (n:=400) (evs:=[.b false]) (obs:=_) hE Try.func59 Qo (by kernel_rfl) ho hr
theorem f59W0 (l:(List Int)) (i:Nat) {E:Env} {rv:Int} (hE:Qg Try.prog 59 (.int .i64 rv) E)
 (h:(((i:Int)<(l.length:Int)→(∃ e:Int,l[i]?=some e∧(((!Qd e 0 10000)=true→rv=(i:Int))∧((!Qd e 0 10000)=false→((I6 ((i:Int)+1))∧f59G0 E l (i+1))))))∧(¬ ((i:Int)<(l.length:Int))→rv=(-1)))):f59G0 E l i:=by
 rcases bft (decide ((i:Int)<(l.length:Int))) with hc0 | hc0
 · have h:=h.1 (odt hc0)
   obtain ⟨e,h1,h⟩:=h
   rcases bft (!Qd e 0 10000) with hc1 | hc1
   · have h:=h.1 hc1
     exact p59_0_0 l i e hE ⟨hc0,(Qq h1),(rp cI 1 0 1 h1),(u133 (bad_ok e)),hc1,trivial⟩ (AvLe.of_eq (by rw [h]; try rfl))
   · have h:=h.2 hc1
     obtain ⟨q6_2,h⟩:=h
     exact p59_0_1 l i e hE ⟨hc0,(Qq h1),(rp cI 1 0 1 h1),(u133 (bad_ok e)),hc1,q6_2,trivial⟩ h
 · have h:=h.2 (odf hc0)
   exact p59_0_2 l i hE ⟨hc0,trivial⟩ (AvLe.of_eq (by rw [h]; try rfl))
theorem idxB_ok (l:List Int) (h:l.length≤9223372036854775807):Pure Try.prog 59 [.rsl (rowI l) 0 l.length,.clos 133 [] []] (.int .i64 (XU (fun n=>!Qd n 0 10000) l)):=Qs Try.func59 f59b fun E hE=>by
 refine f59W l hE (VN (fun n=>!Qd n 0 10000) l l.length 0 (by omega) (fun j x hj=>by omega) (fun i=>f59G0 E l i) (fun i hi' h1 h2=>?_) (fun _ h2=>?_))
 · have hx:l[i]?=some l[i]:=List.getElem?_eq_getElem hi'
   exact f59W0 l i hE ⟨fun _=>⟨_,hx,fun hp=>h1 _ hx hp,fun hp=>⟨by omega,h2 _ hx hp⟩⟩,fun h=>by omega⟩
 · exact f59W0 l _ hE ⟨fun h=>by omega,fun _=>h2⟩
theorem f76b:Try.f76.body=some (Qb Try.prog 76):=by kernel_rfl
theorem u76 {a c k:List AV} {r:AV} (h:Pure Try.prog 76 (a++c++k) r):Qi Try.prog (.clos 76 a k) c r:=Qk Try.func76 (by kernel_rfl) f76b h
theorem p76_start_0 (l:(List Int)) {E:Env} {res:AV} (hE:Qg Try.prog 76 res E) (ho:AllP [Qi Try.prog (.clos 59 [] []) [.rsl (rowI l) 0 l.length,.clos 133 [] []] (.int .i64 (XU (fun n=>!Qd n 0 10000) l))])
 (hr:AvLe (.bool (decide ((XU (fun n=>!Qd n 0 10000) l)≥0))) res):G Try.prog E [.code (Qb Try.prog 76)] ⟨[.rsl (rowI l) 0 l.length,.clos 133 [] []]++unds (Try.f76.ntmps - 2),[]⟩ :=
 Qa (n:=400) (evs:=[.v (.int .i64 (XU (fun n=>!Qd n 0 10000) l))]) (obs:=_) hE Try.func76 Qo (by kernel_rfl) ho hr
theorem f76W (l:(List Int)) {E:Env} {rv:Bool} (hE:Qg Try.prog 76 (.bool rv) E)
 (h:((l.length≤9223372036854775807)∧rv=(decide ((XU (fun n=>!Qd n 0 10000) l)≥0)))):G Try.prog E [.code (Qb Try.prog 76)] ⟨[.rsl (rowI l) 0 l.length,.clos 133 [] []]++unds (Try.f76.ntmps - 2),[]⟩:=by
 obtain ⟨h1,h⟩:=h
 exact p76_start_0 l hE ⟨(u59 (idxB_ok l h1)),trivial⟩ (AvLe.of_eq (by rw [h]; try rfl))
theorem anyB_ok (l:List Int) (h:l.length≤9223372036854775807):Pure Try.prog 76 [.rsl (rowI l) 0 l.length,.clos 133 [] []] (.bool (l.any fun n=>!Qd n 0 10000)):=Qs Try.func76 f76b fun E hE =>
 f76W l hE ⟨h,(WR _ _).symm⟩
theorem f135b:Try.f135.body=some (Qb Try.prog 135):=by kernel_rfl
def WX (P:Program):List Item:=kAt 400 [.code (Qb P 135)] [.stop]
def f135S0 (i:Int) (s:Stl) (me mu:List Int) (ga gb:Nat) (i1:(List Trn)) (i11:Nat) (v3_0:Int) (v3_1:Int) (v3_2:(List Trn)) (multiple:Int) (ok:Bool) (i111:Nat):St:=⟨([.ptr 0 0 0,.int .i64 i,J,J,J,.ptr 3 0 0,.int .i64 multiple,.bool ok]++jj 12 ([.rsl (Qn i1) 0 i1.length,.int .i64 (i11:Int),.int .i64 (i111:Int)]++Js 55)),[⟨true,0,1,false,[.rsl (Qe s.stages) 0 s.stages.length,.rsl (rowI s.worth) 0 s.worth.length,.int .i64 s.price,.sl 1 ga 0 me.length 1,.sl 2 gb 0 mu.length 1],false⟩,⟨true,ga,1,true,(rowI me),true⟩,⟨true,gb,1,true,(rowI mu),true⟩,⟨true,0,1,true,[.int .i64 v3_0,.int .i64 v3_1,.rsl (Qn v3_2) 0 v3_2.length],false⟩]⟩
def f135G0 (E:Env) (i:Int) (s:Stl) (me mu:List Int) (ga gb:Nat) (i1:(List Trn)) (i11:Nat) (v3_0:Int) (v3_1:Int) (v3_2:(List Trn)) (multiple:Int) (ok:Bool) (i111:Nat):Prop:=G Try.prog E (WX Try.prog) (f135S0 i s me mu ga gb i1 i11 v3_0 v3_1 v3_2 multiple ok i111 )
theorem p135_start_0 (i:Int) (s:Stl) (me mu:List Int) (ga gb:Nat) (se:Stg) {E:Env} {rv:AV} {bs2:List Blk} (hE:LentE Try.prog 135 [.sl 2 gb 0 0 1] rv bs2 E) (ho:AllP [0≤i∧i<(s.stages.length:Int),((Qe s.stages).drop (0+(Int.toNat i)*3)).take 3=[.int .i64 se.kind,.int .i64 se.prize,.rsl (Qn se.turns) 0 se.turns.length],3≤3])
 (hg:G Try.prog E (WX Try.prog) ⟨([.ptr 0 0 0,.int .i64 i,J,J,J,.ptr 3 0 0,.int .i64 1,.bool true]++jj 12 ([.rsl (Qn se.turns) 0 se.turns.length,.int .i64 (se.turns.length:Int),.int .i64 0]++Js 55)),[⟨true,0,1,false,[.rsl (Qe s.stages) 0 s.stages.length,.rsl (rowI s.worth) 0 s.worth.length,.int .i64 s.price,.sl 1 ga 0 me.length 1,.sl 2 gb 0 mu.length 1],false⟩,⟨true,ga,1,true,(rowI me),true⟩,⟨true,gb,1,true,(rowI mu),true⟩,⟨true,0,1,true,[.int .i64 se.kind,.int .i64 se.prize,.rsl (Qn se.turns) 0 se.turns.length],false⟩]⟩):G Try.prog E [.code (Qb Try.prog 135)] ⟨[.ptr 0 0 0,.int .i64 i]++unds (Try.f135.ntmps - 2),[⟨true,0,1,false,[.rsl (Qe s.stages) 0 s.stages.length,.rsl (rowI s.worth) 0 s.worth.length,.int .i64 s.price,.sl 1 ga 0 me.length 1,.sl 2 gb 0 mu.length 1],false⟩,⟨true,ga,1,true,(rowI me),true⟩,⟨true,gb,1,true,(rowI mu),true⟩]⟩ :=
 Qh (n:=400) (ds:=[]) (cs:=[]) (live:=[0,1,5,6,7,20,21,22]) (m:=4) (evs:=[.auto,.ld (.agg [.int .i64 se.kind,.int .i64 se.prize,.rsl (Qn se.turns) 0 se.turns.length]),.stop]) (obs:=_) hE.kind (hE.nogh (by kernel_rfl)) Qo (by kernel_rfl) ho hg
theorem f135W (i:Int) (s:Stl) (me mu:List Int) (ga gb:Nat) {E:Env} {rv:Bool} {me2:List Int} {mu2:List Int} (hE:LentE Try.prog 135 [.sl 2 gb 0 0 1] (.bool rv) [⟨true,0,1,false,[.rsl (Qe s.stages) 0 s.stages.length,.rsl (rowI s.worth) 0 s.worth.length,.int .i64 s.price,.sl 1 ga 0 me.length 1,.sl 2 gb 0 mu.length 1],false⟩,⟨true,ga,1,true,(rowI me2),true⟩,⟨true,gb,1,true,(rowI mu2),true⟩] E)
 (h:(0≤i∧(∃ se:Stg,s.stages[Int.toNat i]?=some se∧f135G0 E i s me mu ga gb se.turns se.turns.length se.kind se.prize se.turns 1 true 0))):G Try.prog E [.code (Qb Try.prog 135)] ⟨[.ptr 0 0 0,.int .i64 i]++unds (Try.f135.ntmps - 2),[⟨true,0,1,false,[.rsl (Qe s.stages) 0 s.stages.length,.rsl (rowI s.worth) 0 s.worth.length,.int .i64 s.price,.sl 1 ga 0 me.length 1,.sl 2 gb 0 mu.length 1],false⟩,⟨true,ga,1,true,(rowI me),true⟩,⟨true,gb,1,true,(rowI mu),true⟩]⟩:=by
 obtain ⟨h2,h⟩:=h
 obtain ⟨se,h1,h⟩:=h
 exact p135_start_0 i s me mu ga gb se hE ⟨(Qm h2 h1),(rp cStg 3 0 3 h1),(by decide),trivial⟩ h
theorem p135_0_0 (i:Int) (s:Stl) (me mu:List Int) (ga gb:Nat) (i1:(List Trn)) (i11:Nat) (v3_0:Int) (v3_1:Int) (v3_2:(List Trn)) (multiple:Int) (ok:Bool) (i111:Nat) (te:Trn) (e:Int) {E:Env} {res:AV} {bs2:List Blk} (hE:LentE Try.prog 135 [.sl 2 gb 0 0 1] res bs2 E) (ho:AllP [(decide ((i111:Int)<(i11:Int)))=true,0≤(i111:Int)∧(i111:Int)<(i1.length:Int),((Qn i1).drop (0+(Int.toNat (i111:Int))*2)).take 2=[.int .i64 te.w,.int .i64 te.to],2≤2,0≤te.to∧te.to<(me.length:Int),ga=ga,ga=ga,((rowI me).drop (0+(Int.toNat te.to)*1)).take 1=[.int .i64 e],Qi Try.prog (.clos 198 [] []) [.int .i64 multiple,.int .i64 e] (.int .i64 (iMax (gcdI multiple e) 1)),InR .i64 (Int.tdiv multiple (iMax (gcdI multiple e) 1)),(iMax (gcdI multiple e) 1) ≠ 0,Qi Try.prog (.clos 197 [] []) [.int .i64 (Int.tdiv multiple (iMax (gcdI multiple e) 1)),.int .i64 e] (.tup [.int .i64 ((Xg (Int.tdiv multiple (iMax (gcdI multiple e) 1)) e).1),.bool ((Xg (Int.tdiv multiple (iMax (gcdI multiple e) 1)) e).2)]),(!(Xg (Int.tdiv multiple (iMax (gcdI multiple e) 1)) e).2)=true])
 (hr:(.bool false)=res) (hb:[⟨true,0,1,false,[.rsl (Qe s.stages) 0 s.stages.length,.rsl (rowI s.worth) 0 s.worth.length,.int .i64 s.price,.sl 1 ga 0 me.length 1,.sl 2 gb 0 mu.length 1],false⟩,⟨true,ga,1,true,(rowI me),true⟩,⟨true,gb,1,true,(rowI mu),true⟩]=bs2):G Try.prog E (WX Try.prog) (f135S0 i s me mu ga gb i1 i11 v3_0 v3_1 v3_2 multiple ok i111 ) :=
 Ye (n:=400) (live:=[4]) (m:=3) (evs:=[.b true,.ld (.agg [.int .i64 te.w,.int .i64 te.to]),.auto,.auto,.ld (.int .i64 e),.v (.int .i64 (iMax (gcdI multiple e) 1)),.v (.tup [.int .i64 ((Xg (Int.tdiv multiple (iMax (gcdI multiple e) 1)) e).1),.bool ((Xg (Int.tdiv multiple (iMax (gcdI multiple e) 1)) e).2)]),.b true]) (obs:=_) hE (hE.nogh (by kernel_rfl)) Try.func135 Qo (by kernel_rfl) ho hr hb
theorem p135_0_1 (i:Int) (s:Stl) (me mu:List Int) (ga gb:Nat) (i1:(List Trn)) (i11:Nat) (v3_0:Int) (v3_1:Int) (v3_2:(List Trn)) (multiple:Int) (ok:Bool) (i111:Nat) (te:Trn) (e:Int) {E:Env} {rv:AV} {bs2:List Blk} (hE:LentE Try.prog 135 [.sl 2 gb 0 0 1] rv bs2 E) (ho:AllP [(decide ((i111:Int)<(i11:Int)))=true,0≤(i111:Int)∧(i111:Int)<(i1.length:Int),((Qn i1).drop (0+(Int.toNat (i111:Int))*2)).take 2=[.int .i64 te.w,.int .i64 te.to],2≤2,0≤te.to∧te.to<(me.length:Int),ga=ga,ga=ga,((rowI me).drop (0+(Int.toNat te.to)*1)).take 1=[.int .i64 e],Qi Try.prog (.clos 198 [] []) [.int .i64 multiple,.int .i64 e] (.int .i64 (iMax (gcdI multiple e) 1)),InR .i64 (Int.tdiv multiple (iMax (gcdI multiple e) 1)),(iMax (gcdI multiple e) 1) ≠ 0,Qi Try.prog (.clos 197 [] []) [.int .i64 (Int.tdiv multiple (iMax (gcdI multiple e) 1)),.int .i64 e] (.tup [.int .i64 ((Xg (Int.tdiv multiple (iMax (gcdI multiple e) 1)) e).1),.bool ((Xg (Int.tdiv multiple (iMax (gcdI multiple e) 1)) e).2)]),(!(Xg (Int.tdiv multiple (iMax (gcdI multiple e) 1)) e).2)=false,InR .i64 ((i111:Int)+1)])
 (hg:G Try.prog E (WX Try.prog) ⟨([.ptr 0 0 0,.int .i64 i,J,J,J,.ptr 3 0 0,.int .i64 ((Xg (Int.tdiv multiple (iMax (gcdI multiple e) 1)) e).1),.bool ((Xg (Int.tdiv multiple (iMax (gcdI multiple e) 1)) e).2)]++jj 12 ([.rsl (Qn i1) 0 i1.length,.int .i64 (i11:Int),.int .i64 ((i111:Int)+1)]++Js 55)),[⟨true,0,1,false,[.rsl (Qe s.stages) 0 s.stages.length,.rsl (rowI s.worth) 0 s.worth.length,.int .i64 s.price,.sl 1 ga 0 me.length 1,.sl 2 gb 0 mu.length 1],false⟩,⟨true,ga,1,true,(rowI me),true⟩,⟨true,gb,1,true,(rowI mu),true⟩,⟨true,0,1,true,[.int .i64 v3_0,.int .i64 v3_1,.rsl (Qn v3_2) 0 v3_2.length],false⟩]⟩):G Try.prog E (WX Try.prog) (f135S0 i s me mu ga gb i1 i11 v3_0 v3_1 v3_2 multiple ok i111 ) :=
 Qh (n:=400) (ds:=[]) (cs:=[]) (live:=[0,1,5,6,7,20,21,22]) (m:=4) (evs:=[.b true,.ld (.agg [.int .i64 te.w,.int .i64 te.to]),.auto,.auto,.ld (.int .i64 e),.v (.int .i64 (iMax (gcdI multiple e) 1)),.v (.tup [.int .i64 ((Xg (Int.tdiv multiple (iMax (gcdI multiple e) 1)) e).1),.bool ((Xg (Int.tdiv multiple (iMax (gcdI multiple e) 1)) e).2)]),.b false,.stop]) (obs:=_) hE.kind (hE.nogh (by kernel_rfl)) Qo (by kernel_rfl) ho hg
theorem p135_0_2 (i:Int) (s:Stl) (me mu:List Int) (ga gb:Nat) (i1:(List Trn)) (i11:Nat) (v3_0:Int) (v3_1:Int) (v3_2:(List Trn)) (multiple:Int) (ok:Bool) (i111:Nat) (e:Int) (e1:Int) (e2:Int) {E:Env} {res:AV} {bs2:List Blk} (hE:LentE Try.prog 135 [.sl 2 gb 0 0 1] res bs2 E) (ho:AllP [(decide ((i111:Int)<(i11:Int)))=false,0≤i∧i<(mu.length:Int),gb=gb,((0+(Int.toNat i)*1)+1)≤(rowI mu).length,gb=gb,0≤i∧i<(me.length:Int),ga=ga,((0+(Int.toNat i)*1)+1)≤(rowI me).length,ga=ga,(v3_0 == 1)=true,Qi Try.prog (.clos 70 [] []) [.agg [.int .i64 v3_0,.int .i64 v3_1,.rsl (Qn v3_2) 0 v3_2.length]] (.int .i64 (totI (⟨v3_0,v3_1,v3_2⟩:Stg))),Qi Try.prog (.clos 197 [] []) [.int .i64 multiple,.int .i64 (totI (⟨v3_0,v3_1,v3_2⟩:Stg))] (.tup [.int .i64 ((Xg multiple (totI (⟨v3_0,v3_1,v3_2⟩:Stg))).1),.bool ((Xg multiple (totI (⟨v3_0,v3_1,v3_2⟩:Stg))).2)]),0≤i∧i<(me.length:Int),ga=ga,((0+(Int.toNat i)*1)+1)≤(Qu (rowI me) (0+(Int.toNat i)*1) [.int .i64 multiple]).length,ga=ga])
 (hr:(.bool ((Xg multiple (totI (⟨v3_0,v3_1,v3_2⟩:Stg))).2))=res) (hb:[⟨true,0,1,false,[.rsl (Qe s.stages) 0 s.stages.length,.rsl (rowI s.worth) 0 s.worth.length,.int .i64 s.price,.sl 1 ga 0 me.length 1,.sl 2 gb 0 mu.length 1],false⟩,⟨true,ga,1,true,(Qu (Qu (rowI me) (0+(Int.toNat i)*1) [.int .i64 multiple]) (0+(Int.toNat i)*1) [.int .i64 ((Xg multiple (totI (⟨v3_0,v3_1,v3_2⟩:Stg))).1)]),true⟩,⟨true,gb,1,true,(Qu (rowI mu) (0+(Int.toNat i)*1) [.int .i64 multiple]),true⟩]=bs2):G Try.prog E (WX Try.prog) (f135S0 i s me mu ga gb i1 i11 v3_0 v3_1 v3_2 multiple ok i111 ) :=
 Ye (n:=400) (live:=[4]) (m:=3) (evs:=[.b false,.b true,.v (.int .i64 (totI (⟨v3_0,v3_1,v3_2⟩:Stg))),.v (.tup [.int .i64 ((Xg multiple (totI (⟨v3_0,v3_1,v3_2⟩:Stg))).1),.bool ((Xg multiple (totI (⟨v3_0,v3_1,v3_2⟩:Stg))).2)])]) (obs:=_) hE (hE.nogh (by kernel_rfl)) Try.func135 Qo (by kernel_rfl) ho hr hb
theorem p135_0_3 (i:Int) (s:Stl) (me mu:List Int) (ga gb:Nat) (i1:(List Trn)) (i11:Nat) (v3_0:Int) (v3_1:Int) (v3_2:(List Trn)) (multiple:Int) (ok:Bool) (i111:Nat) (e:Int) (e1:Int) {E:Env} {res:AV} {bs2:List Blk} (hE:LentE Try.prog 135 [.sl 2 gb 0 0 1] res bs2 E) (ho:AllP [(decide ((i111:Int)<(i11:Int)))=false,0≤i∧i<(mu.length:Int),gb=gb,((0+(Int.toNat i)*1)+1)≤(rowI mu).length,gb=gb,0≤i∧i<(me.length:Int),ga=ga,((0+(Int.toNat i)*1)+1)≤(rowI me).length,ga=ga,(v3_0 == 1)=false])
 (hr:(.bool ok)=res) (hb:[⟨true,0,1,false,[.rsl (Qe s.stages) 0 s.stages.length,.rsl (rowI s.worth) 0 s.worth.length,.int .i64 s.price,.sl 1 ga 0 me.length 1,.sl 2 gb 0 mu.length 1],false⟩,⟨true,ga,1,true,(Qu (rowI me) (0+(Int.toNat i)*1) [.int .i64 multiple]),true⟩,⟨true,gb,1,true,(Qu (rowI mu) (0+(Int.toNat i)*1) [.int .i64 multiple]),true⟩]=bs2):G Try.prog E (WX Try.prog) (f135S0 i s me mu ga gb i1 i11 v3_0 v3_1 v3_2 multiple ok i111 ) :=
 Ye (n:=400) (live:=[4]) (m:=3) (evs:=[.b false,.b false]) (obs:=_) hE (hE.nogh (by kernel_rfl)) Try.func135 Qo (by kernel_rfl) ho hr hb
theorem f135W0 (i:Int) (s:Stl) (me mu:List Int) (ga gb:Nat) (i1:(List Trn)) (i11:Nat) (v3_0:Int) (v3_1:Int) (v3_2:(List Trn)) (multiple:Int) (ok:Bool) (i111:Nat) {E:Env} {rv:Bool} {me2:List Int} {mu2:List Int} (hE:LentE Try.prog 135 [.sl 2 gb 0 0 1] (.bool rv) [⟨true,0,1,false,[.rsl (Qe s.stages) 0 s.stages.length,.rsl (rowI s.worth) 0 s.worth.length,.int .i64 s.price,.sl 1 ga 0 me.length 1,.sl 2 gb 0 mu.length 1],false⟩,⟨true,ga,1,true,(rowI me2),true⟩,⟨true,gb,1,true,(rowI mu2),true⟩] E)
 (h:(((i111:Int)<(i11:Int)→(∃ te:Trn,i1[i111]?=some te∧(0≤te.to∧(∃ e:Int,me[Int.toNat te.to]?=some e∧((0≤multiple∧0≤e)∧((I6 (Int.tdiv multiple (iMax (gcdI multiple e) 1)))∧((iMax (gcdI multiple e) 1) ≠ 0∧((0≤(Int.tdiv multiple (iMax (gcdI multiple e) 1))∧0<e)∧(((!(Xg (Int.tdiv multiple (iMax (gcdI multiple e) 1)) e).2)=true→rv=false∧me2=me∧mu2=mu)∧((!(Xg (Int.tdiv multiple (iMax (gcdI multiple e) 1)) e).2)=false→((I6 ((i111:Int)+1))∧f135G0 E i s me mu ga gb i1 i11 v3_0 v3_1 v3_2 ((Xg (Int.tdiv multiple (iMax (gcdI multiple e) 1)) e).1) ((Xg (Int.tdiv multiple (iMax (gcdI multiple e) 1)) e).2) (i111+1))))))))))))∧(¬ ((i111:Int)<(i11:Int))→(0≤i∧(∃ e:Int,mu[Int.toNat i]?=some e∧(0≤i∧(∃ e1:Int,me[Int.toNat i]?=some e1∧((v3_0=1→((TotOk (⟨v3_0,v3_1,v3_2⟩:Stg))∧((0≤multiple∧0<(totI (⟨v3_0,v3_1,v3_2⟩:Stg)))∧(0≤i∧(∃ e2:Int,(me.set (Int.toNat i) multiple)[Int.toNat i]?=some e2∧rv=(Xg multiple (totI (⟨v3_0,v3_1,v3_2⟩:Stg))).2∧me2=((me.set (Int.toNat i) multiple).set (Int.toNat i) ((Xg multiple (totI (⟨v3_0,v3_1,v3_2⟩:Stg))).1))∧mu2=(mu.set (Int.toNat i) multiple))))))∧(¬ (v3_0=1)→rv=ok∧me2=(me.set (Int.toNat i) multiple)∧mu2=(mu.set (Int.toNat i) multiple)))))))))):f135G0 E i s me mu ga gb i1 i11 v3_0 v3_1 v3_2 multiple ok i111:=by
 rcases bft (decide ((i111:Int)<(i11:Int))) with hc0 | hc0
 · have h:=h.1 (odt hc0)
   obtain ⟨te,h1,h⟩:=h
   obtain ⟨h3,h⟩:=h
   obtain ⟨e,h2,h⟩:=h
   obtain ⟨h4,h⟩:=h
   obtain ⟨q11_1,h⟩:=h
   obtain ⟨q12_1,h⟩:=h
   obtain ⟨h5,h⟩:=h
   rcases bft (!(Xg (Int.tdiv multiple (iMax (gcdI multiple e) 1)) e).2) with hc1 | hc1
   · have h:=h.1 hc1
     obtain ⟨qe0,qe1,qe2⟩:=h
     exact p135_0_0 i s me mu ga gb i1 i11 v3_0 v3_1 v3_2 multiple ok i111 te e hE ⟨hc0,(Qq h1),(rp cTrn 2 0 2 h1),(by decide),(Qm h3 h2),rfl,rfl,(rp cI 1 0 1 h2),(u198 (qV multiple e h4)),q11_1,q12_1,(u197 (VK (Int.tdiv multiple (iMax (gcdI multiple e) 1)) e h5)),hc1,trivial⟩ (by rw [qe0]; try rfl) (by rw [qe1,qe2]; all_goals (first | rfl | (simp only [List.length_set]; done) | (simp only [List.length_set]; rfl)))
   · have h:=h.2 hc1
     obtain ⟨q15_2,h⟩:=h
     exact p135_0_1 i s me mu ga gb i1 i11 v3_0 v3_1 v3_2 multiple ok i111 te e hE ⟨hc0,(Qq h1),(rp cTrn 2 0 2 h1),(by decide),(Qm h3 h2),rfl,rfl,(rp cI 1 0 1 h2),(u198 (qV multiple e h4)),q11_1,q12_1,(u197 (VK (Int.tdiv multiple (iMax (gcdI multiple e) 1)) e h5)),hc1,q15_2,trivial⟩ h
 · have h:=h.2 (odf hc0)
   obtain ⟨h2,h⟩:=h
   obtain ⟨e,h1,h⟩:=h
   obtain ⟨h4,h⟩:=h
   obtain ⟨e1,h3,h⟩:=h
   rcases bft (v3_0 == 1) with hc1 | hc1
   · have h:=h.1 (eq_of_beq hc1)
     obtain ⟨h5,h⟩:=h
     obtain ⟨h6,h⟩:=h
     obtain ⟨h8,h⟩:=h
     obtain ⟨e2,h7,h⟩:=h
     obtain ⟨qe0,qe1,qe2⟩:=h
     exact p135_0_2 i s me mu ga gb i1 i11 v3_0 v3_1 v3_2 multiple ok i111 e e1 e2 hE ⟨hc0,(Qm h2 h1),rfl,(rf cI 1 0 1 h1),rfl,(Qm h4 h3),rfl,(rf cI 1 0 1 h3),rfl,hc1,(u70 (yd (⟨v3_0,v3_1,v3_2⟩:Stg) h5)),(u197 (VK multiple (totI (⟨v3_0,v3_1,v3_2⟩:Stg)) h6)),(by have hx:=Qm h8 h7; simpa using hx),rfl,(by rw [(show Qu (rowI me) (0+(Int.toNat i)*1) [.int .i64 multiple]=rowI (me.set (Int.toNat i) multiple) from QE cI (s:=1) (k:=0) (fun _=>rfl) h3 rfl (by first | decide | simp))]; exact rf cI 1 0 1 h7),rfl,trivial⟩ (by rw [qe0]; try rfl) (by rw [qe1,qe2]; rw [(show Qu (rowI me) (0+(Int.toNat i)*1) [.int .i64 multiple]=rowI (me.set (Int.toNat i) multiple) from QE cI (s:=1) (k:=0) (fun _=>rfl) h3 rfl (by first | decide | simp))]; rw [(show Qu (rowI (me.set (Int.toNat i) multiple)) (0+(Int.toNat i)*1) [.int .i64 ((Xg multiple (totI (⟨v3_0,v3_1,v3_2⟩:Stg))).1)]=rowI ((me.set (Int.toNat i) multiple).set (Int.toNat i) ((Xg multiple (totI (⟨v3_0,v3_1,v3_2⟩:Stg))).1)) from QE cI (s:=1) (k:=0) (fun _=>rfl) h7 rfl (by first | decide | simp))]; rw [(show Qu (rowI mu) (0+(Int.toNat i)*1) [.int .i64 multiple]=rowI (mu.set (Int.toNat i) multiple) from QE cI (s:=1) (k:=0) (fun _=>rfl) h1 rfl (by first | decide | simp))]; all_goals (first | rfl | (simp only [List.length_set]; done) | (simp only [List.length_set]; rfl)))
   · have h:=h.2 (ne_of_beq_false hc1)
     obtain ⟨qe0,qe1,qe2⟩:=h
     exact p135_0_3 i s me mu ga gb i1 i11 v3_0 v3_1 v3_2 multiple ok i111 e e1 hE ⟨hc0,(Qm h2 h1),rfl,(rf cI 1 0 1 h1),rfl,(Qm h4 h3),rfl,(rf cI 1 0 1 h3),rfl,hc1,trivial⟩ (by rw [qe0]; try rfl) (by rw [qe1,qe2]; rw [(show Qu (rowI me) (0+(Int.toNat i)*1) [.int .i64 multiple]=rowI (me.set (Int.toNat i) multiple) from QE cI (s:=1) (k:=0) (fun _=>rfl) h3 rfl (by first | decide | simp))]; rw [(show Qu (rowI mu) (0+(Int.toNat i)*1) [.int .i64 multiple]=rowI (mu.set (Int.toNat i) multiple) from QE cI (s:=1) (k:=0) (fun _=>rfl) h1 rfl (by first | decide | simp))]; all_goals (first | rfl | (simp only [List.length_set]; done) | (simp only [List.length_set]; rfl)))
theorem gcdF_dvd:∀ {n:Nat} {a b:Int},0≤a→0≤b→b<n→gcdF n a b∣a∧gcdF n a b∣b
 | 0,a,b,_,hb,h=>by omega
 | n+1,a,b,ha,hb,h=>by
  simp only [gcdF]
  split
  · rename_i h0
    have t0:=Int.tmod_nonneg b ha
    have t1:=Int.tmod_lt_of_pos a h0
    obtain ⟨d1,d2⟩:=gcdF_dvd (n:=n) hb t0 (by omega)
    generalize gcdF n b (Int.tmod a b)=g at d1 d2
    obtain ⟨x,hx⟩:=d1
    obtain ⟨y,hy⟩:=d2
    refine ⟨⟨x*Int.tdiv a b+y,?_⟩,⟨x,hx⟩⟩
    rw [Int.mul_add,← Int.mul_assoc,← hx,← hy]
    exact (Int.mul_tdiv_add_tmod a b).symm
  · have:b=0:=by omega
    subst this
    exact ⟨⟨1,by omega⟩,⟨0,by omega⟩⟩
theorem gcd_dvd {a b:Int} (ha:0≤a) (hb:0≤b):gcdI a b∣a∧gcdI a b∣b:=gcdF_dvd ha hb (by omega)
theorem gcd_pos {a b:Int} (ha:0<a) (hb:0≤b):0<gcdI a b:=by
 have h1:=gcd_nonneg (a:=a) (b:=b) (by omega) hb
 obtain ⟨x,hx⟩:=(gcd_dvd (a:=a) (b:=b) (by omega) hb).1
 rcases Int.lt_or_eq_of_le h1 with h | h
 · exact h
 · rw [← h] at hx; omega
/-- The least common multiple,by and by. -/
theorem lcm_eq {m n:Int} (hm:0<m) (hn:0<n):Int.tdiv m (gcdI m n)*n=m*Int.tdiv n (gcdI m n)∧0<Int.tdiv n (gcdI m n)∧Int.tdiv n (gcdI m n)≤n∧0<Int.tdiv m (gcdI m n)∧Int.tdiv m (gcdI m n)≤m:=by
 have hg:=gcd_pos (b:=n) hm (by omega)
 obtain ⟨d1,d2⟩:=gcd_dvd (a:=m) (b:=n) (by omega) (by omega)
 generalize gcdI m n=g at hg d1 d2
 obtain ⟨x,rfl⟩:=d1
 obtain ⟨y,rfl⟩:=d2
 have hx:0<x:=by
  rcases Int.lt_or_le 0 x with h | h
  · exact h
  · have:=Int.mul_nonpos_of_nonneg_of_nonpos (show 0≤g by omega) h; omega
 have hy:0<y:=by
  rcases Int.lt_or_le 0 y with h | h
  · exact h
  · have:=Int.mul_nonpos_of_nonneg_of_nonpos (show 0≤g by omega) h; omega
 have ex:Int.tdiv (g*x) g=x:=Int.mul_tdiv_cancel_left x (by omega)
 have ey:Int.tdiv (g*y) g=y:=Int.mul_tdiv_cancel_left y (by omega)
 rw [ex,ey]
 have bx:1*x≤g*x:=Int.mul_le_mul_of_nonneg_right (by omega) (by omega)
 have by':1*y≤g*y:=Int.mul_le_mul_of_nonneg_right (by omega) (by omega)
 refine ⟨by rw [Int.mul_comm g x,Int.mul_assoc],hy,by omega,hx,by omega⟩
def lcmI (m n:Int):Int:=m*Int.tdiv n (gcdI m n)
def Vp (me:List Int):Int→List Trn→Option Int
 | m,[]=>some m
 | m,t :: r=>if lcmI m (me.getD (Int.toNat t.to) 0) > 1000000000000 then none else Vp me (lcmI m (me.getD (Int.toNat t.to) 0)) r
def QF (x:Stg) (i:Nat) (me mu:List Int):Bool × List Int × List Int:=match Vp me 1 x.turns with
 | none=>(false,me,mu)
 | some m=>if x.kind=1 then ((Xg m (totI x)).2,me.set i (Xg m (totI x)).1,mu.set i m) else (true,me.set i m,mu.set i m)
/-- The stages behind 'i' have their measures. -/
structure MeOk (s:Stl) (i:Nat) (me:List Int):Prop where
 len:me.length=s.stages.length
 pos:∀ (j:Nat) (v:Int),i<j→me[j]?=some v→0<v∧v≤1000000000000
theorem lcm_pos {m n:Int} (hm:0<m) (hn:0<n):0<lcmI m n:=Int.mul_pos hm (lcm_eq hm hn).2.1
theorem prod_lcm {m n:Int} (hm:0<m) (hn:0<n):Xg (Int.tdiv m (iMax (gcdI m n) 1)) n=if lcmI m n > 1000000000000 then (0,false) else (lcmI m n,true):=by
 have hg:=gcd_pos (b:=n) hm (by omega)
 have e:iMax (gcdI m n) 1=gcdI m n:=by simp only [iMax]; split <;> omega
 obtain ⟨l1,l2,l3,l4,l5⟩:=lcm_eq hm hn
 rw [e]
 rcases prod_of (a:=Int.tdiv m (gcdI m n)) (b:=n) (by omega) hn with ⟨h1,h2⟩ | ⟨h1,h2⟩
 · rw [h1,if_pos (by rw [lcmI,← l1]; exact h2)]
 · rw [h1,if_neg (by rw [lcmI,← l1]; omega),lcmI,l1]
theorem trn_of {lo hi i:Int} {n:Nat} {t:Trn} (h:Xi lo hi i n t=true):(lo≤t.w∧t.w≤hi)∧i+1≤t.to∧t.to≤(n:Int) - 1:=by
 simp only [Xi,Bool.and_eq_true] at h
 exact ⟨Qz.1 h.1,Qz.1 h.2⟩
theorem Yc {s:Stl} {i:Nat} {x:Stg} (hi:s.stages[i]?=some x) (h:Xu s i=true):(x.kind=4∧x.turns=[]∧(-1≤x.prize∧x.prize≤(s.worth.length:Int) - 1)) ∨
 ((1≤x.kind∧x.kind≤3)∧x.prize=0∧(1≤x.turns.length∧x.turns.length≤8)∧(∀ t ∈ x.turns,(i:Int)+1≤t.to∧t.to≤(s.stages.length:Int) - 1)∧(x.kind=1→∀ t ∈ x.turns,1≤t.w∧t.w≤100)∧(x.kind ≠ 1→∀ t ∈ x.turns,t.w=0)):=by
 rw [Xu,hi] at h
 simp only [yg] at h
 split at h
 · rename_i h1
   simp only [Bool.and_eq_true,decide_eq_true_eq] at h
   exact .inl ⟨h1,List.length_eq_zero_iff.1 h.1,Qz.1 h.2⟩
 · simp only [Bool.and_eq_true,decide_eq_true_eq] at h
   obtain ⟨h1,h2,h3,h4⟩:=h
   rw [List.all_eq_true] at h4
   have w:=Qz.1 h3
   refine .inr ⟨Qz.1 h1,h2,by omega,fun t ht=>(trn_of (h4 t ht)).2,fun hk t ht=>?_,fun hk t ht=>?_⟩
   · have:=(trn_of (h4 t ht)).1
     rw [if_pos hk,if_pos hk] at this; exact this
   · have:=(trn_of (h4 t ht)).1
     rw [if_neg hk,if_neg hk] at this; omega
theorem tot_of {s:Stl} {i:Nat} {x:Stg} (hi:s.stages[i]?=some x) (h:Xu s i=true):TotOk x∧(x.kind=1→0<totI x∧totI x≤800):=by
 rcases Yc hi h with ⟨h1,h2,-⟩ | ⟨h1,h2,h3,h4,h5,h6⟩
 · refine ⟨⟨by rw [h2]; simp,by rw [h2]; simp⟩,fun h=>by omega⟩
 · refine ⟨⟨by omega,fun t ht=>?_⟩,fun hk=>?_⟩
   · by_cases hk:x.kind=1
     · have:=h5 hk t ht; omega
     · have:=h6 hk t ht; omega
   · have b:=tot_bd (l:=x.turns) (B:=100) fun t ht=>by have:=h5 hk t ht; omega
     obtain ⟨t,r,ht⟩:∃ t r,x.turns=t :: r:=by
      cases e:x.turns with
      | nil=>rw [e] at h3; simp at h3
      | cons t r=>exact ⟨t,r,rfl⟩
     have b1:=h5 hk t (by rw [ht]; simp)
     have b2:=tot_bd (l:=r) (B:=100) fun t' ht'=>by have:=h5 hk t' (by rw [ht]; simp [ht']); omega
     rw [totI]
     have:(x.turns.map (·.w)).sum=t.w+(r.map (·.w)).sum:=by rw [ht]; simp
     omega
theorem measure_ok (s:Stl) (i:Nat) (me mu:List Int) (ga gb:Nat) (h:i<s.stages.length∧Xu s i=true∧MeOk s i me∧mu.length=s.stages.length) :
 Lent Try.prog 135 [.ptr 0 0 0,.int .i64 (i:Int)] [⟨true,0,1,false,[.rsl (Qe s.stages) 0 s.stages.length,.rsl (rowI s.worth) 0 s.worth.length,.int .i64 s.price,.sl 1 ga 0 me.length 1,.sl 2 gb 0 mu.length 1],false⟩,⟨true,ga,1,true,rowI me,true⟩,⟨true,gb,1,true,rowI mu,true⟩]
  (.bool (QF (s.stages.getD i ⟨0,0,[]⟩) i me mu).1) [⟨true,0,1,false,[.rsl (Qe s.stages) 0 s.stages.length,.rsl (rowI s.worth) 0 s.worth.length,.int .i64 s.price,.sl 1 ga 0 me.length 1,.sl 2 gb 0 mu.length 1],false⟩,⟨true,ga,1,true,rowI (QF (s.stages.getD i ⟨0,0,[]⟩) i me mu).2.1,true⟩,⟨true,gb,1,true,rowI (QF (s.stages.getD i ⟨0,0,[]⟩) i me mu).2.2,true⟩]:=by
 refine yC _ Try.func135 f135b rfl rfl fun E hE=>?_
 obtain ⟨hi',hf,hme,hmu⟩:=h
 have hi:s.stages[i]?=some s.stages[i]:=List.getElem?_eq_getElem hi'
 have hx:s.stages.getD i ⟨0,0,[]⟩=s.stages[i]:=by simp [List.getD,hi]
 rw [hx] at hE
 have hto:=tot_of hi hf
 have hfo:=Yc hi hf
 generalize s.stages[i]=x at hi hx hE hto hfo
 have en:Int.toNat (i:Int)=i:=by omega
 have hmi:mu[i]?=some mu[i]:=List.getElem?_eq_getElem (by omega)
 have hei:me[i]?=some (me[i]'(by rw [hme.len]; exact hi')):=List.getElem?_eq_getElem (by rw [hme.len]; exact hi')
 have key:∀ (d k:Nat) (m:Int) (ok:Bool),k+d=x.turns.length→(0<m∧m≤1000000000000)→ok=true→Vp me 1 x.turns=Vp me m (x.turns.drop k)→f135G0 E i s me mu ga gb x.turns x.turns.length x.kind x.prize x.turns m ok k:=by
  intro d
  induction d with
  | zero =>
   intro k m ok hd hm ho hk
   rw [List.drop_eq_nil_of_le (by omega),Vp] at hk
   refine f135W0 i s me mu ga gb x.turns x.turns.length x.kind x.prize x.turns m ok k (rv:=(QF x i me mu).1) (me2:=(QF x i me mu).2.1) (mu2:=(QF x i me mu).2.2) hE ⟨fun h=>by omega,fun _=>⟨by omega,_,by rw [en]; exact hmi,by omega,_,by rw [en]; exact hei,fun hk1=>⟨hto.1,by have:=hto.2 hk1; exact ⟨by omega,this.1⟩,by omega,m,?_,?_,?_,?_⟩,fun hk1=>⟨?_,?_,?_⟩⟩⟩
   · rw [en,List.getElem?_set_self (by rw [hme.len]; exact hi')]
   · simp only [QF,hk,if_pos hk1]
   · simp only [QF,hk,if_pos hk1,en,List.set_set]
   · simp only [QF,hk,if_pos hk1,en]
   · simp only [QF,hk,if_neg hk1,ho]
   · simp only [QF,hk,if_neg hk1,en]
   · simp only [QF,hk,if_neg hk1,en]
  | succ d ih =>
   intro k m ok hd hm ho hk
   have hkk:x.turns[k]?=some x.turns[k]:=List.getElem?_eq_getElem (by omega)
   rw [List.drop_eq_getElem_cons (by omega)] at hk
   have htm:=List.mem_of_getElem? hkk
   generalize x.turns[k]=t at hk hkk htm
   have ht:(i:Int)+1≤t.to∧t.to≤(s.stages.length:Int) - 1:=by
    rcases hfo with ⟨-,h2,-⟩ | ⟨-,-,-,h4,-,-⟩
    · rw [h2] at htm; simp at htm
    · exact h4 t htm
   have htl:x.turns.length≤8:=by
    rcases hfo with ⟨-,h2,-⟩ | ⟨-,-,h3,-,-,-⟩
    · rw [h2]; simp
    · exact h3.2
   have hg:me[Int.toNat t.to]?=some (me.getD (Int.toNat t.to) 0):=by simp [List.getD,show Int.toNat t.to<me.length by rw [hme.len]; omega]
   have hv:=hme.pos _ _ (by omega) hg
   simp only [Vp] at hk
   generalize me.getD (Int.toNat t.to) 0=n at hg hv hk
   have pl:=prod_lcm hm.1 hv.1
   have lp:=lcm_pos hm.1 hv.1
   obtain ⟨l1,l2,l3,l4,l5⟩:=lcm_eq hm.1 hv.1
   have hgp:=gcd_pos (b:=n) hm.1 (by omega)
   have e:iMax (gcdI m n) 1=gcdI m n:=by simp only [iMax]; split <;> omega
   refine f135W0 i s me mu ga gb x.turns x.turns.length x.kind x.prize x.turns m ok k (rv:=(QF x i me mu).1) (me2:=(QF x i me mu).2.1) (mu2:=(QF x i me mu).2.2) hE ⟨fun _=>⟨t,hkk,by omega,n,hg,⟨by omega,by omega⟩,by rw [e]; omega,by rw [e]; omega,⟨by rw [e]; omega,hv.1⟩,fun h1=>?_,fun h1=>⟨by omega,?_⟩⟩,fun h=>by omega⟩
   · rw [pl] at h1
     split at h1
     · rename_i h2
       rw [if_pos h2] at hk
       simp [QF,hk]
     · simp at h1
   · rw [pl] at h1 ⊢
     split at h1
     · simp at h1
     · rename_i h2
       rw [if_neg h2] at hk
       simp only [if_neg h2]
       exact ih (k+1) (lcmI m n) true (by omega) (by omega) rfl hk
 refine f135W i s me mu ga gb (rv:=(QF x i me mu).1) (me2:=(QF x i me mu).2.1) (mu2:=(QF x i me mu).2.2) hE ⟨by omega,x,by rw [en]; exact hi,key x.turns.length 0 1 true (by omega) (by omega) rfl (by simp)⟩
theorem meas_next {s:Stl} {i:Nat} {x:Stg} {me mu:List Int} (hi:s.stages[i]?=some x) (hf:Xu s i=true) (hme:MeOk s i me) (h:(QF x i me mu).1=true) :
 (QF x i me mu).2.1.length=s.stages.length∧(QF x i me mu).2.2.length=mu.length∧∀ (j:Nat) (v:Int),i≤j→(QF x i me mu).2.1[j]?=some v→0<v∧v≤1000000000000:=by
 have hlt:=(List.getElem?_eq_some_iff.1 hi).1
 have hto:=tot_of hi hf
 have hfo:=Yc hi hf
 have mb:∀ (l:List Trn) (m m':Int),(∀ t ∈ l,t ∈ x.turns)→(0<m∧m≤1000000000000)→Vp me m l=some m'→0<m'∧m'≤1000000000000:=by
  intro l
  induction l with
  | nil=>intro m m' _ hm h; simp only [Vp,Option.some.injEq] at h; subst h; exact hm
  | cons t l ih =>
   intro m m' hl hm h
   have htm:=hl t (by simp)
   have ht:(i:Int)+1≤t.to∧t.to≤(s.stages.length:Int) - 1:=by
    rcases hfo with ⟨-,h2,-⟩ | ⟨-,-,-,h4,-,-⟩
    · rw [h2] at htm; simp at htm
    · exact h4 t htm
   have hg:me[Int.toNat t.to]?=some (me.getD (Int.toNat t.to) 0):=by simp [List.getD,show Int.toNat t.to<me.length by rw [hme.len]; omega]
   have hv:=hme.pos _ _ (by omega) hg
   simp only [Vp] at h
   split at h
   · cases h
   · exact ih _ _ (fun t ht=>hl t (by simp [ht])) ⟨lcm_pos hm.1 hv.1,by omega⟩ h
 have fin:∀ (w:Int),0<w∧w≤1000000000000→∀ (j:Nat) (v:Int),i≤j→(me.set i w)[j]?=some v→0<v∧v≤1000000000000:=fun w hw j v hj hv=>by
  by_cases e:i=j
  · subst e
    rw [List.getElem?_set_self (by rw [hme.len]; exact hlt)] at hv
    cases hv; exact hw
  · rw [List.getElem?_set_ne e] at hv
    exact hme.pos j v (by omega) hv
 cases hm:Vp me 1 x.turns with
 | none=>simp [QF,hm] at h
 | some m =>
  have hb:=mb x.turns 1 m (fun _ h=>h) (by omega) hm
  simp only [QF,hm] at h ⊢
  by_cases hk:x.kind=1
  · simp only [if_pos hk] at h ⊢
    have ht:=hto.2 hk
    refine ⟨by simp [hme.len],by simp,fin _ ?_⟩
    rcases prod_of (a:=m) (b:=totI x) (by omega) ht.1 with ⟨h1,h2⟩ | ⟨h1,h2⟩
    · rw [h1] at h; cases h
    · rw [h1]; exact ⟨Int.mul_pos hb.1 ht.1,h2⟩
  · simp only [if_neg hk] at h ⊢
    exact ⟨by simp [hme.len],by simp,fin _ hb⟩
/-- All measures,from the stage before 'i' on. -/
def measN (s:Stl):Nat→List Int→List Int→Option (List Int × List Int)
 | 0,me,mu=>some (me,mu)
 | i+1,me,mu=>if (QF (s.stages.getD i ⟨0,0,[]⟩) i me mu).1=true then measN s i (QF (s.stages.getD i ⟨0,0,[]⟩) i me mu).2.1 (QF (s.stages.getD i ⟨0,0,[]⟩) i me mu).2.2 else none
def qm (n:Nat):List Int:=List.replicate n 0
def measA (s:Stl):Option (List Int × List Int):=measN s s.stages.length (qm s.stages.length) (qm s.stages.length)
end Go.Proofs.Ytemklbioijmjiaa
namespace Go.Proofs.Ytemklbioijmjiaa
open Go Ax
open Go.Proofs
theorem WL (s:Stl) (i:Int) (me mu:List Int) (ga gb:Nat) (h:0≤i∧Int.toNat i<s.stages.length∧Xu s (Int.toNat i)=true∧MeOk s (Int.toNat i) me∧mu.length=s.stages.length) :
 Lent Try.prog 135 [.ptr 0 0 0,.int .i64 i] [⟨true,0,1,false,[.rsl (Qe s.stages) 0 s.stages.length,.rsl (rowI s.worth) 0 s.worth.length,.int .i64 s.price,.sl 1 ga 0 me.length 1,.sl 2 gb 0 mu.length 1],false⟩,⟨true,ga,1,true,rowI me,true⟩,⟨true,gb,1,true,rowI mu,true⟩]
  (.bool (QF (s.stages.getD (Int.toNat i) ⟨0,0,[]⟩) (Int.toNat i) me mu).1) [⟨true,0,1,false,[.rsl (Qe s.stages) 0 s.stages.length,.rsl (rowI s.worth) 0 s.worth.length,.int .i64 s.price,.sl 1 ga 0 me.length 1,.sl 2 gb 0 mu.length 1],false⟩,⟨true,ga,1,true,rowI (QF (s.stages.getD (Int.toNat i) ⟨0,0,[]⟩) (Int.toNat i) me mu).2.1,true⟩,⟨true,gb,1,true,rowI (QF (s.stages.getD (Int.toNat i) ⟨0,0,[]⟩) (Int.toNat i) me mu).2.2,true⟩]:=by
 have:=measure_ok s (Int.toNat i) me mu ga gb h.2
 rwa [show ((Int.toNat i:Nat):Int)=i by have:=h.1; omega] at this
theorem measK_len1 {x:Stg} {i:Nat} {me mu:List Int}:(QF x i me mu).2.1.length=me.length:=by
 simp only [QF]; split
 · rfl
 · split <;> simp
theorem measK_len2 {x:Stg} {i:Nat} {me mu:List Int}:(QF x i me mu).2.2.length=mu.length:=by
 simp only [QF]; split
 · rfl
 · split <;> simp
theorem f65b:Try.f65.body=some (Qb Try.prog 65):=by kernel_rfl
theorem u65 {a c k:List AV} {r:AV} (h:Pure Try.prog 65 (a++c++k) r):Qi Try.prog (.clos 65 a k) c r:=Qk Try.func65 (by kernel_rfl) f65b h
def f65K0 (P:Program):List Item:=kAt 400 [.code (Qb P 65)] [.b false,.stop]
def f65S0 (s:Stl) (i:Nat):St:=⟨([J,.ptr 0 0 0,J,J,.int .i64 (s.stages.length:Int)]++jj 30 ([.int .i64 (s.stages.length:Int),.int .i64 (i:Int)]++Js 25)),[⟨true,0,1,true,[.rsl (Qe s.stages) 0 s.stages.length,.rsl (rowI s.worth) 0 s.worth.length,.int .i64 s.price],false⟩]⟩
def f65G0 (E:Env) (s:Stl) (i:Nat):Prop:=G Try.prog E (f65K0 Try.prog) (f65S0 s i )
def f65K1 (P:Program):List Item:=kAt 400 [.code (Qb P 65)] [.b false,.b false,.stop]
def f65S1 (s:Stl) (v1:List Int) (v2:List Int) (i:Int) (g1:Nat) (g2:Nat):St:=⟨(jj 7 ([.ptr 3 0 0,.int .i64 i]++Js 53)),[⟨true,0,1,true,[.rsl (Qe s.stages) 0 s.stages.length,.rsl (rowI s.worth) 0 s.worth.length,.int .i64 s.price],false⟩,⟨true,g1,1,true,(rowI v1),true⟩,⟨true,g2,1,true,(rowI v2),true⟩,⟨true,0,1,false,[.rsl (Qe s.stages) 0 s.stages.length,.rsl (rowI s.worth) 0 s.worth.length,.int .i64 s.price,.sl 1 g1 0 v1.length 1,.sl 2 g2 0 v2.length 1],false⟩]⟩
def f65G1 (E:Env) (s:Stl) (v1:List Int) (v2:List Int) (i:Int):Prop:=∀ g1 g2:Nat,G Try.prog E (f65K1 Try.prog) (f65S1 s v1 v2 i g1 g2)
theorem p65_start_0 (s:Stl) {E:Env} {res:AV} (hE:Qg Try.prog 65 res E) (ho:AllP [Qi Try.prog (.clos 69 [] []) [.int .i64 (s.stages.length:Int),.int .i64 1,.int .i64 60] (.bool (Qd (s.stages.length:Int) 1 60)),(!(Qd (s.stages.length:Int) 1 60))=true,true=true,true=true,true=true])
 (hr:AvLe (.tup [.nilPtr,.bool false]) res):G Try.prog E [.code (Qb Try.prog 65)] ⟨[.agg [.rsl (Qe s.stages) 0 s.stages.length,.rsl (rowI s.worth) 0 s.worth.length,.int .i64 s.price]]++unds (Try.f65.ntmps - 1),[]⟩ :=
 Qa (n:=400) (evs:=[.v (.bool (Qd (s.stages.length:Int) 1 60)),.b true,.b true,.b true,.b true]) (obs:=_) hE Try.func65 Qo (by kernel_rfl) ho hr
theorem p65_start_1 (s:Stl) {E:Env} {res:AV} (hE:Qg Try.prog 65 res E) (ho:AllP [Qi Try.prog (.clos 69 [] []) [.int .i64 (s.stages.length:Int),.int .i64 1,.int .i64 60] (.bool (Qd (s.stages.length:Int) 1 60)),(!(Qd (s.stages.length:Int) 1 60))=false,(decide ((s.worth.length:Int) > 8))=true,true=true,true=true])
 (hr:AvLe (.tup [.nilPtr,.bool false]) res):G Try.prog E [.code (Qb Try.prog 65)] ⟨[.agg [.rsl (Qe s.stages) 0 s.stages.length,.rsl (rowI s.worth) 0 s.worth.length,.int .i64 s.price]]++unds (Try.f65.ntmps - 1),[]⟩ :=
 Qa (n:=400) (evs:=[.v (.bool (Qd (s.stages.length:Int) 1 60)),.b false,.b true,.b true,.b true]) (obs:=_) hE Try.func65 Qo (by kernel_rfl) ho hr
theorem p65_start_2 (s:Stl) {E:Env} {res:AV} (hE:Qg Try.prog 65 res E) (ho:AllP [Qi Try.prog (.clos 69 [] []) [.int .i64 (s.stages.length:Int),.int .i64 1,.int .i64 60] (.bool (Qd (s.stages.length:Int) 1 60)),(!(Qd (s.stages.length:Int) 1 60))=false,(decide ((s.worth.length:Int) > 8))=false,Qi Try.prog (.clos 76 [] []) [.rsl (rowI s.worth) 0 s.worth.length,.clos 133 [] []] (.bool (s.worth.any (fun n=>!Qd n 0 10000))),(s.worth.any (fun n=>!Qd n 0 10000))=true,true=true])
 (hr:AvLe (.tup [.nilPtr,.bool false]) res):G Try.prog E [.code (Qb Try.prog 65)] ⟨[.agg [.rsl (Qe s.stages) 0 s.stages.length,.rsl (rowI s.worth) 0 s.worth.length,.int .i64 s.price]]++unds (Try.f65.ntmps - 1),[]⟩ :=
 Qa (n:=400) (evs:=[.v (.bool (Qd (s.stages.length:Int) 1 60)),.b false,.b false,.v (.bool (s.worth.any (fun n=>!Qd n 0 10000))),.b true,.b true]) (obs:=_) hE Try.func65 Qo (by kernel_rfl) ho hr
theorem p65_start_3 (s:Stl) {E:Env} {res:AV} (hE:Qg Try.prog 65 res E) (ho:AllP [Qi Try.prog (.clos 69 [] []) [.int .i64 (s.stages.length:Int),.int .i64 1,.int .i64 60] (.bool (Qd (s.stages.length:Int) 1 60)),(!(Qd (s.stages.length:Int) 1 60))=false,(decide ((s.worth.length:Int) > 8))=false,Qi Try.prog (.clos 76 [] []) [.rsl (rowI s.worth) 0 s.worth.length,.clos 133 [] []] (.bool (s.worth.any (fun n=>!Qd n 0 10000))),(s.worth.any (fun n=>!Qd n 0 10000))=false,Qi Try.prog (.clos 133 [] []) [.int .i64 s.price] (.bool (!Qd s.price 0 10000)),(!Qd s.price 0 10000)=true])
 (hr:AvLe (.tup [.nilPtr,.bool false]) res):G Try.prog E [.code (Qb Try.prog 65)] ⟨[.agg [.rsl (Qe s.stages) 0 s.stages.length,.rsl (rowI s.worth) 0 s.worth.length,.int .i64 s.price]]++unds (Try.f65.ntmps - 1),[]⟩ :=
 Qa (n:=400) (evs:=[.v (.bool (Qd (s.stages.length:Int) 1 60)),.b false,.b false,.v (.bool (s.worth.any (fun n=>!Qd n 0 10000))),.b false,.v (.bool (!Qd s.price 0 10000)),.b true]) (obs:=_) hE Try.func65 Qo (by kernel_rfl) ho hr
theorem p65_start_4 (s:Stl) {E:Env} {rv:AV} (hE:Qg Try.prog 65 rv E) (ho:AllP [Qi Try.prog (.clos 69 [] []) [.int .i64 (s.stages.length:Int),.int .i64 1,.int .i64 60] (.bool (Qd (s.stages.length:Int) 1 60)),(!(Qd (s.stages.length:Int) 1 60))=false,(decide ((s.worth.length:Int) > 8))=false,Qi Try.prog (.clos 76 [] []) [.rsl (rowI s.worth) 0 s.worth.length,.clos 133 [] []] (.bool (s.worth.any (fun n=>!Qd n 0 10000))),(s.worth.any (fun n=>!Qd n 0 10000))=false,Qi Try.prog (.clos 133 [] []) [.int .i64 s.price] (.bool (!Qd s.price 0 10000)),(!Qd s.price 0 10000)=false])
 (hg:G Try.prog E (f65K0 Try.prog) ⟨([J,.ptr 0 0 0,J,J,.int .i64 (s.stages.length:Int)]++jj 30 ([.int .i64 (s.stages.length:Int),.int .i64 0]++Js 25)),[⟨true,0,1,true,[.rsl (Qe s.stages) 0 s.stages.length,.rsl (rowI s.worth) 0 s.worth.length,.int .i64 s.price],false⟩]⟩):G Try.prog E [.code (Qb Try.prog 65)] ⟨[.agg [.rsl (Qe s.stages) 0 s.stages.length,.rsl (rowI s.worth) 0 s.worth.length,.int .i64 s.price]]++unds (Try.f65.ntmps - 1),[]⟩ :=
 Qh (n:=400) (ds:=[]) (cs:=[]) (live:=[1,4,35,36]) (m:=1) (evs:=[.v (.bool (Qd (s.stages.length:Int) 1 60)),.b false,.b false,.v (.bool (s.worth.any (fun n=>!Qd n 0 10000))),.b false,.v (.bool (!Qd s.price 0 10000)),.b false,.stop]) (obs:=_) hE.2.1 (hE.nogh _) Qo (by kernel_rfl) ho hg
theorem f65W (s:Stl) {E:Env} {rv:AV} (hE:Qg Try.prog 65 rv E)
 (h:(((Qd (s.stages.length:Int) 1 60)=false→rv=(.tup [.nilPtr,.bool false]))∧((Qd (s.stages.length:Int) 1 60)=true→(((s.worth.length:Int) > 8→rv=(.tup [.nilPtr,.bool false]))∧(¬ ((s.worth.length:Int) > 8)→((s.worth.length≤9223372036854775807)∧(((s.worth.any (fun n=>!Qd n 0 10000))=true→rv=(.tup [.nilPtr,.bool false]))∧((s.worth.any (fun n=>!Qd n 0 10000))=false→(((!Qd s.price 0 10000)=true→rv=(.tup [.nilPtr,.bool false]))∧((!Qd s.price 0 10000)=false→f65G0 E s 0)))))))))):G Try.prog E [.code (Qb Try.prog 65)] ⟨[.agg [.rsl (Qe s.stages) 0 s.stages.length,.rsl (rowI s.worth) 0 s.worth.length,.int .i64 s.price]]++unds (Try.f65.ntmps - 1),[]⟩:=by
 rcases bft (!(Qd (s.stages.length:Int) 1 60)) with hc0 | hc0
 · have h:=h.1 (bnT hc0)
   exact p65_start_0 s hE ⟨(u69 (Qx (s.stages.length:Int) 1 60)),hc0,rfl,rfl,rfl,trivial⟩ (AvLe.of_eq (by rw [h]; try rfl))
 · have h:=h.2 (bnF hc0)
   rcases bft (decide ((s.worth.length:Int) > 8)) with hc1 | hc1
   · have h:=h.1 (odt hc1)
     exact p65_start_1 s hE ⟨(u69 (Qx (s.stages.length:Int) 1 60)),hc0,hc1,rfl,rfl,trivial⟩ (AvLe.of_eq (by rw [h]; try rfl))
   · have h:=h.2 (odf hc1)
     obtain ⟨h1,h⟩:=h
     rcases bft (s.worth.any (fun n=>!Qd n 0 10000)) with hc2 | hc2
     · have h:=h.1 hc2
       exact p65_start_2 s hE ⟨(u69 (Qx (s.stages.length:Int) 1 60)),hc0,hc1,(u76 (anyB_ok s.worth h1)),hc2,rfl,trivial⟩ (AvLe.of_eq (by rw [h]; try rfl))
     · have h:=h.2 hc2
       rcases bft (!Qd s.price 0 10000) with hc3 | hc3
       · have h:=h.1 hc3
         exact p65_start_3 s hE ⟨(u69 (Qx (s.stages.length:Int) 1 60)),hc0,hc1,(u76 (anyB_ok s.worth h1)),hc2,(u133 (bad_ok s.price)),hc3,trivial⟩ (AvLe.of_eq (by rw [h]; try rfl))
       · have h:=h.2 hc3
         exact p65_start_4 s hE ⟨(u69 (Qx (s.stages.length:Int) 1 60)),hc0,hc1,(u76 (anyB_ok s.worth h1)),hc2,(u133 (bad_ok s.price)),hc3,trivial⟩ h
theorem p65_0_0 (s:Stl) (i:Nat) {E:Env} {res:AV} (hE:Qg Try.prog 65 res E) (ho:AllP [(decide ((i:Int)<(s.stages.length:Int)))=true,Qi Try.prog (.clos 134 [] []) [.agg [.rsl (Qe s.stages) 0 s.stages.length,.rsl (rowI s.worth) 0 s.worth.length,.int .i64 s.price],.int .i64 (i:Int)] (.bool (Xu s i)),(!(Xu s i))=true])
 (hr:AvLe (.tup [.nilPtr,.bool false]) res):G Try.prog E (f65K0 Try.prog) (f65S0 s i ) :=
 Qa (n:=400) (evs:=[.b true,.v (.bool (Xu s i)),.b true]) (obs:=_) hE Try.func65 Qo (by kernel_rfl) ho hr
theorem p65_0_1 (s:Stl) (i:Nat) {E:Env} {rv:AV} (hE:Qg Try.prog 65 rv E) (ho:AllP [(decide ((i:Int)<(s.stages.length:Int)))=true,Qi Try.prog (.clos 134 [] []) [.agg [.rsl (Qe s.stages) 0 s.stages.length,.rsl (rowI s.worth) 0 s.worth.length,.int .i64 s.price],.int .i64 (i:Int)] (.bool (Xu s i)),(!(Xu s i))=false,InR .i64 ((i:Int)+1)])
 (hg:G Try.prog E (f65K0 Try.prog) ⟨([J,.ptr 0 0 0,J,J,.int .i64 (s.stages.length:Int)]++jj 30 ([.int .i64 (s.stages.length:Int),.int .i64 ((i:Int)+1)]++Js 25)),[⟨true,0,1,true,[.rsl (Qe s.stages) 0 s.stages.length,.rsl (rowI s.worth) 0 s.worth.length,.int .i64 s.price],false⟩]⟩):G Try.prog E (f65K0 Try.prog) (f65S0 s i ) :=
 Qh (n:=400) (ds:=[]) (cs:=[]) (live:=[1,4,35,36]) (m:=1) (evs:=[.b true,.v (.bool (Xu s i)),.b false,.stop]) (obs:=_) hE.2.1 (hE.nogh _) Qo (by kernel_rfl) ho hg
theorem p65_0_2 (s:Stl) (i:Nat) {E:Env} {rv:AV} (hE:Qg Try.prog 65 rv E) (ho:AllP [(decide ((i:Int)<(s.stages.length:Int)))=false,0≤(s.stages.length:Int)∧(s.stages.length:Int)≤(s.stages.length:Int)∧(s.stages.length:Int)≤2147483648,0≤(s.stages.length:Int)∧(s.stages.length:Int)≤(s.stages.length:Int)∧(s.stages.length:Int)≤2147483648,InR .i64 ((s.stages.length:Int) - 1)])
 (hg:G Try.prog E (f65K1 Try.prog) ⟨(jj 7 ([.ptr 3 0 0,.int .i64 ((s.stages.length:Int) - 1)]++Js 53)),[⟨true,0,1,true,[.rsl (Qe s.stages) 0 s.stages.length,.rsl (rowI s.worth) 0 s.worth.length,.int .i64 s.price],false⟩,⟨true,0,1,true,((List.replicate (Int.toNat (s.stages.length:Int)) ([.int .i64 0]:List AV)).flatten),true⟩,⟨true,0,1,true,((List.replicate (Int.toNat (s.stages.length:Int)) ([.int .i64 0]:List AV)).flatten),true⟩,⟨true,0,1,false,[.rsl (Qe s.stages) 0 s.stages.length,.rsl (rowI s.worth) 0 s.worth.length,.int .i64 s.price,.sl 1 0 0 (Int.toNat (s.stages.length:Int)) 1,.sl 2 0 0 (Int.toNat (s.stages.length:Int)) 1],false⟩]⟩):G Try.prog E (f65K0 Try.prog) (f65S0 s i ) :=
 Qh (n:=400) (ds:=[]) (cs:=[]) (live:=[7,8]) (m:=4) (evs:=[.b false,.stop]) (obs:=_) hE.2.1 (hE.nogh _) Qo (by kernel_rfl) ho hg
theorem f65W0 (s:Stl) (i:Nat) {E:Env} {rv:AV} (hE:Qg Try.prog 65 rv E)
 (h:(((i:Int)<(s.stages.length:Int)→((i<s.stages.length∧s.stages.length≤1000000∧s.worth.length≤1000000)∧(((Xu s i)=false→rv=(.tup [.nilPtr,.bool false]))∧((Xu s i)=true→((I6 ((i:Int)+1))∧f65G0 E s (i+1))))))∧(¬ ((i:Int)<(s.stages.length:Int))→(s.stages.length≤2147483648∧(s.stages.length≤2147483648∧((I6 ((s.stages.length:Int) - 1))∧f65G1 E s (List.replicate s.stages.length (0:Int)) (List.replicate s.stages.length (0:Int)) ((s.stages.length:Int) - 1))))))):f65G0 E s i:=by
 rcases bft (decide ((i:Int)<(s.stages.length:Int))) with hc0 | hc0
 · have h:=h.1 (odt hc0)
   obtain ⟨h1,h⟩:=h
   rcases bft (!(Xu s i)) with hc1 | hc1
   · have h:=h.1 (bnT hc1)
     exact p65_0_0 s i hE ⟨hc0,(u134 (formed_ok s i h1)),hc1,trivial⟩ (AvLe.of_eq (by rw [h]; try rfl))
   · have h:=h.2 (bnF hc1)
     obtain ⟨q3_2,h⟩:=h
     exact p65_0_1 s i hE ⟨hc0,(u134 (formed_ok s i h1)),hc1,q3_2,trivial⟩ h
 · have h:=h.2 (odf hc0)
   obtain ⟨h1,h⟩:=h
   obtain ⟨h2,h⟩:=h
   obtain ⟨q3_1,h⟩:=h
   refine p65_0_2 s i hE ⟨hc0,⟨by omega,by omega,by have:=h1; omega⟩,⟨by omega,by omega,by have:=h2; omega⟩,q3_1,trivial⟩ ?_
   have h:=(h 0 0)
   simp only [f65G1,f65S1,List.length_set,List.length_replicate] at h
   rw [(show (List.replicate (Int.toNat (s.stages.length:Int)) ([.int .i64 0]:List AV)).flatten=rowI (List.replicate s.stages.length (0:Int)) from Vf cI _ _)]
   exact h
theorem p65_1_0 (s:Stl) (v1:List Int) (v2:List Int) (i:Int) (g1:Nat) (g2:Nat) {E:Env} {res:AV} (hE:Qg Try.prog 65 res E) (ho:AllP [(decide (i≥0))=true,YF Try.prog (.clos 135 [] []) [.ptr 0 0 0,.int .i64 i] [⟨true,0,1,false,[.rsl (Qe s.stages) 0 s.stages.length,.rsl (rowI s.worth) 0 s.worth.length,.int .i64 s.price,.sl 1 g1 0 v1.length 1,.sl 2 g2 0 v2.length 1],false⟩,⟨true,g1,1,true,(rowI v1),true⟩,⟨true,g2,1,true,(rowI v2),true⟩] (.bool ((QF (s.stages.getD (Int.toNat i) ⟨0,0,[]⟩) (Int.toNat i) v1 v2).1)) [⟨true,0,1,false,[.rsl (Qe s.stages) 0 s.stages.length,.rsl (rowI s.worth) 0 s.worth.length,.int .i64 s.price,.sl 1 g1 0 v1.length 1,.sl 2 g2 0 v2.length 1],false⟩,⟨true,g1,1,true,(rowI (QF (s.stages.getD (Int.toNat i) ⟨0,0,[]⟩) (Int.toNat i) v1 v2).2.1),true⟩,⟨true,g2,1,true,(rowI (QF (s.stages.getD (Int.toNat i) ⟨0,0,[]⟩) (Int.toNat i) v1 v2).2.2),true⟩],(!(QF (s.stages.getD (Int.toNat i) ⟨0,0,[]⟩) (Int.toNat i) v1 v2).1)=true])
 (hr:AvLe (.tup [.nilPtr,.bool false]) res):G Try.prog E (f65K1 Try.prog) (f65S1 s v1 v2 i g1 g2) :=
 Qa (n:=400) (evs:=[.b true,.lent [3,1,2] (.bool ((QF (s.stages.getD (Int.toNat i) ⟨0,0,[]⟩) (Int.toNat i) v1 v2).1)) [⟨true,0,1,false,[.rsl (Qe s.stages) 0 s.stages.length,.rsl (rowI s.worth) 0 s.worth.length,.int .i64 s.price,.sl 1 g1 0 v1.length 1,.sl 2 g2 0 v2.length 1],false⟩,⟨true,g1,1,true,(rowI (QF (s.stages.getD (Int.toNat i) ⟨0,0,[]⟩) (Int.toNat i) v1 v2).2.1),true⟩,⟨true,g2,1,true,(rowI (QF (s.stages.getD (Int.toNat i) ⟨0,0,[]⟩) (Int.toNat i) v1 v2).2.2),true⟩],.b true]) (obs:=_) hE Try.func65 Qo (by kernel_rfl) ho hr
theorem p65_1_1 (s:Stl) (v1:List Int) (v2:List Int) (i:Int) (g1:Nat) (g2:Nat) {E:Env} {rv:AV} (hE:Qg Try.prog 65 rv E) (ho:AllP [(decide (i≥0))=true,YF Try.prog (.clos 135 [] []) [.ptr 0 0 0,.int .i64 i] [⟨true,0,1,false,[.rsl (Qe s.stages) 0 s.stages.length,.rsl (rowI s.worth) 0 s.worth.length,.int .i64 s.price,.sl 1 g1 0 v1.length 1,.sl 2 g2 0 v2.length 1],false⟩,⟨true,g1,1,true,(rowI v1),true⟩,⟨true,g2,1,true,(rowI v2),true⟩] (.bool ((QF (s.stages.getD (Int.toNat i) ⟨0,0,[]⟩) (Int.toNat i) v1 v2).1)) [⟨true,0,1,false,[.rsl (Qe s.stages) 0 s.stages.length,.rsl (rowI s.worth) 0 s.worth.length,.int .i64 s.price,.sl 1 g1 0 v1.length 1,.sl 2 g2 0 v2.length 1],false⟩,⟨true,g1,1,true,(rowI (QF (s.stages.getD (Int.toNat i) ⟨0,0,[]⟩) (Int.toNat i) v1 v2).2.1),true⟩,⟨true,g2,1,true,(rowI (QF (s.stages.getD (Int.toNat i) ⟨0,0,[]⟩) (Int.toNat i) v1 v2).2.2),true⟩],(!(QF (s.stages.getD (Int.toNat i) ⟨0,0,[]⟩) (Int.toNat i) v1 v2).1)=false,InR .i64 (i - 1)])
 (hg:G Try.prog E (f65K1 Try.prog) ⟨(jj 7 ([.ptr 3 0 0,.int .i64 (i - 1)]++Js 53)),[⟨true,0,1,true,[.rsl (Qe s.stages) 0 s.stages.length,.rsl (rowI s.worth) 0 s.worth.length,.int .i64 s.price],false⟩,⟨true,g1,1,true,(rowI (QF (s.stages.getD (Int.toNat i) ⟨0,0,[]⟩) (Int.toNat i) v1 v2).2.1),true⟩,⟨true,g2,1,true,(rowI (QF (s.stages.getD (Int.toNat i) ⟨0,0,[]⟩) (Int.toNat i) v1 v2).2.2),true⟩,⟨true,0,1,false,[.rsl (Qe s.stages) 0 s.stages.length,.rsl (rowI s.worth) 0 s.worth.length,.int .i64 s.price,.sl 1 g1 0 v1.length 1,.sl 2 g2 0 v2.length 1],false⟩]⟩):G Try.prog E (f65K1 Try.prog) (f65S1 s v1 v2 i g1 g2) :=
 Qh (n:=400) (ds:=[]) (cs:=[]) (live:=[7,8]) (m:=4) (evs:=[.b true,.lent [3,1,2] (.bool ((QF (s.stages.getD (Int.toNat i) ⟨0,0,[]⟩) (Int.toNat i) v1 v2).1)) [⟨true,0,1,false,[.rsl (Qe s.stages) 0 s.stages.length,.rsl (rowI s.worth) 0 s.worth.length,.int .i64 s.price,.sl 1 g1 0 v1.length 1,.sl 2 g2 0 v2.length 1],false⟩,⟨true,g1,1,true,(rowI (QF (s.stages.getD (Int.toNat i) ⟨0,0,[]⟩) (Int.toNat i) v1 v2).2.1),true⟩,⟨true,g2,1,true,(rowI (QF (s.stages.getD (Int.toNat i) ⟨0,0,[]⟩) (Int.toNat i) v1 v2).2.2),true⟩],.b false,.stop]) (obs:=_) hE.2.1 (hE.nogh _) Qo (by kernel_rfl) ho hg
theorem p65_1_2 (s:Stl) (v1:List Int) (v2:List Int) (i:Int) (g1:Nat) (g2:Nat) {E:Env} {res:AV} (hE:Qg Try.prog 65 res E) (ho:AllP [(decide (i≥0))=false,g1=g1,g2=g2])
 (hr:AvLe (.tup [.rptr [.rsl (Qe s.stages) 0 s.stages.length,.rsl (rowI s.worth) 0 s.worth.length,.int .i64 s.price,.rsl (rowI v1) 0 v1.length,.rsl (rowI v2) 0 v2.length] 0,.bool true]) res):G Try.prog E (f65K1 Try.prog) (f65S1 s v1 v2 i g1 g2) :=
 Qa (n:=400) (evs:=[.b false]) (obs:=_) hE Try.func65 Qo (by kernel_rfl) ho hr
theorem f65W1 (s:Stl) (v1:List Int) (v2:List Int) (i:Int) {E:Env} {rv:AV} (hE:Qg Try.prog 65 rv E)
 (h:((i≥0→((0≤i∧(Int.toNat i)<s.stages.length∧Xu s (Int.toNat i)=true∧MeOk s (Int.toNat i) v1∧v2.length=s.stages.length)∧(((!(QF (s.stages.getD (Int.toNat i) ⟨0,0,[]⟩) (Int.toNat i) v1 v2).1)=true→rv=(.tup [.nilPtr,.bool false]))∧((!(QF (s.stages.getD (Int.toNat i) ⟨0,0,[]⟩) (Int.toNat i) v1 v2).1)=false→((I6 (i - 1))∧f65G1 E s ((QF (s.stages.getD (Int.toNat i) ⟨0,0,[]⟩) (Int.toNat i) v1 v2).2.1) ((QF (s.stages.getD (Int.toNat i) ⟨0,0,[]⟩) (Int.toNat i) v1 v2).2.2) (i - 1))))))∧(¬ (i≥0)→rv=(.tup [.rptr [.rsl (Qe s.stages) 0 s.stages.length,.rsl (rowI s.worth) 0 s.worth.length,.int .i64 s.price,.rsl (rowI v1) 0 v1.length,.rsl (rowI v2) 0 v2.length] 0,.bool true])))):f65G1 E s v1 v2 i:=by
 intro g1 g2
 rcases bft (decide (i≥0)) with hc0 | hc0
 · have h:=h.1 (odt hc0)
   obtain ⟨h1,h⟩:=h
   rcases bft (!(QF (s.stages.getD (Int.toNat i) ⟨0,0,[]⟩) (Int.toNat i) v1 v2).1) with hc1 | hc1
   · have h:=h.1 hc1
     exact p65_1_0 s v1 v2 i g1 g2 hE ⟨hc0,(XT Try.func135 (by kernel_rfl) f135b (WL s i v1 v2 g1 g2 h1)),hc1,trivial⟩ (AvLe.of_eq (by rw [h]; try rfl))
   · have h:=h.2 hc1
     obtain ⟨q3_2,h⟩:=h
     refine p65_1_1 s v1 v2 i g1 g2 hE ⟨hc0,(XT Try.func135 (by kernel_rfl) f135b (WL s i v1 v2 g1 g2 h1)),hc1,q3_2,trivial⟩ ?_
     have h:=(h g1 g2)
     simp only [f65G1,f65S1,List.length_set,measK_len1,measK_len2] at h
     skip
     exact h
 · have h:=h.2 (odf hc0)
   exact p65_1_2 s v1 v2 i g1 g2 hE ⟨hc0,rfl,rfl,trivial⟩ (AvLe.of_eq (by rw [h]; try rfl))
/-- What a stall has to be before it is measured. -/
def VE (s:Stl):Bool:=Qd s.stages.length 1 60 && (decide ((s.worth.length:Int)≤8) && (!(s.worth.any fun n=>!Qd n 0 10000) && (Qd s.price 0 10000 && (List.range s.stages.length).all (Xu s))))
def Xx (s:Stl):Option Mch:=if VE s=true then (measA s).map fun p=>⟨s,p.1,p.2⟩ else none
def Qf (s:Stl):Mch:=(Xx s).getD ⟨s,[],[]⟩
def Vt (s:Stl):AV:=match Xx s with
 | some m=>.tup [.rptr (cMch m) 0,.bool true]
 | none=>.tup [.nilPtr,.bool false]
theorem QH {s:Stl} (h:VE s=true):(1≤s.stages.length∧s.stages.length≤60)∧s.worth.length≤8∧(∀ n ∈ s.worth,0≤n∧n≤10000)∧(0≤s.price∧s.price≤10000)∧∀ i,i<s.stages.length→Xu s i=true:=by
 simp only [VE,Bool.and_eq_true,decide_eq_true_eq,Bool.not_eq_true'] at h
 obtain ⟨h1,h2,h3,h4,h5⟩:=h
 have w1:=Qz.1 h1
 refine ⟨by omega,by omega,fun n hn=>?_,Qz.1 h4,fun i hi=>?_⟩
 · have:=(List.any_eq_false.1 h3) n hn
   exact Qz.1 (by simpa using this)
 · exact List.all_eq_true.1 h5 i (List.mem_range.2 hi)
theorem range_all {p:Nat→Bool} {n i:Nat} (hi:i<n) (h:p i=false):(List.range n).all p=false:=by
 rw [List.all_eq_false]; exact ⟨i,List.mem_range.2 hi,by simp [h]⟩
theorem Vo (s:Stl) (h:s.stages.length≤9223372036854775807∧s.worth.length≤9223372036854775807):Pure Try.prog 65 [.agg [.rsl (Qe s.stages) 0 s.stages.length,.rsl (rowI s.worth) 0 s.worth.length,.int .i64 s.price]] (Vt s):=Qs Try.func65 f65b fun E hE=>by
 have no:VE s=false→Vt s=.tup [.nilPtr,.bool false]:=fun h=>by simp [Vt,Xx,h]
 refine f65W s (rv:=Vt s) hE ⟨fun h1=>no (by simp [VE,h1]),fun h1=>⟨fun h2=>no (by simp [VE,show ¬ ((s.worth.length:Int)≤8) by omega]),fun h2=>⟨h.2,fun h3=>no (by simp only [VE,h3]; simp),fun h3=>⟨fun h4=>no (by simp at h4; simp [VE,h4]),fun h4=>?_⟩⟩⟩⟩
 have hn:=Qz.1 h1
 have loop2:VE s=true→∀ (n:Nat) (me mu:List Int),n≤s.stages.length→me.length=s.stages.length→mu.length=s.stages.length→(∀ (j:Nat) (v:Int),n≤j→me[j]?=some v→0<v∧v≤1000000000000)→measA s=measN s n me mu→f65G1 E s me mu ((n:Int) - 1):=by
  intro hp n
  obtain ⟨-,-,-,-,hform⟩:=QH hp
  induction n with
  | zero =>
   intro me mu hn hl hl2 hpos hk
   exact f65W1 s me mu _ (rv:=Vt s) hE ⟨fun h=>by omega,fun _=>by simp [Vt,Xx,hp,hk,measN,cMch]⟩
  | succ i ih =>
   intro me mu hn hl hl2 hpos hk
   have hi:s.stages[i]?=some s.stages[i]:=List.getElem?_eq_getElem (by omega)
   have hx:s.stages.getD i ⟨0,0,[]⟩=s.stages[i]:=by simp [List.getD,hi]
   have hf:=hform i (by omega)
   have hme:MeOk s i me:=⟨hl,fun j v hj hv=>hpos j v hj hv⟩
   have hnx:=fun hh=>meas_next (mu:=mu) hi hf hme hh
   have en:Int.toNat (((i+1:Nat):Int) - 1)=i:=by omega
   have ei:((i+1:Nat):Int) - 1 - 1=(i:Int) - 1:=by omega
   simp only [measN] at hk
   refine f65W1 s me mu _ (rv:=Vt s) hE ⟨fun _=>⟨⟨by omega,by rw [en]; omega,by rw [en]; exact hf,by rw [en]; exact hme,hl2⟩,fun h5=>?_,fun h5=>⟨by omega,?_⟩⟩,fun h=>by omega⟩
   · rw [en] at h5
     rw [if_neg (by simp at h5; simp [h5])] at hk
     simp [Vt,Xx,hp,hk]
   · rw [en] at h5 ⊢
     rw [ei]
     rw [hx] at h5 hk ⊢
     have t1:(QF s.stages[i] i me mu).1=true:=by simpa using h5
     rw [if_pos t1] at hk
     have q:=hnx t1
     exact ih _ _ (by omega) q.1 (by rw [q.2.1]; exact hl2) q.2.2 hk
 have loop1:∀ (d i:Nat),i+d=s.stages.length→(∀ j,j<i→Xu s j=true)→f65G0 E s i:=by
  intro d
  induction d with
  | zero =>
   intro i hd hall
   have hp:VE s=true:=by
    simp only [VE,Bool.and_eq_true,decide_eq_true_eq,Bool.not_eq_true']
    exact ⟨h1,by omega,h3,by simpa using h4,List.all_eq_true.2 fun j hj=>hall j (by have:=List.mem_range.1 hj; omega)⟩
   exact f65W0 s i (rv:=Vt s) hE ⟨fun h=>by omega,fun _=>⟨by omega,by omega,by omega,loop2 hp s.stages.length (qm s.stages.length) (qm s.stages.length) (Nat.le_refl _) (by simp [qm]) (by simp [qm]) (fun j v hj hv=>by
    have:=(List.getElem?_eq_some_iff.1 hv).1
    simp [qm] at this; omega) rfl⟩⟩
  | succ d ih =>
   intro i hd hall
   refine f65W0 s i (rv:=Vt s) hE ⟨fun _=>⟨⟨by omega,by omega,by omega⟩,fun h5=>no ?_,fun h5=>⟨by omega,ih (i+1) (by omega) (fun j hj=>?_)⟩⟩,fun h=>by omega⟩
   · rw [VE,range_all (n:=s.stages.length) (by omega) h5]; simp
   · rcases Nat.lt_or_ge j i with h | h
     · exact hall j h
     · rw [show j=i by omega]; exact h5
 exact loop1 s.stages.length 0 (by omega) (fun j hj=>by omega)
theorem YB (s:Stl) (h:s.stages.length≤9223372036854775807∧s.worth.length≤9223372036854775807) (hc:(Xx s).isSome=true):Pure Try.prog 65 [.agg [.rsl (Qe s.stages) 0 s.stages.length,.rsl (rowI s.worth) 0 s.worth.length,.int .i64 s.price]] (.tup [.rptr (cMch (Qf s)) 0,.bool true]):=by
 have:=Vo s h
 obtain ⟨m,hm⟩:=Option.isSome_iff_exists.1 hc
 rw [show Vt s=.tup [.rptr (cMch (Qf s)) 0,.bool true] by simp [Vt,Qf,hm]] at this
 exact this
theorem WK (s:Stl) (h:s.stages.length≤9223372036854775807∧s.worth.length≤9223372036854775807) (hc:(Xx s).isSome=false):Pure Try.prog 65 [.agg [.rsl (Qe s.stages) 0 s.stages.length,.rsl (rowI s.worth) 0 s.worth.length,.int .i64 s.price]] (.tup [.nilPtr,.bool false]):=by
 have:=Vo s h
 rw [show Vt s=.tup [.nilPtr,.bool false] by
  cases hm:Xx s with
  | none=>simp [Vt,hm]
  | some m=>rw [hm] at hc; simp at hc] at this
 exact this
def XS (s:Stl):Int:=if (Xx s).isSome=true then 0 else 60
end Go.Proofs.Ytemklbioijmjiaa
namespace Go.Proofs.Ytemklbioijmjiaa
open Go Ax
open Go.Proofs
def planI (l:List Int) (i:Int):Int:=l.getD (Int.toNat i) 0
end Go.Proofs.Ytemklbioijmjiaa
namespace Go.Proofs.Ytemklbioijmjiaa
open Go Ax
open Go.Proofs
/-! ### What is so of a machine -/
structure MInv (s:Stl) (i:Nat) (me mu:List Int):Prop where
 l1:me.length=s.stages.length
 l2:mu.length=s.stages.length
 pos:∀ (j:Nat) (v:Int),i≤j→me[j]?=some v→0<v∧v≤1000000000000
 rel:∀ (j:Nat) (x:Stg),i≤j→s.stages[j]?=some x→∃ q,mu[j]?=some q∧me[j]?=some (if x.kind=1 then q*totI x else q)∧(0<q∧q≤1000000000000)∧∀ t ∈ x.turns,me.getD (Int.toNat t.to) 0∣q
theorem getD_set_ne {l:List Int} {i k:Nat} {v:Int} (h:i ≠ k):(l.set i v).getD k 0=l.getD k 0:=by
 simp [List.getD,List.getElem?_set_ne h]
theorem multI_dvd {me:List Int}:∀ {l:List Trn} {m q:Int},(∀ t ∈ l,0<me.getD (Int.toNat t.to) 0)→(0<m∧m≤1000000000000)→Vp me m l=some q→(0<q∧q≤1000000000000)∧m∣q∧∀ t ∈ l,me.getD (Int.toNat t.to) 0∣q
 | [],m,q,_,hm,h=>by
  simp only [Vp,Option.some.injEq] at h; subst h
  exact ⟨hm,Int.dvd_refl _,by simp⟩
 | t :: l,m,q,hp,hm,h=>by
  simp only [Vp] at h
  split at h
  · cases h
  · rename_i h1
    have hv:=hp t (by simp)
    have lp:=lcm_pos hm.1 hv
    obtain ⟨a,b,c⟩:=multI_dvd (fun t ht=>hp t (by simp [ht])) ⟨lp,by omega⟩ h
    have e1:m∣lcmI m (me.getD (Int.toNat t.to) 0):=⟨_,rfl⟩
    have e2:me.getD (Int.toNat t.to) 0∣lcmI m (me.getD (Int.toNat t.to) 0):=⟨Int.tdiv m (gcdI m (me.getD (Int.toNat t.to) 0)),by rw [lcmI,← (lcm_eq hm.1 hv).1,Int.mul_comm]⟩
    refine ⟨a,Int.dvd_trans e1 b,fun t' ht'=>?_⟩
    rcases List.mem_cons.1 ht' with rfl | ht'
    · exact Int.dvd_trans e2 b
    · exact c t' ht'
theorem YA {s:Stl} {i:Nat} {x:Stg} (hi:s.stages[i]?=some x) (hf:Xu s i=true):∀ t ∈ x.turns,i<Int.toNat t.to∧Int.toNat t.to<s.stages.length∧0≤t.to:=fun t htm=>by
 rcases Yc hi hf with ⟨-,h2,-⟩ | ⟨-,-,-,h4,-,-⟩
 · rw [h2] at htm; simp at htm
 · have:=h4 t htm; omega
theorem minv_step {s:Stl} {i:Nat} {x:Stg} {me mu:List Int} (hform:∀ j,j<s.stages.length→Xu s j=true) (hi:s.stages[i]?=some x) (h:MInv s (i+1) me mu) (hk:(QF x i me mu).1=true) :
 MInv s i (QF x i me mu).2.1 (QF x i me mu).2.2:=by
 have hlt:=(List.getElem?_eq_some_iff.1 hi).1
 have hf:=hform i hlt
 obtain ⟨a,b,c⟩:=meas_next (mu:=mu) hi hf ⟨h.l1,fun j v hj=>h.pos j v hj⟩ hk
 have hto:=YA hi hf
 have hpos:∀ t ∈ x.turns,0<me.getD (Int.toNat t.to) 0:=fun t ht=>by
  have h1:=hto t ht
  have hg:me[Int.toNat t.to]?=some (me[Int.toNat t.to]'(by rw [h.l1]; exact h1.2.1)):=List.getElem?_eq_getElem _
  have:=(h.pos _ _ (by omega) hg).1
  simpa [List.getD,hg] using this
 refine ⟨a,by rw [b,h.l2],fun j v hj=>c j v hj,?_⟩
 cases hm:Vp me 1 x.turns with
 | none=>simp [QF,hm] at hk
 | some m =>
  obtain ⟨m1,-,m3⟩:=multI_dvd hpos (by omega) hm
  have hto2:=tot_of hi hf
  have fin:∀ w:Int,w=(if x.kind=1 then m*totI x else m)→∀ (j:Nat) (y:Stg),i≤j→s.stages[j]?=some y→∃ q,(mu.set i m)[j]?=some q∧(me.set i w)[j]?=some (if y.kind=1 then q*totI y else q)∧(0<q∧q≤1000000000000)∧∀ t ∈ y.turns,(me.set i w).getD (Int.toNat t.to) 0∣q:=fun w hw j y hj hy=>by
   by_cases e:i=j
   · subst e
     rw [hi] at hy; cases hy
     refine ⟨m,by rw [List.getElem?_set_self (by rw [h.l2]; exact hlt)],by rw [List.getElem?_set_self (by rw [h.l1]; exact hlt),hw],m1,fun t ht=>?_⟩
     rw [getD_set_ne (by have:=hto t ht; omega)]
     exact m3 t ht
   · obtain ⟨q,q1,q2,q3,q4⟩:=h.rel j y (by omega) hy
     refine ⟨q,by rw [List.getElem?_set_ne e]; exact q1,by rw [List.getElem?_set_ne e]; exact q2,q3,fun t ht=>?_⟩
     have:=YA hy (hform j (List.getElem?_eq_some_iff.1 hy).1) t ht
     rw [getD_set_ne (by omega)]
     exact q4 t ht
  simp only [QF,hm] at hk ⊢
  by_cases hk1:x.kind=1
  · simp only [if_pos hk1] at hk ⊢
    refine fin _ ?_
    rcases prod_of (a:=m) (b:=totI x) (by omega) (hto2.2 hk1).1 with ⟨h1,-⟩ | ⟨h1,-⟩
    · rw [h1] at hk; cases hk
    · rw [h1,if_pos hk1]
  · simp only [if_neg hk1] at hk ⊢
    exact fin _ (by rw [if_neg hk1])
theorem minv_all {s:Stl} (hform:∀ j,j<s.stages.length→Xu s j=true):∀ {n:Nat} {me mu:List Int} {r:List Int × List Int},n≤s.stages.length→MInv s n me mu→measN s n me mu=some r→MInv s 0 r.1 r.2
 | 0,me,mu,r,_,h,hr=>by simp only [measN,Option.some.injEq] at hr; subst hr; exact h
 | i+1,me,mu,r,hn,h,hr=>by
  have hi:s.stages[i]?=some s.stages[i]:=List.getElem?_eq_getElem (by omega)
  have hx:s.stages.getD i ⟨0,0,[]⟩=s.stages[i]:=by simp [List.getD,hi]
  simp only [measN,hx] at hr
  split at hr
  · rename_i hk
    exact minv_all hform (by omega) (minv_step hform hi h hk) hr
  · cases hr
structure MOk (m:Mch):Prop where
 st:VE m.s=true
 inv:MInv m.s 0 m.meas m.mult
theorem mok_of {s:Stl} {m:Mch} (h:Xx s=some m):MOk m∧m.s=s:=by
 unfold Xx at h
 split at h
 · rename_i hp
   obtain ⟨r,hr,e⟩:=Option.map_eq_some_iff.1 h
   subst e
   refine ⟨⟨hp,?_⟩,rfl⟩
   refine minv_all (QH hp).2.2.2.2 (Nat.le_refl _) ⟨by simp [qm],by simp [qm],fun j v hj hv=>?_,fun j x hj hx=>?_⟩ hr
   · have:=(List.getElem?_eq_some_iff.1 hv).1
     simp [qm] at this; omega
   · have:=(List.getElem?_eq_some_iff.1 hx).1; omega
 · cases h
/-! ### Worths,stage by stage -/
/-! ### Choosers -/
/-! ### Plans -/
def Xe (x:Stg):Int:=if x.kind=2 ∨ x.kind=3 then (x.turns.length:Int) - 1 else 0
def QO (s:Stl) (l:List Int):Bool:=decide (l.length=s.stages.length) && (List.range l.length).all fun i=>Qd (l.getD i 0) 0 (Xe (s.stages.getD i ⟨0,0,[]⟩))
theorem WD {s:Stl} {l:List Int} (h:QO s l=true):l.length=s.stages.length∧∀ (i:Nat) (x:Stg),s.stages[i]?=some x→∃ v,l[i]?=some v∧0≤v∧v≤Xe x:=by
 simp only [QO,Bool.and_eq_true,decide_eq_true_eq] at h
 refine ⟨h.1,fun i x hx=>?_⟩
 have hlt:=(List.getElem?_eq_some_iff.1 hx).1
 have:=List.all_eq_true.1 h.2 i (List.mem_range.2 (by omega))
 have hg:l[i]?=some (l[i]'(by omega)):=List.getElem?_eq_getElem (by omega)
 have:=Qz.1 this
 rw [show l.getD i 0=l[i]'(by omega) by simp [List.getD,hg],show s.stages.getD i ⟨0,0,[]⟩=x by simp [List.getD,hx]] at this
 exact ⟨_,hg,this.1,this.2⟩
theorem getD_some {l:List Int} {i:Nat} (h:i<l.length):l[i]?=some (l.getD i 0):=by
 have hg:l[i]?=some l[i]:=List.getElem?_eq_getElem h
 simp [List.getD,hg]
end Go.Proofs.Ytemklbioijmjiaa
namespace Go.Proofs.Ytemklbioijmjiaa
open Go Ax
open Go.Proofs
theorem f68b:Try.f68.body=some (Qb Try.prog 68):=by kernel_rfl
theorem u68 {a c k:List AV} {r:AV} (h:Pure Try.prog 68 (a++c++k) r):Qi Try.prog (.clos 68 a k) c r:=Qk Try.func68 (by kernel_rfl) f68b h
def Wo (P:Program):List Item:=kAt 400 [.code (Qb P 68)] [.b false,.stop]
def f68S0 (l:(List Int)) (m:Mch) (i:Nat):St:=⟨([.rptr [.rsl (Qe m.s.stages) 0 m.s.stages.length,.rsl (rowI m.s.worth) 0 m.s.worth.length,.int .i64 m.s.price,.rsl (rowI m.meas) 0 m.meas.length,.rsl (rowI m.mult) 0 m.mult.length] 0]++jj 17 ([.rsl (rowI l) 0 l.length,.int .i64 (l.length:Int),.int .i64 (i:Int)]++Js 35)),[]⟩
def f68G0 (E:Env) (l:(List Int)) (m:Mch) (i:Nat):Prop:=G Try.prog E (Wo Try.prog) (f68S0 l m i )
theorem p68_start_0 (l:(List Int)) (m:Mch) {E:Env} {res:AV} (hE:Qg Try.prog 68 res E) (ho:AllP [((l.length:Int) != (m.s.stages.length:Int))=true])
 (hr:AvLe (.bool false) res):G Try.prog E [.code (Qb Try.prog 68)] ⟨[.rptr [.rsl (Qe m.s.stages) 0 m.s.stages.length,.rsl (rowI m.s.worth) 0 m.s.worth.length,.int .i64 m.s.price,.rsl (rowI m.meas) 0 m.meas.length,.rsl (rowI m.mult) 0 m.mult.length] 0,.rsl (rowI l) 0 l.length]++unds (Try.f68.ntmps - 2),[]⟩ :=
 Qa (n:=400) (evs:=[.b true]) (obs:=_) hE Try.func68 Qo (by kernel_rfl) ho hr
theorem p68_start_1 (l:(List Int)) (m:Mch) {E:Env} {rv:AV} (hE:Qg Try.prog 68 rv E) (ho:AllP [((l.length:Int) != (m.s.stages.length:Int))=false])
 (hg:G Try.prog E (Wo Try.prog) ⟨([.rptr [.rsl (Qe m.s.stages) 0 m.s.stages.length,.rsl (rowI m.s.worth) 0 m.s.worth.length,.int .i64 m.s.price,.rsl (rowI m.meas) 0 m.meas.length,.rsl (rowI m.mult) 0 m.mult.length] 0]++jj 17 ([.rsl (rowI l) 0 l.length,.int .i64 (l.length:Int),.int .i64 0]++Js 35)),[]⟩):G Try.prog E [.code (Qb Try.prog 68)] ⟨[.rptr [.rsl (Qe m.s.stages) 0 m.s.stages.length,.rsl (rowI m.s.worth) 0 m.s.worth.length,.int .i64 m.s.price,.rsl (rowI m.meas) 0 m.meas.length,.rsl (rowI m.mult) 0 m.mult.length] 0,.rsl (rowI l) 0 l.length]++unds (Try.f68.ntmps - 2),[]⟩ :=
 Qh (n:=400) (ds:=[]) (cs:=[]) (live:=[0,18,19,20]) (m:=0) (evs:=[.b false,.stop]) (obs:=_) hE.2.1 (hE.nogh _) Qo (by kernel_rfl) ho hg
theorem f68W (l:(List Int)) (m:Mch) {E:Env} {rv:Bool} (hE:Qg Try.prog 68 (.bool rv) E)
 (h:((¬ ((l.length:Int)=(m.s.stages.length:Int))→rv=false)∧((l.length:Int)=(m.s.stages.length:Int)→f68G0 E l m 0))):G Try.prog E [.code (Qb Try.prog 68)] ⟨[.rptr [.rsl (Qe m.s.stages) 0 m.s.stages.length,.rsl (rowI m.s.worth) 0 m.s.worth.length,.int .i64 m.s.price,.rsl (rowI m.meas) 0 m.meas.length,.rsl (rowI m.mult) 0 m.mult.length] 0,.rsl (rowI l) 0 l.length]++unds (Try.f68.ntmps - 2),[]⟩:=by
 rcases bft ((l.length:Int) != (m.s.stages.length:Int)) with hc0 | hc0
 · have h:=h.1 (bneT hc0)
   exact p68_start_0 l m hE ⟨hc0,trivial⟩ (AvLe.of_eq (by rw [h]; try rfl))
 · have h:=h.2 (bneF hc0)
   exact p68_start_1 l m hE ⟨hc0,trivial⟩ h
theorem p68_0_0 (l:(List Int)) (m:Mch) (i:Nat) (e:Int) (se:Stg) {E:Env} {res:AV} (hE:Qg Try.prog 68 res E) (ho:AllP [(decide ((i:Int)<(l.length:Int)))=true,0≤(i:Int)∧(i:Int)<(l.length:Int),((rowI l).drop (0+(Int.toNat (i:Int))*1)).take 1=[.int .i64 e],0≤(i:Int)∧(i:Int)<(m.s.stages.length:Int),((Qe m.s.stages).drop ((0+(Int.toNat (i:Int))*3)+0)).take 1=[.int .i64 se.kind],(se.kind == 2)=true,true=true,0≤(i:Int)∧(i:Int)<(m.s.stages.length:Int),((Qe m.s.stages).drop ((0+(Int.toNat (i:Int))*3)+2)).take 1=[.rsl (Qn se.turns) 0 se.turns.length],InR .i64 ((se.turns.length:Int) - 1),Qi Try.prog (.clos 69 [] []) [.int .i64 e,.int .i64 0,.int .i64 ((se.turns.length:Int) - 1)] (.bool (Qd e 0 ((se.turns.length:Int) - 1))),(!(Qd e 0 ((se.turns.length:Int) - 1)))=true])
 (hr:AvLe (.bool false) res):G Try.prog E (Wo Try.prog) (f68S0 l m i ) :=
 Qa (n:=400) (evs:=[.b true,.ld (.int .i64 e),.auto,.ld (.int .i64 se.kind),.b true,.b true,.auto,.ld (.rsl (Qn se.turns) 0 se.turns.length),.v (.bool (Qd e 0 ((se.turns.length:Int) - 1))),.b true]) (obs:=_) hE Try.func68 Qo (by kernel_rfl) ho hr
theorem p68_0_1 (l:(List Int)) (m:Mch) (i:Nat) (e:Int) (se:Stg) {E:Env} {rv:AV} (hE:Qg Try.prog 68 rv E) (ho:AllP [(decide ((i:Int)<(l.length:Int)))=true,0≤(i:Int)∧(i:Int)<(l.length:Int),((rowI l).drop (0+(Int.toNat (i:Int))*1)).take 1=[.int .i64 e],0≤(i:Int)∧(i:Int)<(m.s.stages.length:Int),((Qe m.s.stages).drop ((0+(Int.toNat (i:Int))*3)+0)).take 1=[.int .i64 se.kind],(se.kind == 2)=true,true=true,0≤(i:Int)∧(i:Int)<(m.s.stages.length:Int),((Qe m.s.stages).drop ((0+(Int.toNat (i:Int))*3)+2)).take 1=[.rsl (Qn se.turns) 0 se.turns.length],InR .i64 ((se.turns.length:Int) - 1),Qi Try.prog (.clos 69 [] []) [.int .i64 e,.int .i64 0,.int .i64 ((se.turns.length:Int) - 1)] (.bool (Qd e 0 ((se.turns.length:Int) - 1))),(!(Qd e 0 ((se.turns.length:Int) - 1)))=false,InR .i64 ((i:Int)+1)])
 (hg:G Try.prog E (Wo Try.prog) ⟨([.rptr [.rsl (Qe m.s.stages) 0 m.s.stages.length,.rsl (rowI m.s.worth) 0 m.s.worth.length,.int .i64 m.s.price,.rsl (rowI m.meas) 0 m.meas.length,.rsl (rowI m.mult) 0 m.mult.length] 0]++jj 17 ([.rsl (rowI l) 0 l.length,.int .i64 (l.length:Int),.int .i64 ((i:Int)+1)]++Js 35)),[]⟩):G Try.prog E (Wo Try.prog) (f68S0 l m i ) :=
 Qh (n:=400) (ds:=[]) (cs:=[]) (live:=[0,18,19,20]) (m:=0) (evs:=[.b true,.ld (.int .i64 e),.auto,.ld (.int .i64 se.kind),.b true,.b true,.auto,.ld (.rsl (Qn se.turns) 0 se.turns.length),.v (.bool (Qd e 0 ((se.turns.length:Int) - 1))),.b false,.stop]) (obs:=_) hE.2.1 (hE.nogh _) Qo (by kernel_rfl) ho hg
theorem p68_0_2 (l:(List Int)) (m:Mch) (i:Nat) (e:Int) (se:Stg) {E:Env} {res:AV} (hE:Qg Try.prog 68 res E) (ho:AllP [(decide ((i:Int)<(l.length:Int)))=true,0≤(i:Int)∧(i:Int)<(l.length:Int),((rowI l).drop (0+(Int.toNat (i:Int))*1)).take 1=[.int .i64 e],0≤(i:Int)∧(i:Int)<(m.s.stages.length:Int),((Qe m.s.stages).drop ((0+(Int.toNat (i:Int))*3)+0)).take 1=[.int .i64 se.kind],(se.kind == 2)=false,(se.kind == 3)=true,0≤(i:Int)∧(i:Int)<(m.s.stages.length:Int),((Qe m.s.stages).drop ((0+(Int.toNat (i:Int))*3)+2)).take 1=[.rsl (Qn se.turns) 0 se.turns.length],InR .i64 ((se.turns.length:Int) - 1),Qi Try.prog (.clos 69 [] []) [.int .i64 e,.int .i64 0,.int .i64 ((se.turns.length:Int) - 1)] (.bool (Qd e 0 ((se.turns.length:Int) - 1))),(!(Qd e 0 ((se.turns.length:Int) - 1)))=true])
 (hr:AvLe (.bool false) res):G Try.prog E (Wo Try.prog) (f68S0 l m i ) :=
 Qa (n:=400) (evs:=[.b true,.ld (.int .i64 e),.auto,.ld (.int .i64 se.kind),.b false,.b true,.auto,.ld (.rsl (Qn se.turns) 0 se.turns.length),.v (.bool (Qd e 0 ((se.turns.length:Int) - 1))),.b true]) (obs:=_) hE Try.func68 Qo (by kernel_rfl) ho hr
theorem p68_0_3 (l:(List Int)) (m:Mch) (i:Nat) (e:Int) (se:Stg) {E:Env} {rv:AV} (hE:Qg Try.prog 68 rv E) (ho:AllP [(decide ((i:Int)<(l.length:Int)))=true,0≤(i:Int)∧(i:Int)<(l.length:Int),((rowI l).drop (0+(Int.toNat (i:Int))*1)).take 1=[.int .i64 e],0≤(i:Int)∧(i:Int)<(m.s.stages.length:Int),((Qe m.s.stages).drop ((0+(Int.toNat (i:Int))*3)+0)).take 1=[.int .i64 se.kind],(se.kind == 2)=false,(se.kind == 3)=true,0≤(i:Int)∧(i:Int)<(m.s.stages.length:Int),((Qe m.s.stages).drop ((0+(Int.toNat (i:Int))*3)+2)).take 1=[.rsl (Qn se.turns) 0 se.turns.length],InR .i64 ((se.turns.length:Int) - 1),Qi Try.prog (.clos 69 [] []) [.int .i64 e,.int .i64 0,.int .i64 ((se.turns.length:Int) - 1)] (.bool (Qd e 0 ((se.turns.length:Int) - 1))),(!(Qd e 0 ((se.turns.length:Int) - 1)))=false,InR .i64 ((i:Int)+1)])
 (hg:G Try.prog E (Wo Try.prog) ⟨([.rptr [.rsl (Qe m.s.stages) 0 m.s.stages.length,.rsl (rowI m.s.worth) 0 m.s.worth.length,.int .i64 m.s.price,.rsl (rowI m.meas) 0 m.meas.length,.rsl (rowI m.mult) 0 m.mult.length] 0]++jj 17 ([.rsl (rowI l) 0 l.length,.int .i64 (l.length:Int),.int .i64 ((i:Int)+1)]++Js 35)),[]⟩):G Try.prog E (Wo Try.prog) (f68S0 l m i ) :=
 Qh (n:=400) (ds:=[]) (cs:=[]) (live:=[0,18,19,20]) (m:=0) (evs:=[.b true,.ld (.int .i64 e),.auto,.ld (.int .i64 se.kind),.b false,.b true,.auto,.ld (.rsl (Qn se.turns) 0 se.turns.length),.v (.bool (Qd e 0 ((se.turns.length:Int) - 1))),.b false,.stop]) (obs:=_) hE.2.1 (hE.nogh _) Qo (by kernel_rfl) ho hg
theorem p68_0_4 (l:(List Int)) (m:Mch) (i:Nat) (e:Int) (se:Stg) {E:Env} {res:AV} (hE:Qg Try.prog 68 res E) (ho:AllP [(decide ((i:Int)<(l.length:Int)))=true,0≤(i:Int)∧(i:Int)<(l.length:Int),((rowI l).drop (0+(Int.toNat (i:Int))*1)).take 1=[.int .i64 e],0≤(i:Int)∧(i:Int)<(m.s.stages.length:Int),((Qe m.s.stages).drop ((0+(Int.toNat (i:Int))*3)+0)).take 1=[.int .i64 se.kind],(se.kind == 2)=false,(se.kind == 3)=false,Qi Try.prog (.clos 69 [] []) [.int .i64 e,.int .i64 0,.int .i64 0] (.bool (Qd e 0 0)),(!(Qd e 0 0))=true])
 (hr:AvLe (.bool false) res):G Try.prog E (Wo Try.prog) (f68S0 l m i ) :=
 Qa (n:=400) (evs:=[.b true,.ld (.int .i64 e),.auto,.ld (.int .i64 se.kind),.b false,.b false,.v (.bool (Qd e 0 0)),.b true]) (obs:=_) hE Try.func68 Qo (by kernel_rfl) ho hr
theorem p68_0_5 (l:(List Int)) (m:Mch) (i:Nat) (e:Int) (se:Stg) {E:Env} {rv:AV} (hE:Qg Try.prog 68 rv E) (ho:AllP [(decide ((i:Int)<(l.length:Int)))=true,0≤(i:Int)∧(i:Int)<(l.length:Int),((rowI l).drop (0+(Int.toNat (i:Int))*1)).take 1=[.int .i64 e],0≤(i:Int)∧(i:Int)<(m.s.stages.length:Int),((Qe m.s.stages).drop ((0+(Int.toNat (i:Int))*3)+0)).take 1=[.int .i64 se.kind],(se.kind == 2)=false,(se.kind == 3)=false,Qi Try.prog (.clos 69 [] []) [.int .i64 e,.int .i64 0,.int .i64 0] (.bool (Qd e 0 0)),(!(Qd e 0 0))=false,InR .i64 ((i:Int)+1)])
 (hg:G Try.prog E (Wo Try.prog) ⟨([.rptr [.rsl (Qe m.s.stages) 0 m.s.stages.length,.rsl (rowI m.s.worth) 0 m.s.worth.length,.int .i64 m.s.price,.rsl (rowI m.meas) 0 m.meas.length,.rsl (rowI m.mult) 0 m.mult.length] 0]++jj 17 ([.rsl (rowI l) 0 l.length,.int .i64 (l.length:Int),.int .i64 ((i:Int)+1)]++Js 35)),[]⟩):G Try.prog E (Wo Try.prog) (f68S0 l m i ) :=
 Qh (n:=400) (ds:=[]) (cs:=[]) (live:=[0,18,19,20]) (m:=0) (evs:=[.b true,.ld (.int .i64 e),.auto,.ld (.int .i64 se.kind),.b false,.b false,.v (.bool (Qd e 0 0)),.b false,.stop]) (obs:=_) hE.2.1 (hE.nogh _) Qo (by kernel_rfl) ho hg
theorem p68_0_6 (l:(List Int)) (m:Mch) (i:Nat) {E:Env} {res:AV} (hE:Qg Try.prog 68 res E) (ho:AllP [(decide ((i:Int)<(l.length:Int)))=false])
 (hr:AvLe (.bool true) res):G Try.prog E (Wo Try.prog) (f68S0 l m i ) :=
 Qa (n:=400) (evs:=[.b false]) (obs:=_) hE Try.func68 Qo (by kernel_rfl) ho hr
theorem f68W0 (l:(List Int)) (m:Mch) (i:Nat) {E:Env} {rv:Bool} (hE:Qg Try.prog 68 (.bool rv) E)
 (h:(((i:Int)<(l.length:Int)→(∃ e:Int,l[i]?=some e∧(∃ se:Stg,m.s.stages[i]?=some se∧((se.kind=2→((I6 ((se.turns.length:Int) - 1))∧(((Qd e 0 ((se.turns.length:Int) - 1))=false→rv=false)∧((Qd e 0 ((se.turns.length:Int) - 1))=true→((I6 ((i:Int)+1))∧f68G0 E l m (i+1))))))∧(¬ (se.kind=2)→((se.kind=3→((I6 ((se.turns.length:Int) - 1))∧(((Qd e 0 ((se.turns.length:Int) - 1))=false→rv=false)∧((Qd e 0 ((se.turns.length:Int) - 1))=true→((I6 ((i:Int)+1))∧f68G0 E l m (i+1))))))∧(¬ (se.kind=3)→(((Qd e 0 0)=false→rv=false)∧((Qd e 0 0)=true→((I6 ((i:Int)+1))∧f68G0 E l m (i+1)))))))))))∧(¬ ((i:Int)<(l.length:Int))→rv=true))):f68G0 E l m i:=by
 rcases bft (decide ((i:Int)<(l.length:Int))) with hc0 | hc0
 · have h:=h.1 (odt hc0)
   obtain ⟨e,h1,h⟩:=h
   obtain ⟨se,h2,h⟩:=h
   rcases bft (se.kind == 2) with hc1 | hc1
   · have h:=h.1 (eq_of_beq hc1)
     obtain ⟨q11_2,h⟩:=h
     rcases bft (!(Qd e 0 ((se.turns.length:Int) - 1))) with hc2 | hc2
     · have h:=h.1 (bnT hc2)
       exact p68_0_0 l m i e se hE ⟨hc0,(Qq h1),(rp cI 1 0 1 h1),(Qq h2),(rp cStg 3 0 1 h2),hc1,rfl,(Qq h2),(rp cStg 3 2 1 h2),q11_2,(u69 (Qx e 0 ((se.turns.length:Int) - 1))),hc2,trivial⟩ (AvLe.of_eq (by rw [h]; try rfl))
     · have h:=h.2 (bnF hc2)
       obtain ⟨q14_3,h⟩:=h
       exact p68_0_1 l m i e se hE ⟨hc0,(Qq h1),(rp cI 1 0 1 h1),(Qq h2),(rp cStg 3 0 1 h2),hc1,rfl,(Qq h2),(rp cStg 3 2 1 h2),q11_2,(u69 (Qx e 0 ((se.turns.length:Int) - 1))),hc2,q14_3,trivial⟩ h
   · have h:=h.2 (ne_of_beq_false hc1)
     rcases bft (se.kind == 3) with hc2 | hc2
     · have h:=h.1 (eq_of_beq hc2)
       obtain ⟨q11_3,h⟩:=h
       rcases bft (!(Qd e 0 ((se.turns.length:Int) - 1))) with hc3 | hc3
       · have h:=h.1 (bnT hc3)
         exact p68_0_2 l m i e se hE ⟨hc0,(Qq h1),(rp cI 1 0 1 h1),(Qq h2),(rp cStg 3 0 1 h2),hc1,hc2,(Qq h2),(rp cStg 3 2 1 h2),q11_3,(u69 (Qx e 0 ((se.turns.length:Int) - 1))),hc3,trivial⟩ (AvLe.of_eq (by rw [h]; try rfl))
       · have h:=h.2 (bnF hc3)
         obtain ⟨q14_4,h⟩:=h
         exact p68_0_3 l m i e se hE ⟨hc0,(Qq h1),(rp cI 1 0 1 h1),(Qq h2),(rp cStg 3 0 1 h2),hc1,hc2,(Qq h2),(rp cStg 3 2 1 h2),q11_3,(u69 (Qx e 0 ((se.turns.length:Int) - 1))),hc3,q14_4,trivial⟩ h
     · have h:=h.2 (ne_of_beq_false hc2)
       rcases bft (!(Qd e 0 0)) with hc3 | hc3
       · have h:=h.1 (bnT hc3)
         exact p68_0_4 l m i e se hE ⟨hc0,(Qq h1),(rp cI 1 0 1 h1),(Qq h2),(rp cStg 3 0 1 h2),hc1,hc2,(u69 (Qx e 0 0)),hc3,trivial⟩ (AvLe.of_eq (by rw [h]; try rfl))
       · have h:=h.2 (bnF hc3)
         obtain ⟨q11_4,h⟩:=h
         exact p68_0_5 l m i e se hE ⟨hc0,(Qq h1),(rp cI 1 0 1 h1),(Qq h2),(rp cStg 3 0 1 h2),hc1,hc2,(u69 (Qx e 0 0)),hc3,q11_4,trivial⟩ h
 · have h:=h.2 (odf hc0)
   exact p68_0_6 l m i hE ⟨hc0,trivial⟩ (AvLe.of_eq (by rw [h]; try rfl))
theorem plan_ok (m:Mch) (l:List Int) (hm:MOk m):Pure Try.prog 68 [.rptr (cMch m) 0,.rsl (rowI l) 0 l.length] (.bool (QO m.s l)):=Qs Try.func68 f68b fun E hE=>by
 have hn:=(QH hm.st).1
 have hform:=(QH hm.st).2.2.2.2
 refine f68W l m (rv:=QO m.s l) hE ⟨fun h=>by simp [QO,show ¬ (l.length=m.s.stages.length) by omega],fun h=>?_⟩
 have hl:l.length=m.s.stages.length:=by omega
 have key:∀ (d i:Nat),i+d=l.length→(∀ j,j<i→Qd (l.getD j 0) 0 (Xe (m.s.stages.getD j ⟨0,0,[]⟩))=true)→f68G0 E l m i:=by
  intro d
  induction d with
  | zero =>
   intro i hd hall
   refine f68W0 l m i (rv:=QO m.s l) hE ⟨fun h=>by omega,fun _=>?_⟩
   simp only [QO,hl,decide_true,Bool.true_and]
   exact List.all_eq_true.2 fun j hj=>hall j (by have:=List.mem_range.1 hj; omega)
  | succ d ih =>
   intro i hd hall
   have hi:m.s.stages[i]?=some m.s.stages[i]:=List.getElem?_eq_getElem (by omega)
   have hx:m.s.stages.getD i ⟨0,0,[]⟩=m.s.stages[i]:=by simp [List.getD,hi]
   have hv:l[i]?=some (l.getD i 0):=getD_some (by omega)
   have ht:m.s.stages[i].turns.length≤8:=by
    rcases Yc hi (hform i (by omega)) with ⟨-,h,-⟩ | ⟨-,-,h,-⟩
    · rw [h]; simp
    · exact h.2
   have nx:=ih (i+1) (by omega)
   have no:Qd (l.getD i 0) 0 (Xe (m.s.stages.getD i ⟨0,0,[]⟩))=false→QO m.s l=false:=fun h=>by
    simp only [QO,hl,decide_true,Bool.true_and]
    exact range_all (by omega) h
   have yes:Qd (l.getD i 0) 0 (Xe (m.s.stages.getD i ⟨0,0,[]⟩))=true→f68G0 E l m (i+1):=fun h=>nx fun j hj=>by
    rcases Nat.lt_or_ge j i with h1 | h1
    · exact hall j h1
    · rw [show j=i by omega]; exact h
   rw [hx] at no yes
   generalize m.s.stages[i]=x at hi no yes ht
   refine f68W0 l m i (rv:=QO m.s l) hE ⟨fun _=>⟨_,hv,x,hi,fun h2=>⟨by omega,fun h=>no ?_,fun h=>⟨by omega,yes ?_⟩⟩,fun h2=>⟨fun h3=>⟨by omega,fun h=>no ?_,fun h=>⟨by omega,yes ?_⟩⟩,fun h3=>⟨fun h=>no ?_,fun h=>⟨by omega,yes ?_⟩⟩⟩⟩,fun h=>by omega⟩
   · rw [Xe,if_pos (.inl h2)]; exact h
   · rw [Xe,if_pos (.inl h2)]; exact h
   · rw [Xe,if_pos (.inr h3)]; exact h
   · rw [Xe,if_pos (.inr h3)]; exact h
   · rw [Xe,if_neg (by omega)]; exact h
   · rw [Xe,if_neg (by omega)]; exact h
 exact key l.length 0 (by omega) (fun j hj=>by omega)
theorem f84b:Try.f84.body=some (Qb Try.prog 84):=by kernel_rfl
theorem u84 {a c k:List AV} {r:AV} (h:Pure Try.prog 84 (a++c++k) r):Qi Try.prog (.clos 84 a k) c r:=Qk Try.func84 (by kernel_rfl) f84b h
theorem p84_start_0 (n:Int) {E:Env} {res:AV} (hE:Qg Try.prog 84 res E) (ho:AllP [Qi Try.prog (.clos 69 [] []) [.int .i64 n,.int .i64 0,.int .i64 1000] (.bool (Qd n 0 1000))])
 (hr:AvLe (.bool (!(Qd n 0 1000))) res):G Try.prog E [.code (Qb Try.prog 84)] ⟨[.int .i64 n]++unds (Try.f84.ntmps - 1),[]⟩ :=
 Qa (n:=400) (evs:=[.v (.bool (Qd n 0 1000))]) (obs:=_) hE Try.func84 Qo (by kernel_rfl) ho hr
theorem f84W (n:Int) {E:Env} {rv:Bool} (hE:Qg Try.prog 84 (.bool rv) E)
 (h:rv=(!(Qd n 0 1000))):G Try.prog E [.code (Qb Try.prog 84)] ⟨[.int .i64 n]++unds (Try.f84.ntmps - 1),[]⟩:=by
 exact p84_start_0 n hE ⟨(u69 (Qx n 0 1000)),trivial⟩ (AvLe.of_eq (by rw [h]; try rfl))
theorem bad97_ok (n:Int):Pure Try.prog 84 [.int .i64 n] (.bool (!Qd n 0 1000)):=Qs Try.func84 f84b fun E hE=>f84W n (rv:=!Qd n 0 1000) hE rfl
def VP (P:Program):List Item:=kAt 400 [.code (Qb P 59)] [.stop]
def yO (l:(List Int)) (i:Nat):St:=⟨([.rsl (rowI l) 0 l.length,.clos 84 [] []]++jj 5 ([.int .i64 (l.length:Int),.int .i64 (i:Int)]++Js 10)),[]⟩
def yP (E:Env) (l:(List Int)) (i:Nat):Prop:=G Try.prog E (VP Try.prog) (yO l i )
theorem yp (l:(List Int)) {E:Env} {rv:AV} (hE:Qg Try.prog 59 rv E) (ho:AllP [])
 (hg:G Try.prog E (VP Try.prog) ⟨([.rsl (rowI l) 0 l.length,.clos 84 [] []]++jj 5 ([.int .i64 (l.length:Int),.int .i64 0]++Js 10)),[]⟩):G Try.prog E [.code (Qb Try.prog 59)] ⟨[.rsl (rowI l) 0 l.length,.clos 84 [] []]++unds (Try.f59.ntmps - 2),[]⟩ :=
 Qh (n:=400) (ds:=[]) (cs:=[]) (live:=[0,1,7,8]) (m:=0) (evs:=[.stop]) (obs:=_) hE.2.1 (hE.nogh _) Qo (by kernel_rfl) ho hg
theorem f120sW (l:(List Int)) {E:Env} {rv:Int} (hE:Qg Try.prog 59 (.int .i64 rv) E)
 (h:yP E l 0):G Try.prog E [.code (Qb Try.prog 59)] ⟨[.rsl (rowI l) 0 l.length,.clos 84 [] []]++unds (Try.f59.ntmps - 2),[]⟩:=by
 exact yp l hE trivial h
theorem p59s_0_0S (l:(List Int)) (i:Nat) (e:Int) {E:Env} {res:AV} (hE:Qg Try.prog 59 res E) (ho:AllP [(decide ((i:Int)<(l.length:Int)))=true,0≤(i:Int)∧(i:Int)<(l.length:Int),((rowI l).drop (0+(Int.toNat (i:Int))*1)).take 1=[.int .i64 e],Qi Try.prog (.clos 84 [] []) [.int .i64 e] (.bool (!Qd e 0 1000)),(!Qd e 0 1000)=true])
 (hr:AvLe (.int .i64 (i:Int)) res):G Try.prog E (VP Try.prog) (yO l i ) :=
 Qa (n:=400) (evs:=[.b true,.ld (.int .i64 e),.v (.bool (!Qd e 0 1000)),.b true]) (obs:=_) hE Try.func59 Qo (by kernel_rfl) ho hr
theorem p59s_0_1S (l:(List Int)) (i:Nat) (e:Int) {E:Env} {rv:AV} (hE:Qg Try.prog 59 rv E) (ho:AllP [(decide ((i:Int)<(l.length:Int)))=true,0≤(i:Int)∧(i:Int)<(l.length:Int),((rowI l).drop (0+(Int.toNat (i:Int))*1)).take 1=[.int .i64 e],Qi Try.prog (.clos 84 [] []) [.int .i64 e] (.bool (!Qd e 0 1000)),(!Qd e 0 1000)=false,InR .i64 ((i:Int)+1)])
 (hg:G Try.prog E (VP Try.prog) ⟨([.rsl (rowI l) 0 l.length,.clos 84 [] []]++jj 5 ([.int .i64 (l.length:Int),.int .i64 ((i:Int)+1)]++Js 10)),[]⟩):G Try.prog E (VP Try.prog) (yO l i ) :=
 Qh (n:=400) (ds:=[]) (cs:=[]) (live:=[0,1,7,8]) (m:=0) (evs:=[.b true,.ld (.int .i64 e),.v (.bool (!Qd e 0 1000)),.b false,.stop]) (obs:=_) hE.2.1 (hE.nogh _) Qo (by kernel_rfl) ho hg
theorem p59s_0_2S (l:(List Int)) (i:Nat) {E:Env} {res:AV} (hE:Qg Try.prog 59 res E) (ho:AllP [(decide ((i:Int)<(l.length:Int)))=false])
 (hr:AvLe (.int .i64 (-1)) res):G Try.prog E (VP Try.prog) (yO l i ) :=
 Qa (n:=400) (evs:=[.b false]) (obs:=_) hE Try.func59 Qo (by kernel_rfl) ho hr
theorem f120sW0 (l:(List Int)) (i:Nat) {E:Env} {rv:Int} (hE:Qg Try.prog 59 (.int .i64 rv) E)
 (h:(((i:Int)<(l.length:Int)→(∃ e:Int,l[i]?=some e∧(((!Qd e 0 1000)=true→rv=(i:Int))∧((!Qd e 0 1000)=false→((I6 ((i:Int)+1))∧yP E l (i+1))))))∧(¬ ((i:Int)<(l.length:Int))→rv=(-1)))):yP E l i:=by
 rcases bft (decide ((i:Int)<(l.length:Int))) with hc0 | hc0
 · have h:=h.1 (odt hc0)
   obtain ⟨e,h1,h⟩:=h
   rcases bft (!Qd e 0 1000) with hc1 | hc1
   · have h:=h.1 hc1
     exact p59s_0_0S l i e hE ⟨hc0,(Qq h1),(rp cI 1 0 1 h1),(u84 (bad97_ok e)),hc1,trivial⟩ (AvLe.of_eq (by rw [h]; try rfl))
   · have h:=h.2 hc1
     obtain ⟨q6_2,h⟩:=h
     exact p59s_0_1S l i e hE ⟨hc0,(Qq h1),(rp cI 1 0 1 h1),(u84 (bad97_ok e)),hc1,q6_2,trivial⟩ h
 · have h:=h.2 (odf hc0)
   exact p59s_0_2S l i hE ⟨hc0,trivial⟩ (AvLe.of_eq (by rw [h]; try rfl))
theorem idxS_ok (l:List Int) (h:l.length≤9223372036854775807):Pure Try.prog 59 [.rsl (rowI l) 0 l.length,.clos 84 [] []] (.int .i64 (XU (fun n=>!Qd n 0 1000) l)):=Qs Try.func59 f59b fun E hE=>by
 refine f120sW l hE (VN (fun n=>!Qd n 0 1000) l l.length 0 (by omega) (fun j x hj=>by omega) (fun i=>yP E l i) (fun i hi' h1 h2=>?_) (fun _ h2=>?_))
 · have hx:l[i]?=some l[i]:=List.getElem?_eq_getElem hi'
   exact f120sW0 l i hE ⟨fun _=>⟨_,hx,fun hp=>h1 _ hx hp,fun hp=>⟨by omega,h2 _ hx hp⟩⟩,fun h=>by omega⟩
 · exact f120sW0 l _ hE ⟨fun h=>by omega,fun _=>h2⟩
theorem yo (l:(List Int)) {E:Env} {res:AV} (hE:Qg Try.prog 76 res E) (ho:AllP [Qi Try.prog (.clos 59 [] []) [.rsl (rowI l) 0 l.length,.clos 84 [] []] (.int .i64 (XU (fun n=>!Qd n 0 1000) l))])
 (hr:AvLe (.bool (decide ((XU (fun n=>!Qd n 0 1000) l)≥0))) res):G Try.prog E [.code (Qb Try.prog 76)] ⟨[.rsl (rowI l) 0 l.length,.clos 84 [] []]++unds (Try.f76.ntmps - 2),[]⟩ :=
 Qa (n:=400) (evs:=[.v (.int .i64 (XU (fun n=>!Qd n 0 1000) l))]) (obs:=_) hE Try.func76 Qo (by kernel_rfl) ho hr
theorem f96sW (l:(List Int)) {E:Env} {rv:Bool} (hE:Qg Try.prog 76 (.bool rv) E)
 (h:((l.length≤9223372036854775807)∧rv=(decide ((XU (fun n=>!Qd n 0 1000) l)≥0)))):G Try.prog E [.code (Qb Try.prog 76)] ⟨[.rsl (rowI l) 0 l.length,.clos 84 [] []]++unds (Try.f76.ntmps - 2),[]⟩:=by
 obtain ⟨h1,h⟩:=h
 exact yo l hE ⟨(u59 (idxS_ok l h1)),trivial⟩ (AvLe.of_eq (by rw [h]; try rfl))
theorem anyS_ok (l:List Int) (h:l.length≤9223372036854775807):Pure Try.prog 76 [.rsl (rowI l) 0 l.length,.clos 84 [] []] (.bool (l.any fun n=>!Qd n 0 1000)):=Qs Try.func76 f76b fun E hE =>
 f96sW l hE ⟨h,(WR _ l).symm⟩
theorem f67b:Try.f67.body=some (Qb Try.prog 67):=by kernel_rfl
theorem u67 {a c k:List AV} {r:AV} (h:Pure Try.prog 67 (a++c++k) r):Qi Try.prog (.clos 67 a k) c r:=Qk Try.func67 (by kernel_rfl) f67b h
theorem p67_start_0 (m:Mch) (plan:List Int) {E:Env} {res:AV} (hE:Qg Try.prog 67 res E) (ho:AllP [Qi Try.prog (.clos 68 [] []) [.rptr [.rsl (Qe m.s.stages) 0 m.s.stages.length,.rsl (rowI m.s.worth) 0 m.s.worth.length,.int .i64 m.s.price,.rsl (rowI m.meas) 0 m.meas.length,.rsl (rowI m.mult) 0 m.mult.length] 0,.rsl (rowI plan) 0 plan.length] (.bool (QO m.s plan))])
 (hr:AvLe (.bool (QO m.s plan)) res):G Try.prog E [.code (Qb Try.prog 67)] ⟨[.rptr [.rsl (Qe m.s.stages) 0 m.s.stages.length,.rsl (rowI m.s.worth) 0 m.s.worth.length,.int .i64 m.s.price,.rsl (rowI m.meas) 0 m.meas.length,.rsl (rowI m.mult) 0 m.mult.length] 0,.rptr [.rsl (rowI plan) 0 plan.length] 0]++unds (Try.f67.ntmps - 2),[]⟩ :=
 Qa (n:=400) (evs:=[.v (.bool (QO m.s plan))]) (obs:=_) hE Try.func67 Qo (by kernel_rfl) ho hr
theorem f67W (m:Mch) (plan:List Int) {E:Env} {rv:Bool} (hE:Qg Try.prog 67 (.bool rv) E)
 (h:((MOk m)∧rv=(QO m.s plan))):G Try.prog E [.code (Qb Try.prog 67)] ⟨[.rptr [.rsl (Qe m.s.stages) 0 m.s.stages.length,.rsl (rowI m.s.worth) 0 m.s.worth.length,.int .i64 m.s.price,.rsl (rowI m.meas) 0 m.meas.length,.rsl (rowI m.mult) 0 m.mult.length] 0,.rptr [.rsl (rowI plan) 0 plan.length] 0]++unds (Try.f67.ntmps - 2),[]⟩:=by
 obtain ⟨h1,h⟩:=h
 exact p67_start_0 m plan hE ⟨(u68 (plan_ok m plan h1)),trivial⟩ (AvLe.of_eq (by rw [h]; try rfl))
theorem f83b:Try.f83.body=some (Qb Try.prog 83):=by kernel_rfl
theorem u83 {a c k:List AV} {r:AV} (h:Pure Try.prog 83 (a++c++k) r):Qi Try.prog (.clos 83 a k) c r:=Qk Try.func83 (by kernel_rfl) f83b h
theorem p83_start_0 (m:Mch) (stock:List Int) {E:Env} {res:AV} (hE:Qg Try.prog 83 res E) (ho:AllP [((stock.length:Int) == (m.s.worth.length:Int))=true,Qi Try.prog (.clos 76 [] []) [.rsl (rowI stock) 0 stock.length,.clos 84 [] []] (.bool (stock.any (fun n=>!Qd n 0 1000)))])
 (hr:AvLe (.bool (!(stock.any (fun n=>!Qd n 0 1000)))) res):G Try.prog E [.code (Qb Try.prog 83)] ⟨[.rptr [.rsl (Qe m.s.stages) 0 m.s.stages.length,.rsl (rowI m.s.worth) 0 m.s.worth.length,.int .i64 m.s.price,.rsl (rowI m.meas) 0 m.meas.length,.rsl (rowI m.mult) 0 m.mult.length] 0,.rptr [.rsl (rowI stock) 0 stock.length] 0]++unds (Try.f83.ntmps - 2),[]⟩ :=
 Qa (n:=400) (evs:=[.b true,.v (.bool (stock.any (fun n=>!Qd n 0 1000)))]) (obs:=_) hE Try.func83 Qo (by kernel_rfl) ho hr
theorem p83_start_1 (m:Mch) (stock:List Int) {E:Env} {res:AV} (hE:Qg Try.prog 83 res E) (ho:AllP [((stock.length:Int) == (m.s.worth.length:Int))=false])
 (hr:AvLe (.bool false) res):G Try.prog E [.code (Qb Try.prog 83)] ⟨[.rptr [.rsl (Qe m.s.stages) 0 m.s.stages.length,.rsl (rowI m.s.worth) 0 m.s.worth.length,.int .i64 m.s.price,.rsl (rowI m.meas) 0 m.meas.length,.rsl (rowI m.mult) 0 m.mult.length] 0,.rptr [.rsl (rowI stock) 0 stock.length] 0]++unds (Try.f83.ntmps - 2),[]⟩ :=
 Qa (n:=400) (evs:=[.b false]) (obs:=_) hE Try.func83 Qo (by kernel_rfl) ho hr
theorem f83W (m:Mch) (stock:List Int) {E:Env} {rv:Bool} (hE:Qg Try.prog 83 (.bool rv) E)
 (h:(((stock.length:Int)=(m.s.worth.length:Int)→((stock.length≤9223372036854775807)∧rv=(!(stock.any (fun n=>!Qd n 0 1000)))))∧(¬ ((stock.length:Int)=(m.s.worth.length:Int))→rv=false))):G Try.prog E [.code (Qb Try.prog 83)] ⟨[.rptr [.rsl (Qe m.s.stages) 0 m.s.stages.length,.rsl (rowI m.s.worth) 0 m.s.worth.length,.int .i64 m.s.price,.rsl (rowI m.meas) 0 m.meas.length,.rsl (rowI m.mult) 0 m.mult.length] 0,.rptr [.rsl (rowI stock) 0 stock.length] 0]++unds (Try.f83.ntmps - 2),[]⟩:=by
 rcases bft ((stock.length:Int) == (m.s.worth.length:Int)) with hc0 | hc0
 · have h:=h.1 (eq_of_beq hc0)
   obtain ⟨h1,h⟩:=h
   exact p83_start_0 m stock hE ⟨hc0,(u76 (anyS_ok stock h1)),trivial⟩ (AvLe.of_eq (by rw [h]; try rfl))
 · have h:=h.2 (ne_of_beq_false hc0)
   exact p83_start_1 m stock hE ⟨hc0,trivial⟩ (AvLe.of_eq (by rw [h]; try rfl))
theorem qA (m:Mch) (plan:List Int) (h:MOk m):Pure Try.prog 67 [.rptr (cMch m) 0,.rptr [.rsl (rowI plan) 0 plan.length] 0] (.bool (QO m.s plan)):=Qs Try.func67 f67b fun E hE=>f67W m plan (rv:=QO m.s plan) hE ⟨h,rfl⟩
def QV (m:Mch) (st:List Int):Bool:=decide (st.length=m.s.worth.length) && !(st.any fun n=>!Qd n 0 1000)
theorem qB (m:Mch) (stock:List Int) (h:stock.length≤9223372036854775807):Pure Try.prog 83 [.rptr (cMch m) 0,.rptr [.rsl (rowI stock) 0 stock.length] 0] (.bool (QV m stock)):=Qs Try.func83 f83b fun E hE =>
 f83W m stock (rv:=QV m stock) hE ⟨fun h1=>⟨h,by rw [QV,decide_eq_true (by omega)]; rfl⟩,fun h1=>by rw [QV,decide_eq_false (by omega)]; rfl⟩
def begR (s:Stl) (rt:Bool):AV:=if (Xx s).isSome=true then (if rt=true then .tup [.rptr (cMch (Qf s)) 0,.int .i64 0] else .tup [.nilPtr,.int .i64 1]) else .tup [.nilPtr,.int .i64 60]
theorem begR_T {s:Stl} {rt:Bool} (h0:(Xx s).isSome=true) (h1:rt=true):begR s rt=.tup [.rptr (cMch (Qf s)) 0,.int .i64 0]:=by rw [begR,if_pos h0,if_pos h1]
theorem yR {s:Stl} {rt:Bool} (h0:(Xx s).isSome=true) (h1:rt=false):begR s rt=.tup [.nilPtr,.int .i64 1]:=by rw [begR,if_pos h0,if_neg (by rw [h1]; simp)]
theorem yS {s:Stl} {rt:Bool} (h0:(Xx s).isSome=false):begR s rt=.tup [.nilPtr,.int .i64 60]:=by rw [begR,if_neg (by rw [h0]; simp)]
theorem Vr {s:Stl} (h:(Xx s).isSome=true):MOk (Qf s)∧(Qf s).s=s:=by
 obtain ⟨m,hm⟩:=Option.isSome_iff_exists.1 h
 rw [show Qf s=m by simp [Qf,hm]]
 exact mok_of hm
theorem yI:Try.f66.body=some (Qb Try.prog 66):=by kernel_rfl
theorem qq (s:Stl) (plan:List Int) {E:Env} {res:AV} (hE:Qg Try.prog 66 res E) (ho:AllP [Qi Try.prog (.clos 65 [] []) [.agg [.rsl (Qe s.stages) 0 s.stages.length,.rsl (rowI s.worth) 0 s.worth.length,.int .i64 s.price]] (.tup [.rptr [.rsl (Qe (((Qf s).s).stages)) 0 ((((Qf s).s).stages).length),.rsl (rowI (((Qf s).s).worth)) 0 ((((Qf s).s).worth).length),.int .i64 (((Qf s).s).price),.rsl (rowI ((Qf s).meas)) 0 (((Qf s).meas).length),.rsl (rowI ((Qf s).mult)) 0 (((Qf s).mult).length)] 0,.bool true]),false=false,Qi Try.prog (.clos 67 [] [.rptr [.rsl (rowI plan) 0 plan.length] 0]) [.rptr [.rsl (Qe (((Qf s).s).stages)) 0 ((((Qf s).s).stages).length),.rsl (rowI (((Qf s).s).worth)) 0 ((((Qf s).s).worth).length),.int .i64 (((Qf s).s).price),.rsl (rowI ((Qf s).meas)) 0 (((Qf s).meas).length),.rsl (rowI ((Qf s).mult)) 0 (((Qf s).mult).length)] 0] (.bool (QO (Qf s).s plan)),(!(QO (Qf s).s plan))=true])
 (hr:AvLe (.tup [.nilPtr,.int .i64 1]) res):G Try.prog E [.code (Qb Try.prog 66)] ⟨[.agg [.rsl (Qe s.stages) 0 s.stages.length,.rsl (rowI s.worth) 0 s.worth.length,.int .i64 s.price],.clos 67 [] [.rptr [.rsl (rowI plan) 0 plan.length] 0]]++unds (Try.f66.ntmps - 2),[]⟩ :=
 Qa (n:=400) (evs:=[.v (.tup [.rptr [.rsl (Qe (((Qf s).s).stages)) 0 ((((Qf s).s).stages).length),.rsl (rowI (((Qf s).s).worth)) 0 ((((Qf s).s).worth).length),.int .i64 (((Qf s).s).price),.rsl (rowI ((Qf s).meas)) 0 (((Qf s).meas).length),.rsl (rowI ((Qf s).mult)) 0 (((Qf s).mult).length)] 0,.bool true]),.b false,.v (.bool (QO (Qf s).s plan)),.b true]) (obs:=_) hE Try.func66 Qo (by kernel_rfl) ho hr
theorem qp (s:Stl) (plan:List Int) {E:Env} {res:AV} (hE:Qg Try.prog 66 res E) (ho:AllP [Qi Try.prog (.clos 65 [] []) [.agg [.rsl (Qe s.stages) 0 s.stages.length,.rsl (rowI s.worth) 0 s.worth.length,.int .i64 s.price]] (.tup [.rptr [.rsl (Qe (((Qf s).s).stages)) 0 ((((Qf s).s).stages).length),.rsl (rowI (((Qf s).s).worth)) 0 ((((Qf s).s).worth).length),.int .i64 (((Qf s).s).price),.rsl (rowI ((Qf s).meas)) 0 (((Qf s).meas).length),.rsl (rowI ((Qf s).mult)) 0 (((Qf s).mult).length)] 0,.bool true]),false=false,Qi Try.prog (.clos 67 [] [.rptr [.rsl (rowI plan) 0 plan.length] 0]) [.rptr [.rsl (Qe (((Qf s).s).stages)) 0 ((((Qf s).s).stages).length),.rsl (rowI (((Qf s).s).worth)) 0 ((((Qf s).s).worth).length),.int .i64 (((Qf s).s).price),.rsl (rowI ((Qf s).meas)) 0 (((Qf s).meas).length),.rsl (rowI ((Qf s).mult)) 0 (((Qf s).mult).length)] 0] (.bool (QO (Qf s).s plan)),(!(QO (Qf s).s plan))=false])
 (hr:AvLe (.tup [.rptr [.rsl (Qe (((Qf s).s).stages)) 0 ((((Qf s).s).stages).length),.rsl (rowI (((Qf s).s).worth)) 0 ((((Qf s).s).worth).length),.int .i64 (((Qf s).s).price),.rsl (rowI ((Qf s).meas)) 0 (((Qf s).meas).length),.rsl (rowI ((Qf s).mult)) 0 (((Qf s).mult).length)] 0,.int .i64 0]) res):G Try.prog E [.code (Qb Try.prog 66)] ⟨[.agg [.rsl (Qe s.stages) 0 s.stages.length,.rsl (rowI s.worth) 0 s.worth.length,.int .i64 s.price],.clos 67 [] [.rptr [.rsl (rowI plan) 0 plan.length] 0]]++unds (Try.f66.ntmps - 2),[]⟩ :=
 Qa (n:=400) (evs:=[.v (.tup [.rptr [.rsl (Qe (((Qf s).s).stages)) 0 ((((Qf s).s).stages).length),.rsl (rowI (((Qf s).s).worth)) 0 ((((Qf s).s).worth).length),.int .i64 (((Qf s).s).price),.rsl (rowI ((Qf s).meas)) 0 (((Qf s).meas).length),.rsl (rowI ((Qf s).mult)) 0 (((Qf s).mult).length)] 0,.bool true]),.b false,.v (.bool (QO (Qf s).s plan)),.b false]) (obs:=_) hE Try.func66 Qo (by kernel_rfl) ho hr
theorem qo (s:Stl) (plan:List Int) {E:Env} {res:AV} (hE:Qg Try.prog 66 res E) (ho:AllP [Qi Try.prog (.clos 65 [] []) [.agg [.rsl (Qe s.stages) 0 s.stages.length,.rsl (rowI s.worth) 0 s.worth.length,.int .i64 s.price]] (.tup [.nilPtr,.bool false]),true=true])
 (hr:AvLe (.tup [.nilPtr,.int .i64 60]) res):G Try.prog E [.code (Qb Try.prog 66)] ⟨[.agg [.rsl (Qe s.stages) 0 s.stages.length,.rsl (rowI s.worth) 0 s.worth.length,.int .i64 s.price],.clos 67 [] [.rptr [.rsl (rowI plan) 0 plan.length] 0]]++unds (Try.f66.ntmps - 2),[]⟩ :=
 Qa (n:=400) (evs:=[.v (.tup [.nilPtr,.bool false]),.b true]) (obs:=_) hE Try.func66 Qo (by kernel_rfl) ho hr
theorem f71x98W (s:Stl) (plan:List Int) {E:Env} {rv:AV} (hE:Qg Try.prog 66 rv E)
 (h:((((Xx s).isSome)=true→((s.stages.length≤9223372036854775807∧s.worth.length≤9223372036854775807)∧((MOk (Qf s))∧(((QO (Qf s).s plan)=false→rv=(.tup [.nilPtr,.int .i64 1]))∧((QO (Qf s).s plan)=true→rv=(.tup [.rptr [.rsl (Qe (((Qf s).s).stages)) 0 ((((Qf s).s).stages).length),.rsl (rowI (((Qf s).s).worth)) 0 ((((Qf s).s).worth).length),.int .i64 (((Qf s).s).price),.rsl (rowI ((Qf s).meas)) 0 (((Qf s).meas).length),.rsl (rowI ((Qf s).mult)) 0 (((Qf s).mult).length)] 0,.int .i64 0]))))))∧(((Xx s).isSome)=false→((s.stages.length≤9223372036854775807∧s.worth.length≤9223372036854775807)∧rv=(.tup [.nilPtr,.int .i64 60]))))):G Try.prog E [.code (Qb Try.prog 66)] ⟨[.agg [.rsl (Qe s.stages) 0 s.stages.length,.rsl (rowI s.worth) 0 s.worth.length,.int .i64 s.price],.clos 67 [] [.rptr [.rsl (rowI plan) 0 plan.length] 0]]++unds (Try.f66.ntmps - 2),[]⟩:=by
 rcases bft ((Xx s).isSome) with hc0 | hc0
 · have h:=h.1 hc0
   obtain ⟨h1,h⟩:=h
   obtain ⟨h2,h⟩:=h
   rcases bft (!(QO (Qf s).s plan)) with hc1 | hc1
   · have h:=h.1 (bnT hc1)
     exact qq s plan hE ⟨(u65 (YB s h1 hc0)),rfl,(u67 (qA (Qf s) plan h2)),hc1,trivial⟩ (AvLe.of_eq (by rw [h]; try rfl))
   · have h:=h.2 (bnF hc1)
     exact qp s plan hE ⟨(u65 (YB s h1 hc0)),rfl,(u67 (qA (Qf s) plan h2)),hc1,trivial⟩ (AvLe.of_eq (by rw [h]; try rfl))
 · have h:=h.2 hc0
   obtain ⟨h1,h⟩:=h
   exact qo s plan hE ⟨(u65 (WK s h1 hc0)),rfl,trivial⟩ (AvLe.of_eq (by rw [h]; try rfl))
theorem yT (s:Stl) (plan:List Int) (h:s.stages.length≤9223372036854775807∧s.worth.length≤9223372036854775807):Pure Try.prog 66 [.agg [.rsl (Qe s.stages) 0 s.stages.length,.rsl (rowI s.worth) 0 s.worth.length,.int .i64 s.price],.clos 67 [] [.rptr [.rsl (rowI plan) 0 plan.length] 0]] (begR s (QO (Qf s).s plan)):=Qs Try.func66 yI fun E hE=>by
 refine f71x98W s plan (rv:=begR s (QO (Qf s).s plan)) hE ⟨fun h0=>⟨h,?_⟩,fun h0=>⟨h,yS h0⟩⟩
 have hm:=(Vr h0).1
 have hw:=(QH hm.st).2.1
 have hs:=(QH hm.st).1
 exact ⟨hm,⟨fun h1=>yR h0 h1,fun h1=>begR_T h0 h1⟩⟩
theorem yJ:Try.f66.body=some (Qb Try.prog 66):=by kernel_rfl
theorem qt (s:Stl) (stock:List Int) {E:Env} {res:AV} (hE:Qg Try.prog 66 res E) (ho:AllP [Qi Try.prog (.clos 65 [] []) [.agg [.rsl (Qe s.stages) 0 s.stages.length,.rsl (rowI s.worth) 0 s.worth.length,.int .i64 s.price]] (.tup [.rptr [.rsl (Qe (((Qf s).s).stages)) 0 ((((Qf s).s).stages).length),.rsl (rowI (((Qf s).s).worth)) 0 ((((Qf s).s).worth).length),.int .i64 (((Qf s).s).price),.rsl (rowI ((Qf s).meas)) 0 (((Qf s).meas).length),.rsl (rowI ((Qf s).mult)) 0 (((Qf s).mult).length)] 0,.bool true]),false=false,Qi Try.prog (.clos 83 [] [.rptr [.rsl (rowI stock) 0 stock.length] 0]) [.rptr [.rsl (Qe (((Qf s).s).stages)) 0 ((((Qf s).s).stages).length),.rsl (rowI (((Qf s).s).worth)) 0 ((((Qf s).s).worth).length),.int .i64 (((Qf s).s).price),.rsl (rowI ((Qf s).meas)) 0 (((Qf s).meas).length),.rsl (rowI ((Qf s).mult)) 0 (((Qf s).mult).length)] 0] (.bool (QV (Qf s) stock)),(!(QV (Qf s) stock))=true])
 (hr:AvLe (.tup [.nilPtr,.int .i64 1]) res):G Try.prog E [.code (Qb Try.prog 66)] ⟨[.agg [.rsl (Qe s.stages) 0 s.stages.length,.rsl (rowI s.worth) 0 s.worth.length,.int .i64 s.price],.clos 83 [] [.rptr [.rsl (rowI stock) 0 stock.length] 0]]++unds (Try.f66.ntmps - 2),[]⟩ :=
 Qa (n:=400) (evs:=[.v (.tup [.rptr [.rsl (Qe (((Qf s).s).stages)) 0 ((((Qf s).s).stages).length),.rsl (rowI (((Qf s).s).worth)) 0 ((((Qf s).s).worth).length),.int .i64 (((Qf s).s).price),.rsl (rowI ((Qf s).meas)) 0 (((Qf s).meas).length),.rsl (rowI ((Qf s).mult)) 0 (((Qf s).mult).length)] 0,.bool true]),.b false,.v (.bool (QV (Qf s) stock)),.b true]) (obs:=_) hE Try.func66 Qo (by kernel_rfl) ho hr
theorem qs (s:Stl) (stock:List Int) {E:Env} {res:AV} (hE:Qg Try.prog 66 res E) (ho:AllP [Qi Try.prog (.clos 65 [] []) [.agg [.rsl (Qe s.stages) 0 s.stages.length,.rsl (rowI s.worth) 0 s.worth.length,.int .i64 s.price]] (.tup [.rptr [.rsl (Qe (((Qf s).s).stages)) 0 ((((Qf s).s).stages).length),.rsl (rowI (((Qf s).s).worth)) 0 ((((Qf s).s).worth).length),.int .i64 (((Qf s).s).price),.rsl (rowI ((Qf s).meas)) 0 (((Qf s).meas).length),.rsl (rowI ((Qf s).mult)) 0 (((Qf s).mult).length)] 0,.bool true]),false=false,Qi Try.prog (.clos 83 [] [.rptr [.rsl (rowI stock) 0 stock.length] 0]) [.rptr [.rsl (Qe (((Qf s).s).stages)) 0 ((((Qf s).s).stages).length),.rsl (rowI (((Qf s).s).worth)) 0 ((((Qf s).s).worth).length),.int .i64 (((Qf s).s).price),.rsl (rowI ((Qf s).meas)) 0 (((Qf s).meas).length),.rsl (rowI ((Qf s).mult)) 0 (((Qf s).mult).length)] 0] (.bool (QV (Qf s) stock)),(!(QV (Qf s) stock))=false])
 (hr:AvLe (.tup [.rptr [.rsl (Qe (((Qf s).s).stages)) 0 ((((Qf s).s).stages).length),.rsl (rowI (((Qf s).s).worth)) 0 ((((Qf s).s).worth).length),.int .i64 (((Qf s).s).price),.rsl (rowI ((Qf s).meas)) 0 (((Qf s).meas).length),.rsl (rowI ((Qf s).mult)) 0 (((Qf s).mult).length)] 0,.int .i64 0]) res):G Try.prog E [.code (Qb Try.prog 66)] ⟨[.agg [.rsl (Qe s.stages) 0 s.stages.length,.rsl (rowI s.worth) 0 s.worth.length,.int .i64 s.price],.clos 83 [] [.rptr [.rsl (rowI stock) 0 stock.length] 0]]++unds (Try.f66.ntmps - 2),[]⟩ :=
 Qa (n:=400) (evs:=[.v (.tup [.rptr [.rsl (Qe (((Qf s).s).stages)) 0 ((((Qf s).s).stages).length),.rsl (rowI (((Qf s).s).worth)) 0 ((((Qf s).s).worth).length),.int .i64 (((Qf s).s).price),.rsl (rowI ((Qf s).meas)) 0 (((Qf s).meas).length),.rsl (rowI ((Qf s).mult)) 0 (((Qf s).mult).length)] 0,.bool true]),.b false,.v (.bool (QV (Qf s) stock)),.b false]) (obs:=_) hE Try.func66 Qo (by kernel_rfl) ho hr
theorem qr (s:Stl) (stock:List Int) {E:Env} {res:AV} (hE:Qg Try.prog 66 res E) (ho:AllP [Qi Try.prog (.clos 65 [] []) [.agg [.rsl (Qe s.stages) 0 s.stages.length,.rsl (rowI s.worth) 0 s.worth.length,.int .i64 s.price]] (.tup [.nilPtr,.bool false]),true=true])
 (hr:AvLe (.tup [.nilPtr,.int .i64 60]) res):G Try.prog E [.code (Qb Try.prog 66)] ⟨[.agg [.rsl (Qe s.stages) 0 s.stages.length,.rsl (rowI s.worth) 0 s.worth.length,.int .i64 s.price],.clos 83 [] [.rptr [.rsl (rowI stock) 0 stock.length] 0]]++unds (Try.f66.ntmps - 2),[]⟩ :=
 Qa (n:=400) (evs:=[.v (.tup [.nilPtr,.bool false]),.b true]) (obs:=_) hE Try.func66 Qo (by kernel_rfl) ho hr
theorem f71x95W (s:Stl) (stock:List Int) {E:Env} {rv:AV} (hE:Qg Try.prog 66 rv E)
 (h:((((Xx s).isSome)=true→((s.stages.length≤9223372036854775807∧s.worth.length≤9223372036854775807)∧((stock.length≤9223372036854775807)∧(((QV (Qf s) stock)=false→rv=(.tup [.nilPtr,.int .i64 1]))∧((QV (Qf s) stock)=true→rv=(.tup [.rptr [.rsl (Qe (((Qf s).s).stages)) 0 ((((Qf s).s).stages).length),.rsl (rowI (((Qf s).s).worth)) 0 ((((Qf s).s).worth).length),.int .i64 (((Qf s).s).price),.rsl (rowI ((Qf s).meas)) 0 (((Qf s).meas).length),.rsl (rowI ((Qf s).mult)) 0 (((Qf s).mult).length)] 0,.int .i64 0]))))))∧(((Xx s).isSome)=false→((s.stages.length≤9223372036854775807∧s.worth.length≤9223372036854775807)∧rv=(.tup [.nilPtr,.int .i64 60]))))):G Try.prog E [.code (Qb Try.prog 66)] ⟨[.agg [.rsl (Qe s.stages) 0 s.stages.length,.rsl (rowI s.worth) 0 s.worth.length,.int .i64 s.price],.clos 83 [] [.rptr [.rsl (rowI stock) 0 stock.length] 0]]++unds (Try.f66.ntmps - 2),[]⟩:=by
 rcases bft ((Xx s).isSome) with hc0 | hc0
 · have h:=h.1 hc0
   obtain ⟨h1,h⟩:=h
   obtain ⟨h2,h⟩:=h
   rcases bft (!(QV (Qf s) stock)) with hc1 | hc1
   · have h:=h.1 (bnT hc1)
     exact qt s stock hE ⟨(u65 (YB s h1 hc0)),rfl,(u83 (qB (Qf s) stock h2)),hc1,trivial⟩ (AvLe.of_eq (by rw [h]; try rfl))
   · have h:=h.2 (bnF hc1)
     exact qs s stock hE ⟨(u65 (YB s h1 hc0)),rfl,(u83 (qB (Qf s) stock h2)),hc1,trivial⟩ (AvLe.of_eq (by rw [h]; try rfl))
 · have h:=h.2 hc0
   obtain ⟨h1,h⟩:=h
   exact qr s stock hE ⟨(u65 (WK s h1 hc0)),rfl,trivial⟩ (AvLe.of_eq (by rw [h]; try rfl))
theorem yU (s:Stl) (stock:List Int) (h:(s.stages.length≤9223372036854775807∧s.worth.length≤9223372036854775807)∧stock.length≤9223372036854775807):Pure Try.prog 66 [.agg [.rsl (Qe s.stages) 0 s.stages.length,.rsl (rowI s.worth) 0 s.worth.length,.int .i64 s.price],.clos 83 [] [.rptr [.rsl (rowI stock) 0 stock.length] 0]] (begR s (QV (Qf s) stock)):=Qs Try.func66 yJ fun E hE=>by
 refine f71x95W s stock (rv:=begR s (QV (Qf s) stock)) hE ⟨fun h0=>⟨h.1,?_⟩,fun h0=>⟨h.1,yS h0⟩⟩
 have hm:=(Vr h0).1
 have hw:=(QH hm.st).2.1
 have hs:=(QH hm.st).1
 exact ⟨h.2,⟨fun h1=>yR h0 h1,fun h1=>begR_T h0 h1⟩⟩
end Go.Proofs.Ytemklbioijmjiaa
namespace Go.Proofs.Ytemklbioijmjiaa
open Go Ax
open Go.Proofs
/-! ### What the values are,in the end -/
/-! ### Who chooses -/
/-! ### The reference's greatest common divisor is the program's -/
/-! ### What an end is worth -/
theorem Xs {s:Stl} (h:XS s=0):(Xx s).isSome=true:=by
 unfold XS at h
 split at h
 · assumption
 · omega
end Go.Proofs.Ytemklbioijmjiaa
namespace Go.Proofs.Ytemklbioijmjiaa
open Go Ax
open Go.Proofs
abbrev avStl (s:Stl):AV:=.agg [.rsl (Qe s.stages) 0 s.stages.length,.rsl (rowI s.worth) 0 s.worth.length,.int .i64 s.price]
theorem Yu {s:Stl}:(Xx s).isSome=true ↔ XS s=0:=by
 unfold XS; split <;> simp_all
def WE (s:Stl) (plan:List Int):Int:=if XS s=0 then (if QO s plan=true then 0 else 1) else 60
theorem planE_of {s:Stl} {plan:List Int} (h:WE s plan=0):XS s=0∧QO s plan=true:=by
 unfold WE at h
 split at h
 · rename_i h0
   split at h
   · rename_i h1; exact ⟨h0,h1⟩
   · omega
 · omega
/-! ### The end values of a machine,turn by turn -/
end Go.Proofs.Ytemklbioijmjiaa
namespace Go.Proofs.Ytemklbioijmjiaa
open Go Ax
open Go.Proofs
/-! ### Fractions -/
/-! ### Planned -/
theorem planE_eq {s:Stl} {plan:List Int} (h:(Xx s).isSome=true):WE s plan=if QO (Qf s).s plan=true then 0 else 1:=by
 rw [WE,if_pos (Yu.1 h),(Vr h).2]
theorem price_bd {s:Stl} (h:XS s=0):0≤s.price∧s.price≤10000:=by
 obtain ⟨hm,es⟩:=Vr (Xs h)
 have:=(QH hm.st).2.2.2.1
 rw [es] at this; exact this
end Go.Proofs.Ytemklbioijmjiaa
namespace Go.Proofs.Ytemklbioijmjiaa
open Go Ax
open Go.Proofs
theorem worth_len {s:Stl} (h:XS s=0):s.worth.length≤8:=by
 obtain ⟨hm,es⟩:=Vr (Xs h)
 have:=(QH hm.st).2.1
 rw [es] at this; exact this
end Go.Proofs.Ytemklbioijmjiaa
namespace Go.Proofs.Ytemklbioijmjiaa
open Go Ax
open Go.Proofs
def Vs (r:List Bool):List Trn→List Bool
 | []=>r
 | t :: ts=>Vs (r.set (Int.toNat t.to) true) ts
theorem markT_len:∀ {ts:List Trn} {r:List Bool},(Vs r ts).length=r.length
 | [],r=>rfl
 | t :: ts,r=>by simp only [Vs]; rw [markT_len,List.length_set]
theorem WM:∀ {ts:List Trn} {r:List Bool} {j:Nat},(∀ t ∈ ts,j<Int.toNat t.to)→(Vs r ts).getD j false=r.getD j false
 | [],r,j,_=>rfl
 | t :: ts,r,j,h=>by
  simp only [Vs]
  rw [WM fun t ht=>h t (by simp [ht])]
  have:=h t (by simp)
  simp [List.getD,List.getElem?_set_ne (show Int.toNat t.to ≠ j by omega)]
def Xr (s:Stl):Nat→List Bool
 | 0=>(List.replicate s.stages.length false).set 0 true
 | i+1=>if (Xr s i).getD i false=true then Vs (Xr s i) (s.stages.getD i ⟨0,0,[]⟩).turns else Xr s i
def VZ (s:Stl):List Bool:=Xr s s.stages.length
theorem YX {s:Stl}:∀ {i:Nat},(Xr s i).length=s.stages.length
 | 0=>by simp [Xr]
 | i+1=>by
  have:=YX (s:=s) (i:=i)
  simp only [Xr]
  split
  · rw [markT_len,this]
  · exact this
theorem Vg {s:Stl} (hform:∀ j,j<s.stages.length→Xu s j=true) {j:Nat}:∀ {d:Nat},(Xr s (j+d)).getD j false=(Xr s j).getD j false
 | 0=>rfl
 | d+1=>by
  have ih:=Vg hform (j:=j) (d:=d)
  rw [← ih]
  rw [show j+(d+1)=(j+d)+1 by omega]
  simp only [Xr]
  split
  · apply WM
    intro t ht
    cases hx:s.stages[j+d]? with
    | none=>simp [List.getD,hx] at ht
    | some x =>
     simp [List.getD,hx] at ht
     have:=(YA hx (hform _ (List.getElem?_eq_some_iff.1 hx).1) t ht).1
     omega
  · rfl
theorem Vl {s:Stl} (hform:∀ j,j<s.stages.length→Xu s j=true) {j:Nat} (hj:j≤s.stages.length):(VZ s).getD j false=(Xr s j).getD j false:=by
 have:=Vg hform (j:=j) (d:=s.stages.length - j)
 rw [show j+(s.stages.length - j)=s.stages.length by omega] at this
 exact this
theorem getB {l:List Bool} {i:Nat} (h:i<l.length):l[i]?=some (l.getD i false):=by
 have hg:l[i]?=some l[i]:=List.getElem?_eq_getElem h
 simp [List.getD,hg]
def leastS (x:Stg) (r:Bool) (stock:List Int) (l:Int):Int :=
 if r=true∧x.kind=4∧x.prize≥0∧(l<0 ∨ stock.getD (Int.toNat x.prize) 0<l) then stock.getD (Int.toNat x.prize) 0 else l
def XP (s:Stl) (stock:List Int):Nat→Int
 | 0=>-1
 | i+1=>leastS (s.stages.getD i ⟨0,0,[]⟩) ((VZ s).getD i false) stock (XP s stock i)
def lastsR (l:Int):Int × Int:=if l<0 then (0,3) else (l,0)
def QD (s:Stl) (stock:List Int):Int × Int:=if XS s=0 then (if QV (Qf s) stock=true then lastsR (XP s stock s.stages.length) else (0,1)) else (0,60)
theorem f32b:Try.f32.body=some (Qb Try.prog 32):=by kernel_rfl
theorem u32 {a c k:List AV} {r:AV} (h:Pure Try.prog 32 (a++c++k) r):Qi Try.prog (.clos 32 a k) c r:=Qk Try.func32 (by kernel_rfl) f32b h
def Wp (P:Program):List Item:=kAt 400 [.code (Qb P 32)] [.b false,.stop]
def f32S0 (s:Stl) (stock:(List Int)) (v2:List Bool) (i:Nat) (least:Int) (g2:Nat):St:=⟨([J,J,J,.rptr [.rsl (rowI stock) 0 stock.length] 0,J,J,J,J,.int .i64 least,.sl 2 g2 0 v2.length 1]++jj 26 ([.rsl (Qe (((Qf s).s).stages)) 0 ((((Qf s).s).stages).length),.int .i64 (((((Qf s).s).stages).length:Nat):Int),.int .i64 (i:Int)]++Js 51)),[⟨true,0,1,true,[.rsl (Qe s.stages) 0 s.stages.length,.rsl (rowI s.worth) 0 s.worth.length,.int .i64 s.price],false⟩,⟨false,1,1,true,[],false⟩,⟨true,g2,1,true,(rowB v2),true⟩]⟩
def qu (E:Env) (s:Stl) (stock:(List Int)) (v2:List Bool) (i:Nat) (least:Int):Prop:=∀ g2:Nat,G Try.prog E (Wp Try.prog) (f32S0 s stock v2 i least g2)
def yK (P:Program):List Item:=kAt 400 [.code (Qb P 32)] [.b false,.b true,.b false,.stop]
def f32S1 (s:Stl) (stock:(List Int)) (k:Nat) (k1:(List Trn)) (k11:Nat) (v2:List Bool) (v3_0:Int) (v3_1:Int) (v3_2:(List Trn)) (k111:Nat) (least:Int) (g2:Nat):St:=⟨([J,J,J,.rptr [.rsl (rowI stock) 0 stock.length] 0,J,J,J,J,.int .i64 least,.sl 2 g2 0 v2.length 1,J,.ptr 3 0 0]++jj 24 ([.rsl (Qe (((Qf s).s).stages)) 0 ((((Qf s).s).stages).length),.int .i64 (((((Qf s).s).stages).length:Nat):Int),.int .i64 (k:Int)]++jj 10 ([.rsl (Qn k1) 0 k1.length,.int .i64 (k11:Int),.int .i64 (k111:Int)]++Js 38))),[⟨true,0,1,true,[.rsl (Qe s.stages) 0 s.stages.length,.rsl (rowI s.worth) 0 s.worth.length,.int .i64 s.price],false⟩,⟨false,1,1,true,[],false⟩,⟨true,g2,1,true,(rowB v2),true⟩,⟨true,0,1,true,[.int .i64 v3_0,.int .i64 v3_1,.rsl (Qn v3_2) 0 v3_2.length],false⟩]⟩
def f32G1 (E:Env) (s:Stl) (stock:(List Int)) (k:Nat) (k1:(List Trn)) (k11:Nat) (v2:List Bool) (v3_0:Int) (v3_1:Int) (v3_2:(List Trn)) (k111:Nat) (least:Int):Prop:=∀ g2:Nat,G Try.prog E (yK Try.prog) (f32S1 s stock k k1 k11 v2 v3_0 v3_1 v3_2 k111 least g2)
theorem p32_start_0 (s:Stl) (stock:(List Int)) (eb:Bool) {E:Env} {rv:AV} (hE:Qg Try.prog 32 rv E) (ho:AllP [Qi Try.prog (.clos 66 [] []) [.agg [.rsl (Qe s.stages) 0 s.stages.length,.rsl (rowI s.worth) 0 s.worth.length,.int .i64 s.price],.clos 83 [] [.rptr [.rsl (rowI stock) 0 stock.length] 0]] (.tup [.rptr [.rsl (Qe (((Qf s).s).stages)) 0 ((((Qf s).s).stages).length),.rsl (rowI (((Qf s).s).worth)) 0 ((((Qf s).s).worth).length),.int .i64 (((Qf s).s).price),.rsl (rowI ((Qf s).meas)) 0 (((Qf s).meas).length),.rsl (rowI ((Qf s).mult)) 0 (((Qf s).mult).length)] 0,.int .i64 0]),false=false,0≤(((((Qf s).s).stages).length:Nat):Int)∧(((((Qf s).s).stages).length:Nat):Int)≤(((((Qf s).s).stages).length:Nat):Int)∧(((((Qf s).s).stages).length:Nat):Int)≤2147483648,(0:Int)≤0∧(0:Int)<(((Int.toNat (((((Qf s).s).stages).length:Nat):Int)):Nat):Int),0=0,((0+0*1)+1)≤((List.replicate (Int.toNat (((((Qf s).s).stages).length:Nat):Int)) ([.bool false]:List AV)).flatten).length,0=0])
 (hg:G Try.prog E (Wp Try.prog) ⟨([J,J,J,.rptr [.rsl (rowI stock) 0 stock.length] 0,J,J,J,J,.int .i64 (-1),.sl 2 0 0 (Int.toNat (((((Qf s).s).stages).length:Nat):Int)) 1]++jj 26 ([.rsl (Qe (((Qf s).s).stages)) 0 ((((Qf s).s).stages).length),.int .i64 (((((Qf s).s).stages).length:Nat):Int),.int .i64 0]++Js 51)),[⟨true,0,1,true,[.rsl (Qe s.stages) 0 s.stages.length,.rsl (rowI s.worth) 0 s.worth.length,.int .i64 s.price],false⟩,⟨false,1,1,true,[],false⟩,⟨true,0,1,true,(Qu ((List.replicate (Int.toNat (((((Qf s).s).stages).length:Nat):Int)) ([.bool false]:List AV)).flatten) (0+0*1) [.bool true]),true⟩]⟩):G Try.prog E [.code (Qb Try.prog 32)] ⟨[.agg [.rsl (Qe s.stages) 0 s.stages.length,.rsl (rowI s.worth) 0 s.worth.length,.int .i64 s.price],.rsl (rowI stock) 0 stock.length]++unds (Try.f32.ntmps - 2),[]⟩ :=
 Qh (n:=400) (ds:=[]) (cs:=[]) (live:=[3,8,9,36,37,38]) (m:=3) (evs:=[.wt 3,.v (.tup [.rptr [.rsl (Qe (((Qf s).s).stages)) 0 ((((Qf s).s).stages).length),.rsl (rowI (((Qf s).s).worth)) 0 ((((Qf s).s).worth).length),.int .i64 (((Qf s).s).price),.rsl (rowI ((Qf s).meas)) 0 (((Qf s).meas).length),.rsl (rowI ((Qf s).mult)) 0 (((Qf s).mult).length)] 0,.int .i64 0]),.b false,.stop]) (obs:=_) hE.2.1 (hE.nogh _) Qo (by kernel_rfl) ho hg
theorem p32_start_1 (s:Stl) (stock:(List Int)) {E:Env} {res:AV} (hE:Qg Try.prog 32 res E) (ho:AllP [Qi Try.prog (.clos 66 [] []) [.agg [.rsl (Qe s.stages) 0 s.stages.length,.rsl (rowI s.worth) 0 s.worth.length,.int .i64 s.price],.clos 83 [] [.rptr [.rsl (rowI stock) 0 stock.length] 0]] (.tup [.nilPtr,.int .i64 1]),true=true])
 (hr:AvLe (.tup [.int .i64 0,.int .i64 1]) res):G Try.prog E [.code (Qb Try.prog 32)] ⟨[.agg [.rsl (Qe s.stages) 0 s.stages.length,.rsl (rowI s.worth) 0 s.worth.length,.int .i64 s.price],.rsl (rowI stock) 0 stock.length]++unds (Try.f32.ntmps - 2),[]⟩ :=
 Qa (n:=400) (evs:=[.wt 3,.v (.tup [.nilPtr,.int .i64 1]),.b true]) (obs:=_) hE Try.func32 Qo (by kernel_rfl) ho hr
theorem p32_start_2 (s:Stl) (stock:(List Int)) {E:Env} {res:AV} (hE:Qg Try.prog 32 res E) (ho:AllP [Qi Try.prog (.clos 66 [] []) [.agg [.rsl (Qe s.stages) 0 s.stages.length,.rsl (rowI s.worth) 0 s.worth.length,.int .i64 s.price],.clos 83 [] [.rptr [.rsl (rowI stock) 0 stock.length] 0]] (.tup [.nilPtr,.int .i64 60]),true=true])
 (hr:AvLe (.tup [.int .i64 0,.int .i64 60]) res):G Try.prog E [.code (Qb Try.prog 32)] ⟨[.agg [.rsl (Qe s.stages) 0 s.stages.length,.rsl (rowI s.worth) 0 s.worth.length,.int .i64 s.price],.rsl (rowI stock) 0 stock.length]++unds (Try.f32.ntmps - 2),[]⟩ :=
 Qa (n:=400) (evs:=[.wt 3,.v (.tup [.nilPtr,.int .i64 60]),.b true]) (obs:=_) hE Try.func32 Qo (by kernel_rfl) ho hr
theorem f32W (s:Stl) (stock:(List Int)) {E:Env} {rv:(Int × Int)} (hE:Qg Try.prog 32 (.tup [.int .i64 rv.1,.int .i64 rv.2]) E)
 (h:((((Xx s).isSome)=true→(((QV (Qf s) stock)=true→(((s.stages.length≤9223372036854775807∧s.worth.length≤9223372036854775807)∧stock.length≤9223372036854775807)∧(((((Qf s).s).stages).length)≤2147483648∧(∃ eb:Bool,(List.replicate ((((Qf s).s).stages).length) (false:Bool))[0]?=some eb∧qu E s stock ((List.replicate ((((Qf s).s).stages).length) (false:Bool)).set 0 true) 0 (-1)))))∧((QV (Qf s) stock)=false→(((s.stages.length≤9223372036854775807∧s.worth.length≤9223372036854775807)∧stock.length≤9223372036854775807)∧rv=(0,1)))))∧(((Xx s).isSome)=false→(((s.stages.length≤9223372036854775807∧s.worth.length≤9223372036854775807)∧stock.length≤9223372036854775807)∧rv=(0,60))))):G Try.prog E [.code (Qb Try.prog 32)] ⟨[.agg [.rsl (Qe s.stages) 0 s.stages.length,.rsl (rowI s.worth) 0 s.worth.length,.int .i64 s.price],.rsl (rowI stock) 0 stock.length]++unds (Try.f32.ntmps - 2),[]⟩:=by
 rcases bft ((Xx s).isSome) with hc0 | hc0
 · have h:=h.1 hc0
   rcases bft (QV (Qf s) stock) with hc1 | hc1
   · have h:=h.1 hc1
     obtain ⟨h1,h⟩:=h
     obtain ⟨h2,h⟩:=h
     obtain ⟨eb,h3,h⟩:=h
     refine p32_start_0 s stock eb hE ⟨(Qk Try.func66 (by kernel_rfl) yJ (begR_T hc0 hc1 ▸ yU s stock h1)),rfl,⟨by omega,by omega,by have:=h2; omega⟩,(by have hx:=Qq h3; simpa using hx),rfl,(by rw [(show (List.replicate (Int.toNat (((((Qf s).s).stages).length:Nat):Int)) ([.bool false]:List AV)).flatten=rowB (List.replicate ((((Qf s).s).stages).length) (false:Bool)) from Vf cB _ _)]; exact rf cB 1 0 1 h3),rfl,trivial⟩ ?_
     have h:=(h 0)
     simp only [qu,f32S0,List.length_set,List.length_replicate] at h
     rw [(show (List.replicate (Int.toNat (((((Qf s).s).stages).length:Nat):Int)) ([.bool false]:List AV)).flatten=rowB (List.replicate ((((Qf s).s).stages).length) (false:Bool)) from Vf cB _ _)]; rw [(show Qu (rowB (List.replicate ((((Qf s).s).stages).length) (false:Bool))) (0+0*1) [.bool true]=rowB ((List.replicate ((((Qf s).s).stages).length) (false:Bool)).set 0 true) from QE cB (s:=1) (k:=0) (fun _=>rfl) h3 rfl (by first | decide | simp))]
     exact h
   · have h:=h.2 hc1
     obtain ⟨h1,h⟩:=h
     exact p32_start_1 s stock hE ⟨(Qk Try.func66 (by kernel_rfl) yJ (yR hc0 hc1 ▸ yU s stock h1)),rfl,trivial⟩ (AvLe.of_eq (by rw [h]; try rfl))
 · have h:=h.2 hc0
   obtain ⟨h1,h⟩:=h
   exact p32_start_2 s stock hE ⟨(Qk Try.func66 (by kernel_rfl) yJ (yS hc0 ▸ yU s stock h1)),rfl,trivial⟩ (AvLe.of_eq (by rw [h]; try rfl))
theorem p32_0_0 (s:Stl) (stock:(List Int)) (v2:List Bool) (i:Nat) (least:Int) (g2:Nat) (se:Stg) (eb:Bool) {E:Env} {rv:AV} (hE:Qg Try.prog 32 rv E) (ho:AllP [(decide ((i:Int)<(((((Qf s).s).stages).length:Nat):Int)))=true,0≤(i:Int)∧(i:Int)<(((((Qf s).s).stages).length:Nat):Int),((Qe (((Qf s).s).stages)).drop (0+(Int.toNat (i:Int))*3)).take 3=[.int .i64 se.kind,.int .i64 se.prize,.rsl (Qn se.turns) 0 se.turns.length],3≤3,0≤(i:Int)∧(i:Int)<(v2.length:Int),g2=g2,g2=g2,((rowB v2).drop (0+(Int.toNat (i:Int))*1)).take 1=[.bool eb],(!eb)=true,InR .i64 ((i:Int)+1)])
 (hg:G Try.prog E (Wp Try.prog) ⟨([J,J,J,.rptr [.rsl (rowI stock) 0 stock.length] 0,J,J,J,J,.int .i64 least,.sl 2 g2 0 v2.length 1]++jj 26 ([.rsl (Qe (((Qf s).s).stages)) 0 ((((Qf s).s).stages).length),.int .i64 (((((Qf s).s).stages).length:Nat):Int),.int .i64 ((i:Int)+1)]++Js 51)),[⟨true,0,1,true,[.rsl (Qe s.stages) 0 s.stages.length,.rsl (rowI s.worth) 0 s.worth.length,.int .i64 s.price],false⟩,⟨false,1,1,true,[],false⟩,⟨true,g2,1,true,(rowB v2),true⟩]⟩):G Try.prog E (Wp Try.prog) (f32S0 s stock v2 i least g2) :=
 Qh (n:=400) (ds:=[]) (cs:=[]) (live:=[3,8,9,36,37,38]) (m:=3) (evs:=[.b true,.ld (.agg [.int .i64 se.kind,.int .i64 se.prize,.rsl (Qn se.turns) 0 se.turns.length]),.ld (.bool eb),.b true,.stop]) (obs:=_) hE.2.1 (hE.nogh _) Qo (by kernel_rfl) ho hg
theorem p32_0_1 (s:Stl) (stock:(List Int)) (v2:List Bool) (i:Nat) (least:Int) (g2:Nat) (se:Stg) (eb:Bool) {E:Env} {rv:AV} (hE:Qg Try.prog 32 rv E) (ho:AllP [(decide ((i:Int)<(((((Qf s).s).stages).length:Nat):Int)))=true,0≤(i:Int)∧(i:Int)<(((((Qf s).s).stages).length:Nat):Int),((Qe (((Qf s).s).stages)).drop (0+(Int.toNat (i:Int))*3)).take 3=[.int .i64 se.kind,.int .i64 se.prize,.rsl (Qn se.turns) 0 se.turns.length],3≤3,0≤(i:Int)∧(i:Int)<(v2.length:Int),g2=g2,g2=g2,((rowB v2).drop (0+(Int.toNat (i:Int))*1)).take 1=[.bool eb],(!eb)=false])
 (hg:G Try.prog E (yK Try.prog) ⟨([J,J,J,.rptr [.rsl (rowI stock) 0 stock.length] 0,J,J,J,J,.int .i64 least,.sl 2 g2 0 v2.length 1,J,.ptr 3 0 0]++jj 24 ([.rsl (Qe (((Qf s).s).stages)) 0 ((((Qf s).s).stages).length),.int .i64 (((((Qf s).s).stages).length:Nat):Int),.int .i64 (i:Int)]++jj 10 ([.rsl (Qn se.turns) 0 se.turns.length,.int .i64 (se.turns.length:Int),.int .i64 0]++Js 38))),[⟨true,0,1,true,[.rsl (Qe s.stages) 0 s.stages.length,.rsl (rowI s.worth) 0 s.worth.length,.int .i64 s.price],false⟩,⟨false,1,1,true,[],false⟩,⟨true,g2,1,true,(rowB v2),true⟩,⟨true,0,1,true,[.int .i64 se.kind,.int .i64 se.prize,.rsl (Qn se.turns) 0 se.turns.length],false⟩]⟩):G Try.prog E (Wp Try.prog) (f32S0 s stock v2 i least g2) :=
 Qh (n:=400) (ds:=[]) (cs:=[]) (live:=[3,8,9,11,36,37,38,49,50,51]) (m:=4) (evs:=[.b true,.ld (.agg [.int .i64 se.kind,.int .i64 se.prize,.rsl (Qn se.turns) 0 se.turns.length]),.ld (.bool eb),.b false,.stop]) (obs:=_) hE.2.1 (hE.nogh _) Qo (by kernel_rfl) ho hg
theorem p32_0_2 (s:Stl) (stock:(List Int)) (v2:List Bool) (i:Nat) (least:Int) (g2:Nat) {E:Env} {res:AV} (hE:Qg Try.prog 32 res E) (ho:AllP [(decide ((i:Int)<(((((Qf s).s).stages).length:Nat):Int)))=false,(decide (least<0))=true])
 (hr:AvLe (.tup [.int .i64 0,.int .i64 3]) res):G Try.prog E (Wp Try.prog) (f32S0 s stock v2 i least g2) :=
 Qa (n:=400) (evs:=[.b false,.b true]) (obs:=_) hE Try.func32 Qo (by kernel_rfl) ho hr
theorem p32_0_3 (s:Stl) (stock:(List Int)) (v2:List Bool) (i:Nat) (least:Int) (g2:Nat) {E:Env} {res:AV} (hE:Qg Try.prog 32 res E) (ho:AllP [(decide ((i:Int)<(((((Qf s).s).stages).length:Nat):Int)))=false,(decide (least<0))=false])
 (hr:AvLe (.tup [.int .i64 least,.int .i64 0]) res):G Try.prog E (Wp Try.prog) (f32S0 s stock v2 i least g2) :=
 Qa (n:=400) (evs:=[.b false,.b false]) (obs:=_) hE Try.func32 Qo (by kernel_rfl) ho hr
theorem f32W0 (s:Stl) (stock:(List Int)) (v2:List Bool) (i:Nat) (least:Int) {E:Env} {rv:(Int × Int)} (hE:Qg Try.prog 32 (.tup [.int .i64 rv.1,.int .i64 rv.2]) E)
 (h:(((i:Int)<(((((Qf s).s).stages).length:Nat):Int)→(∃ se:Stg,(((Qf s).s).stages)[i]?=some se∧(∃ eb:Bool,v2[i]?=some eb∧((eb=false→((I6 ((i:Int)+1))∧qu E s stock v2 (i+1) least))∧(eb=true→f32G1 E s stock i se.turns se.turns.length v2 se.kind se.prize se.turns 0 least)))))∧(¬ ((i:Int)<(((((Qf s).s).stages).length:Nat):Int))→((least<0→rv=(0,3))∧(¬ (least<0)→rv=(least,0)))))):qu E s stock v2 i least:=by
 intro g2
 rcases bft (decide ((i:Int)<(((((Qf s).s).stages).length:Nat):Int))) with hc0 | hc0
 · have h:=h.1 (odt hc0)
   obtain ⟨se,h1,h⟩:=h
   obtain ⟨eb,h2,h⟩:=h
   rcases bft (!eb) with hc1 | hc1
   · have h:=h.1 (bnT hc1)
     obtain ⟨q11_2,h⟩:=h
     exact p32_0_0 s stock v2 i least g2 se eb hE ⟨hc0,(Qq h1),(rp cStg 3 0 3 h1),(by decide),(Qq h2),rfl,rfl,(rp cB 1 0 1 h2),hc1,q11_2,trivial⟩ (h g2)
   · have h:=h.2 (bnF hc1)
     exact p32_0_1 s stock v2 i least g2 se eb hE ⟨hc0,(Qq h1),(rp cStg 3 0 3 h1),(by decide),(Qq h2),rfl,rfl,(rp cB 1 0 1 h2),hc1,trivial⟩ (h g2)
 · have h:=h.2 (odf hc0)
   rcases bft (decide (least<0)) with hc1 | hc1
   · have h:=h.1 (odt hc1)
     exact p32_0_2 s stock v2 i least g2 hE ⟨hc0,hc1,trivial⟩ (AvLe.of_eq (by rw [h]; try rfl))
   · have h:=h.2 (odf hc1)
     exact p32_0_3 s stock v2 i least g2 hE ⟨hc0,hc1,trivial⟩ (AvLe.of_eq (by rw [h]; try rfl))
theorem p32_1_0 (s:Stl) (stock:(List Int)) (k:Nat) (k1:(List Trn)) (k11:Nat) (v2:List Bool) (v3_0:Int) (v3_1:Int) (v3_2:(List Trn)) (k111:Nat) (least:Int) (g2:Nat) (te:Trn) (eb:Bool) {E:Env} {rv:AV} (hE:Qg Try.prog 32 rv E) (ho:AllP [(decide ((k111:Int)<(k11:Int)))=true,0≤(k111:Int)∧(k111:Int)<(k1.length:Int),((Qn k1).drop (0+(Int.toNat (k111:Int))*2)).take 2=[.int .i64 te.w,.int .i64 te.to],2≤2,0≤te.to∧te.to<(v2.length:Int),g2=g2,((0+(Int.toNat te.to)*1)+1)≤(rowB v2).length,g2=g2,InR .i64 ((k111:Int)+1)])
 (hg:G Try.prog E (yK Try.prog) ⟨([J,J,J,.rptr [.rsl (rowI stock) 0 stock.length] 0,J,J,J,J,.int .i64 least,.sl 2 g2 0 v2.length 1,J,.ptr 3 0 0]++jj 24 ([.rsl (Qe (((Qf s).s).stages)) 0 ((((Qf s).s).stages).length),.int .i64 (((((Qf s).s).stages).length:Nat):Int),.int .i64 (k:Int)]++jj 10 ([.rsl (Qn k1) 0 k1.length,.int .i64 (k11:Int),.int .i64 ((k111:Int)+1)]++Js 38))),[⟨true,0,1,true,[.rsl (Qe s.stages) 0 s.stages.length,.rsl (rowI s.worth) 0 s.worth.length,.int .i64 s.price],false⟩,⟨false,1,1,true,[],false⟩,⟨true,g2,1,true,(Qu (rowB v2) (0+(Int.toNat te.to)*1) [.bool true]),true⟩,⟨true,0,1,true,[.int .i64 v3_0,.int .i64 v3_1,.rsl (Qn v3_2) 0 v3_2.length],false⟩]⟩):G Try.prog E (yK Try.prog) (f32S1 s stock k k1 k11 v2 v3_0 v3_1 v3_2 k111 least g2) :=
 Qh (n:=400) (ds:=[]) (cs:=[]) (live:=[3,8,9,11,36,37,38,49,50,51]) (m:=4) (evs:=[.b true,.ld (.agg [.int .i64 te.w,.int .i64 te.to]),.stop]) (obs:=_) hE.2.1 (hE.nogh _) Qo (by kernel_rfl) ho hg
theorem p32_1_1 (s:Stl) (stock:(List Int)) (k:Nat) (k1:(List Trn)) (k11:Nat) (v2:List Bool) (v3_0:Int) (v3_1:Int) (v3_2:(List Trn)) (k111:Nat) (least:Int) (g2:Nat) (e:Int) {E:Env} {rv:AV} (hE:Qg Try.prog 32 rv E) (ho:AllP [(decide ((k111:Int)<(k11:Int)))=false,(v3_0 == 4)=true,(decide (v3_1≥0))=true,(decide (least<0))=true,true=true,0≤v3_1∧v3_1<(stock.length:Int),((rowI stock).drop (0+(Int.toNat v3_1)*1)).take 1=[.int .i64 e],InR .i64 ((k:Int)+1)])
 (hg:G Try.prog E (Wp Try.prog) ⟨([J,J,J,.rptr [.rsl (rowI stock) 0 stock.length] 0,J,J,J,J,.int .i64 e,.sl 2 g2 0 v2.length 1]++jj 26 ([.rsl (Qe (((Qf s).s).stages)) 0 ((((Qf s).s).stages).length),.int .i64 (((((Qf s).s).stages).length:Nat):Int),.int .i64 ((k:Int)+1)]++Js 51)),[⟨true,0,1,true,[.rsl (Qe s.stages) 0 s.stages.length,.rsl (rowI s.worth) 0 s.worth.length,.int .i64 s.price],false⟩,⟨false,1,1,true,[],false⟩,⟨true,g2,1,true,(rowB v2),true⟩]⟩):G Try.prog E (yK Try.prog) (f32S1 s stock k k1 k11 v2 v3_0 v3_1 v3_2 k111 least g2) :=
 Qh (n:=400) (ds:=[]) (cs:=[]) (live:=[3,8,9,36,37,38]) (m:=3) (evs:=[.b false,.b true,.b true,.b true,.b true,.auto,.auto,.ld (.int .i64 e),.stop]) (obs:=_) hE.2.1 (hE.nogh _) Qo (by kernel_rfl) ho hg
theorem p32_1_2 (s:Stl) (stock:(List Int)) (k:Nat) (k1:(List Trn)) (k11:Nat) (v2:List Bool) (v3_0:Int) (v3_1:Int) (v3_2:(List Trn)) (k111:Nat) (least:Int) (g2:Nat) (e:Int) {E:Env} {rv:AV} (hE:Qg Try.prog 32 rv E) (ho:AllP [(decide ((k111:Int)<(k11:Int)))=false,(v3_0 == 4)=true,(decide (v3_1≥0))=true,(decide (least<0))=false,0≤v3_1∧v3_1<(stock.length:Int),((rowI stock).drop (0+(Int.toNat v3_1)*1)).take 1=[.int .i64 e],(decide (e<least))=true,0≤v3_1∧v3_1<(stock.length:Int),((rowI stock).drop (0+(Int.toNat v3_1)*1)).take 1=[.int .i64 e],InR .i64 ((k:Int)+1)])
 (hg:G Try.prog E (Wp Try.prog) ⟨([J,J,J,.rptr [.rsl (rowI stock) 0 stock.length] 0,J,J,J,J,.int .i64 e,.sl 2 g2 0 v2.length 1]++jj 26 ([.rsl (Qe (((Qf s).s).stages)) 0 ((((Qf s).s).stages).length),.int .i64 (((((Qf s).s).stages).length:Nat):Int),.int .i64 ((k:Int)+1)]++Js 51)),[⟨true,0,1,true,[.rsl (Qe s.stages) 0 s.stages.length,.rsl (rowI s.worth) 0 s.worth.length,.int .i64 s.price],false⟩,⟨false,1,1,true,[],false⟩,⟨true,g2,1,true,(rowB v2),true⟩]⟩):G Try.prog E (yK Try.prog) (f32S1 s stock k k1 k11 v2 v3_0 v3_1 v3_2 k111 least g2) :=
 Qh (n:=400) (ds:=[]) (cs:=[]) (live:=[3,8,9,36,37,38]) (m:=3) (evs:=[.b false,.b true,.b true,.b false,.auto,.auto,.ld (.int .i64 e),.b true,.auto,.auto,.ld (.int .i64 e),.stop]) (obs:=_) hE.2.1 (hE.nogh _) Qo (by kernel_rfl) ho hg
theorem p32_1_3 (s:Stl) (stock:(List Int)) (k:Nat) (k1:(List Trn)) (k11:Nat) (v2:List Bool) (v3_0:Int) (v3_1:Int) (v3_2:(List Trn)) (k111:Nat) (least:Int) (g2:Nat) (e:Int) {E:Env} {rv:AV} (hE:Qg Try.prog 32 rv E) (ho:AllP [(decide ((k111:Int)<(k11:Int)))=false,(v3_0 == 4)=true,(decide (v3_1≥0))=true,(decide (least<0))=false,0≤v3_1∧v3_1<(stock.length:Int),((rowI stock).drop (0+(Int.toNat v3_1)*1)).take 1=[.int .i64 e],(decide (e<least))=false,InR .i64 ((k:Int)+1)])
 (hg:G Try.prog E (Wp Try.prog) ⟨([J,J,J,.rptr [.rsl (rowI stock) 0 stock.length] 0,J,J,J,J,.int .i64 least,.sl 2 g2 0 v2.length 1]++jj 26 ([.rsl (Qe (((Qf s).s).stages)) 0 ((((Qf s).s).stages).length),.int .i64 (((((Qf s).s).stages).length:Nat):Int),.int .i64 ((k:Int)+1)]++Js 51)),[⟨true,0,1,true,[.rsl (Qe s.stages) 0 s.stages.length,.rsl (rowI s.worth) 0 s.worth.length,.int .i64 s.price],false⟩,⟨false,1,1,true,[],false⟩,⟨true,g2,1,true,(rowB v2),true⟩]⟩):G Try.prog E (yK Try.prog) (f32S1 s stock k k1 k11 v2 v3_0 v3_1 v3_2 k111 least g2) :=
 Qh (n:=400) (ds:=[]) (cs:=[]) (live:=[3,8,9,36,37,38]) (m:=3) (evs:=[.b false,.b true,.b true,.b false,.auto,.auto,.ld (.int .i64 e),.b false,.stop]) (obs:=_) hE.2.1 (hE.nogh _) Qo (by kernel_rfl) ho hg
theorem p32_1_4 (s:Stl) (stock:(List Int)) (k:Nat) (k1:(List Trn)) (k11:Nat) (v2:List Bool) (v3_0:Int) (v3_1:Int) (v3_2:(List Trn)) (k111:Nat) (least:Int) (g2:Nat) {E:Env} {rv:AV} (hE:Qg Try.prog 32 rv E) (ho:AllP [(decide ((k111:Int)<(k11:Int)))=false,(v3_0 == 4)=true,(decide (v3_1≥0))=false,false=false,InR .i64 ((k:Int)+1)])
 (hg:G Try.prog E (Wp Try.prog) ⟨([J,J,J,.rptr [.rsl (rowI stock) 0 stock.length] 0,J,J,J,J,.int .i64 least,.sl 2 g2 0 v2.length 1]++jj 26 ([.rsl (Qe (((Qf s).s).stages)) 0 ((((Qf s).s).stages).length),.int .i64 (((((Qf s).s).stages).length:Nat):Int),.int .i64 ((k:Int)+1)]++Js 51)),[⟨true,0,1,true,[.rsl (Qe s.stages) 0 s.stages.length,.rsl (rowI s.worth) 0 s.worth.length,.int .i64 s.price],false⟩,⟨false,1,1,true,[],false⟩,⟨true,g2,1,true,(rowB v2),true⟩]⟩):G Try.prog E (yK Try.prog) (f32S1 s stock k k1 k11 v2 v3_0 v3_1 v3_2 k111 least g2) :=
 Qh (n:=400) (ds:=[]) (cs:=[]) (live:=[3,8,9,36,37,38]) (m:=3) (evs:=[.b false,.b true,.b false,.b false,.stop]) (obs:=_) hE.2.1 (hE.nogh _) Qo (by kernel_rfl) ho hg
theorem p32_1_5 (s:Stl) (stock:(List Int)) (k:Nat) (k1:(List Trn)) (k11:Nat) (v2:List Bool) (v3_0:Int) (v3_1:Int) (v3_2:(List Trn)) (k111:Nat) (least:Int) (g2:Nat) {E:Env} {rv:AV} (hE:Qg Try.prog 32 rv E) (ho:AllP [(decide ((k111:Int)<(k11:Int)))=false,(v3_0 == 4)=false,false=false,false=false,InR .i64 ((k:Int)+1)])
 (hg:G Try.prog E (Wp Try.prog) ⟨([J,J,J,.rptr [.rsl (rowI stock) 0 stock.length] 0,J,J,J,J,.int .i64 least,.sl 2 g2 0 v2.length 1]++jj 26 ([.rsl (Qe (((Qf s).s).stages)) 0 ((((Qf s).s).stages).length),.int .i64 (((((Qf s).s).stages).length:Nat):Int),.int .i64 ((k:Int)+1)]++Js 51)),[⟨true,0,1,true,[.rsl (Qe s.stages) 0 s.stages.length,.rsl (rowI s.worth) 0 s.worth.length,.int .i64 s.price],false⟩,⟨false,1,1,true,[],false⟩,⟨true,g2,1,true,(rowB v2),true⟩]⟩):G Try.prog E (yK Try.prog) (f32S1 s stock k k1 k11 v2 v3_0 v3_1 v3_2 k111 least g2) :=
 Qh (n:=400) (ds:=[]) (cs:=[]) (live:=[3,8,9,36,37,38]) (m:=3) (evs:=[.b false,.b false,.b false,.b false,.stop]) (obs:=_) hE.2.1 (hE.nogh _) Qo (by kernel_rfl) ho hg
theorem f32W1 (s:Stl) (stock:(List Int)) (k:Nat) (k1:(List Trn)) (k11:Nat) (v2:List Bool) (v3_0:Int) (v3_1:Int) (v3_2:(List Trn)) (k111:Nat) (least:Int) {E:Env} {rv:(Int × Int)} (hE:Qg Try.prog 32 (.tup [.int .i64 rv.1,.int .i64 rv.2]) E)
 (h:(((k111:Int)<(k11:Int)→(∃ te:Trn,k1[k111]?=some te∧(0≤te.to∧(∃ eb:Bool,v2[Int.toNat te.to]?=some eb∧((I6 ((k111:Int)+1))∧f32G1 E s stock k k1 k11 (v2.set (Int.toNat te.to) true) v3_0 v3_1 v3_2 (k111+1) least)))))∧(¬ ((k111:Int)<(k11:Int))→((v3_0=4→((v3_1≥0→((least<0→(0≤v3_1∧(∃ e:Int,stock[Int.toNat v3_1]?=some e∧((I6 ((k:Int)+1))∧qu E s stock v2 (k+1) e))))∧(¬ (least<0)→(0≤v3_1∧(∃ e:Int,stock[Int.toNat v3_1]?=some e∧((e<least→((I6 ((k:Int)+1))∧qu E s stock v2 (k+1) e))∧(¬ (e<least)→((I6 ((k:Int)+1))∧qu E s stock v2 (k+1) least))))))))∧(¬ (v3_1≥0)→((I6 ((k:Int)+1))∧qu E s stock v2 (k+1) least))))∧(¬ (v3_0=4)→((I6 ((k:Int)+1))∧qu E s stock v2 (k+1) least)))))):f32G1 E s stock k k1 k11 v2 v3_0 v3_1 v3_2 k111 least:=by
 intro g2
 rcases bft (decide ((k111:Int)<(k11:Int))) with hc0 | hc0
 · have h:=h.1 (odt hc0)
   obtain ⟨te,h1,h⟩:=h
   obtain ⟨h3,h⟩:=h
   obtain ⟨eb,h2,h⟩:=h
   obtain ⟨q10_1,h⟩:=h
   refine p32_1_0 s stock k k1 k11 v2 v3_0 v3_1 v3_2 k111 least g2 te eb hE ⟨hc0,(Qq h1),(rp cTrn 2 0 2 h1),(by decide),(Qm h3 h2),rfl,(rf cB 1 0 1 h2),rfl,q10_1,trivial⟩ ?_
   have h:=(h g2)
   simp only [f32S1,List.length_set] at h
   rw [(show Qu (rowB v2) (0+(Int.toNat te.to)*1) [.bool true]=rowB (v2.set (Int.toNat te.to) true) from QE cB (s:=1) (k:=0) (fun _=>rfl) h2 rfl (by first | decide | simp))]
   exact h
 · have h:=h.2 (odf hc0)
   rcases bft (v3_0 == 4) with hc1 | hc1
   · have h:=h.1 (eq_of_beq hc1)
     rcases bft (decide (v3_1≥0)) with hc2 | hc2
     · have h:=h.1 (odt hc2)
       rcases bft (decide (least<0)) with hc3 | hc3
       · have h:=h.1 (odt hc3)
         obtain ⟨h2,h⟩:=h
         obtain ⟨e,h1,h⟩:=h
         obtain ⟨q8_4,h⟩:=h
         exact p32_1_1 s stock k k1 k11 v2 v3_0 v3_1 v3_2 k111 least g2 e hE ⟨hc0,hc1,hc2,hc3,rfl,(Qm h2 h1),(rp cI 1 0 1 h1),q8_4,trivial⟩ (h g2)
       · have h:=h.2 (odf hc3)
         obtain ⟨h2,h⟩:=h
         obtain ⟨e,h1,h⟩:=h
         rcases bft (decide (e<least)) with hc4 | hc4
         · have h:=h.1 (odt hc4)
           obtain ⟨q10_5,h⟩:=h
           exact p32_1_2 s stock k k1 k11 v2 v3_0 v3_1 v3_2 k111 least g2 e hE ⟨hc0,hc1,hc2,hc3,(Qm h2 h1),(rp cI 1 0 1 h1),hc4,(Qm h2 h1),(rp cI 1 0 1 h1),q10_5,trivial⟩ (h g2)
         · have h:=h.2 (odf hc4)
           obtain ⟨q8_5,h⟩:=h
           exact p32_1_3 s stock k k1 k11 v2 v3_0 v3_1 v3_2 k111 least g2 e hE ⟨hc0,hc1,hc2,hc3,(Qm h2 h1),(rp cI 1 0 1 h1),hc4,q8_5,trivial⟩ (h g2)
     · have h:=h.2 (odf hc2)
       obtain ⟨q4_3,h⟩:=h
       exact p32_1_4 s stock k k1 k11 v2 v3_0 v3_1 v3_2 k111 least g2 hE ⟨hc0,hc1,hc2,rfl,q4_3,trivial⟩ (h g2)
   · have h:=h.2 (ne_of_beq_false hc1)
     obtain ⟨q4_2,h⟩:=h
     exact p32_1_5 s stock k k1 k11 v2 v3_0 v3_1 v3_2 k111 least g2 hE ⟨hc0,hc1,rfl,rfl,q4_2,trivial⟩ (h g2)
theorem qy {s:Stl} {stock:List Int} (hc:XS s=0) (h:QV (Qf s) stock=true):stock.length=s.worth.length∧∀ n ∈ stock,0≤n∧n≤1000:=by
 obtain ⟨hm,es⟩:=Vr (Xs hc)
 simp only [QV,Bool.and_eq_true,decide_eq_true_eq,Bool.not_eq_true'] at h
 rw [es] at h
 refine ⟨h.1,fun n hn=>?_⟩
 have:=(List.any_eq_false.1 h.2) n hn
 exact Qz.1 (by simpa using this)
theorem prize_in {s:Stl} (hc:XS s=0) {i:Nat} {x:Stg} (hi:s.stages[i]?=some x) (h:x.prize≥0) (h4:x.kind=4):Int.toNat x.prize<s.worth.length:=by
 obtain ⟨hm,es⟩:=Vr (Xs hc)
 have hform:=(QH hm.st).2.2.2.2
 rw [es] at hform
 rcases Yc hi (hform i (List.getElem?_eq_some_iff.1 hi).1) with ⟨-,-,h⟩ | ⟨h,-⟩ <;> omega
theorem lasts_ok (s:Stl) (stock:List Int) (h:(s.stages.length≤9223372036854775807∧s.worth.length≤9223372036854775807)∧stock.length≤9223372036854775807):Pure Try.prog 32 [avStl s,.rsl (rowI stock) 0 stock.length] (.tup [.int .i64 (QD s stock).1,.int .i64 (QD s stock).2]):=Qs Try.func32 f32b fun E hE=>by
 refine f32W s stock (rv:=QD s stock) hE ⟨fun h0=>⟨fun h1=>⟨h,?_⟩,fun h1=>⟨h,?_⟩⟩,fun h0=>⟨h,?_⟩⟩
 · have hc:=Yu.1 h0
   obtain ⟨sl,sb⟩:=qy hc h1
   obtain ⟨hm,es⟩:=Vr h0
   have hform:=(QH hm.st).2.2.2.2
   have hn:=(QH hm.st).1
   rw [es] at hform hn
   have hrv:QD s stock=lastsR (XP s stock s.stages.length):=by rw [QD,if_pos hc,if_pos h1]
   have key:∀ (d i:Nat),i+d=s.stages.length→qu E s stock (Xr s i) i (XP s stock i):=by
    intro d
    induction d with
    | zero =>
     intro i hd
     have hi:i=s.stages.length:=by omega
     rw [← hi] at hrv
     refine f32W0 s stock _ i _ (rv:=QD s stock) hE ⟨fun h=>by rw [es] at h; omega,fun _=>⟨fun h=>?_,fun h=>?_⟩⟩
     · rw [hrv,lastsR,if_pos h]
     · rw [hrv,lastsR,if_neg h]
    | succ d ih =>
     intro i hd
     have hi:s.stages[i]?=some s.stages[i]:=List.getElem?_eq_getElem (by omega)
     have hx:s.stages.getD i ⟨0,0,[]⟩=s.stages[i]:=by simp [List.getD,hi]
     have nx:=ih (i+1) (by omega)
     have hto:=YA hi (hform i (by omega))
     have hpi:=fun h h4=>prize_in hc hi h h4
     have htl:s.stages[i].turns.length≤8:=by
      rcases Yc hi (hform i (by omega)) with ⟨-,h,-⟩ | ⟨-,-,h,-⟩
      · rw [h]; simp
      · exact h.2
     simp only [Xr,XP] at nx
     rw [hx,Vl hform (by omega)] at nx
     have hb:=getB (l:=Xr s i) (i:=i) (by rw [YX]; omega)
     have hrl:=YX (s:=s) (i:=i)
     generalize s.stages[i]=x at hi nx hto htl hpi
     generalize XP s stock i=l at nx
     refine f32W0 s stock _ i _ (rv:=QD s stock) hE ⟨fun _=>⟨x,by rw [es]; exact hi,_,hb,fun hr=>⟨by omega,?_⟩,fun hr=>?_⟩,fun h=>by rw [es] at h; omega⟩
     · rw [if_neg (by rw [hr]; simp),leastS,if_neg (by rw [hr]; simp)] at nx; exact nx
     rw [if_pos hr,hr] at nx
     generalize Xr s i=r at nx hb hrl
     have loop:∀ (d k:Nat) (r':List Bool),k+d=x.turns.length→r'.length=s.stages.length→Vs r' (x.turns.drop k)=Vs r x.turns→f32G1 E s stock i x.turns x.turns.length r' x.kind x.prize x.turns k l:=by
      intro d
      induction d with
      | zero =>
       intro k r' hd h1 h3
       rw [List.drop_eq_nil_of_le (by omega),Vs] at h3
       rw [← h3] at nx
       unfold leastS at nx
       refine f32W1 s stock i x.turns x.turns.length r' x.kind x.prize x.turns k l (rv:=QD s stock) hE ⟨fun h=>by omega,fun _=>⟨fun h4=>⟨fun hp=>⟨fun hl=>⟨hp,_,getD_some (by have:=hpi hp h4; omega),by omega,?_⟩,fun hl=>⟨hp,_,getD_some (by have:=hpi hp h4; omega),fun hs=>⟨by omega,?_⟩,fun hs=>⟨by omega,?_⟩⟩⟩,fun hp=>⟨by omega,?_⟩⟩,fun h4=>⟨by omega,?_⟩⟩⟩
       · rw [if_pos ⟨rfl,h4,hp,.inl hl⟩] at nx; exact nx
       · rw [if_pos ⟨rfl,h4,hp,.inr hs⟩] at nx; exact nx
       · rw [if_neg (fun h=>h.2.2.2.elim hl hs)] at nx; exact nx
       · rw [if_neg (fun h=>hp h.2.2.1)] at nx; exact nx
       · rw [if_neg (fun h=>h4 h.2.1)] at nx; exact nx
      | succ d ih2 =>
       intro k r' hd h1 h3
       have hk:x.turns[k]?=some x.turns[k]:=List.getElem?_eq_getElem (by omega)
       rw [List.drop_eq_getElem_cons (by omega),Vs] at h3
       have ht:=hto _ (List.mem_of_getElem? hk)
       generalize x.turns[k]=te at hk h3 ht
       exact f32W1 s stock i x.turns x.turns.length r' x.kind x.prize x.turns k l (rv:=QD s stock) hE ⟨fun _=>⟨te,hk,ht.2.2,_,getB (by rw [h1]; exact ht.2.1),by omega,ih2 (k+1) _ (by omega) (by simp [h1]) h3⟩,fun h=>by omega⟩
     exact loop x.turns.length 0 r (by omega) hrl (by simp)
   have k0:=key s.stages.length 0 (by omega)
   rw [es]
   exact ⟨by omega,_,by rw [List.getElem?_replicate,if_pos (by omega)],k0⟩
 · rw [QD,if_pos (Yu.1 h0),if_neg (by rw [h1]; simp)]
 · rw [QD,if_neg (fun h=>by rw [Yu.2 h] at h0; cases h0)]
end Go.Proofs.Ytemklbioijmjiaa