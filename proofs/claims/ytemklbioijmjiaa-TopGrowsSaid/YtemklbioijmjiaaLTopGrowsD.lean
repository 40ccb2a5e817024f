/- A part of the proof: several texts, one behind the other. -/
import Derived.Test.YtemklbioijmjiaaLTopGrowsC
set_option linter.unusedVariables false
set_option linter.unusedSimpArgs false
set_option maxRecDepth 100000
namespace Go.Proofs.Ytemklbioijmjiaa
open Go Ax
open Go.Proofs
structure Bndl where
 tokens:Int
 price:Int
def cBd (t:Bndl):List AV:=[.int .i64 t.tokens,.int .i64 t.price]
def QX (l:List Bndl):List AV:=l.flatMap cBd
structure Fair where
 purses:Int
 boxes:Int
 stock:List Int
 cash:List Int
 bundles:List Bndl
 refund:Int
 band:Int
 hours:Int
def outB (lo hi:Int) (n:Int):Bool:=!Qa n lo hi
theorem f115b:Try.f115.body=some (Qc Try.prog 115):=by kernel_rfl
theorem u115 {a c k:List AV} {r:AV} (h:Pure Try.prog 115 (a++c++k) r):Qe Try.prog (.clos 115 a k) c r:=Qo Try.func115 (by kernel_rfl) f115b h
theorem p115_start_0 (n:Int) (lo:Int) (hi:Int) {E:Env} {res:AV} (hE:Qd Try.prog 115 res E) (ho:AllP [(decide (n≥lo))=true])
 (hr:AvLe (.bool (decide (n≤hi))) res):G Try.prog E [.code (Qc Try.prog 115)] ⟨[.int .i64 n,.int .i64 lo,.int .i64 hi]++unds (Try.f115.ntmps - 3),[]⟩ :=
 Qb (n:=400) (evs:=[.b true]) (obs:=_) hE Try.func115 Qi (by kernel_rfl) ho hr
theorem p115_start_1 (n:Int) (lo:Int) (hi:Int) {E:Env} {res:AV} (hE:Qd Try.prog 115 res E) (ho:AllP [(decide (n≥lo))=false])
 (hr:AvLe (.bool false) res):G Try.prog E [.code (Qc Try.prog 115)] ⟨[.int .i64 n,.int .i64 lo,.int .i64 hi]++unds (Try.f115.ntmps - 3),[]⟩ :=
 Qb (n:=400) (evs:=[.b false]) (obs:=_) hE Try.func115 Qi (by kernel_rfl) ho hr
theorem f115W (n:Int) (lo:Int) (hi:Int) {E:Env} {rv:Bool} (hE:Qd Try.prog 115 (.bool rv) E)
 (h:((n≥lo→rv=(decide (n≤hi)))∧(¬ (n≥lo)→rv=false))):G Try.prog E [.code (Qc Try.prog 115)] ⟨[.int .i64 n,.int .i64 lo,.int .i64 hi]++unds (Try.f115.ntmps - 3),[]⟩:=by
 rcases bft (decide (n≥lo)) with hc0 | hc0
 · have h:=h.1 (odt hc0)
   exact p115_start_0 n lo hi hE ⟨hc0,trivial⟩ (AvLe.of_eq (by rw [h]; try rfl))
 · have h:=h.2 (odf hc0)
   exact p115_start_1 n lo hi hE ⟨hc0,trivial⟩ (AvLe.of_eq (by rw [h]; try rfl))
theorem Qn (n lo hi:Int):Pure Try.prog 115 [.int .i64 n,.int .i64 lo,.int .i64 hi] (.bool (Qa n lo hi)):=Qy Try.func115 f115b fun E hE=>by
 refine f115W n lo hi hE ⟨fun h=>by simp [Qa,h],fun h=>by simp [Qa,h]⟩
theorem f183b:Try.f183.body=some (Qc Try.prog 183):=by kernel_rfl
theorem u183 {a c k:List AV} {r:AV} (h:Pure Try.prog 183 (a++c++k) r):Qe Try.prog (.clos 183 a k) c r:=Qo Try.func183 (by kernel_rfl) f183b h
theorem p183_start_0 (n:Int) (lo hi:Int) {E:Env} {res:AV} (hE:Qd Try.prog 183 res E) (ho:AllP [Qe Try.prog (.clos 115 [] []) [.int .i64 n,.int .i64 lo,.int .i64 hi] (.bool (Qa n lo hi))])
 (hr:AvLe (.bool (!(Qa n lo hi))) res):G Try.prog E [.code (Qc Try.prog 183)] ⟨[.int .i64 n,.rptr [.int .i64 lo] 0,.rptr [.int .i64 hi] 0]++unds (Try.f183.ntmps - 3),[]⟩ :=
 Qb (n:=400) (evs:=[.v (.bool (Qa n lo hi))]) (obs:=_) hE Try.func183 Qi (by kernel_rfl) ho hr
theorem f183W (n:Int) (lo hi:Int) {E:Env} {rv:Bool} (hE:Qd Try.prog 183 (.bool rv) E)
 (h:rv=(!(Qa n lo hi))):G Try.prog E [.code (Qc Try.prog 183)] ⟨[.int .i64 n,.rptr [.int .i64 lo] 0,.rptr [.int .i64 hi] 0]++unds (Try.f183.ntmps - 3),[]⟩:=by
 exact p183_start_0 n lo hi hE ⟨(u115 (Qn n lo hi)),trivial⟩ (AvLe.of_eq (by rw [h]; try rfl))
theorem f182b:Try.f182.body=some (Qc Try.prog 182):=by kernel_rfl
theorem u182 {a c k:List AV} {r:AV} (h:Pure Try.prog 182 (a++c++k) r):Qe Try.prog (.clos 182 a k) c r:=Qo Try.func182 (by kernel_rfl) f182b h
theorem p182_start_0 (lo:Int) (hi:Int) {E:Env} {res:AV} (hE:Qd Try.prog 182 res E) (ho:AllP [])
 (hr:AvLe (.clos 183 [] [.rptr [.int .i64 lo] 0,.rptr [.int .i64 hi] 0]) res):G Try.prog E [.code (Qc Try.prog 182)] ⟨[.int .i64 lo,.int .i64 hi]++unds (Try.f182.ntmps - 2),[]⟩ :=
 Qb (n:=400) (evs:=[]) (obs:=_) hE Try.func182 Qi (by kernel_rfl) ho hr
theorem f182W (lo:Int) (hi:Int) {E:Env} {rv:AV} (hE:Qd Try.prog 182 rv E)
 (h:rv=(.clos 183 [] [.rptr [.int .i64 lo] 0,.rptr [.int .i64 hi] 0])):G Try.prog E [.code (Qc Try.prog 182)] ⟨[.int .i64 lo,.int .i64 hi]++unds (Try.f182.ntmps - 2),[]⟩:=by
 exact p182_start_0 lo hi hE trivial (AvLe.of_eq (by rw [h]; try rfl))
theorem out1_ok (n lo hi:Int):Pure Try.prog 183 [.int .i64 n,.rptr [.int .i64 lo] 0,.rptr [.int .i64 hi] 0] (.bool (outB lo hi n)):=Qy Try.func183 f183b fun E hE=>f183W n lo hi (rv:=outB lo hi n) hE rfl
theorem Yv (lo hi:Int):Pure Try.prog 182 [.int .i64 lo,.int .i64 hi] (.clos 183 [] [.rptr [.int .i64 lo] 0,.rptr [.int .i64 hi] 0]):=Qy Try.func182 f182b fun E hE=>f182W lo hi (rv:=.clos 183 [] [.rptr [.int .i64 lo] 0,.rptr [.int .i64 hi] 0]) hE rfl
theorem f59ob:Try.f59.body=some (Qc Try.prog 59):=by kernel_rfl
def yf (P:Program):List Item:=kAt 400 [.code (Qc P 59)] [.stop]
def f59oS0 (l:(List Int)) (lo hi:Int) (i:Nat):St:=⟨([.rsl (rowI l) 0 l.length,.clos 183 [] [.rptr [.int .i64 lo] 0,.rptr [.int .i64 hi] 0]]++jj 5 ([.int .i64 (l.length:Int),.int .i64 (i:Int)]++Js 10)),[]⟩
def f59oG0 (E:Env) (l:(List Int)) (lo hi:Int) (i:Nat):Prop:=G Try.prog E (yf Try.prog) (f59oS0 l lo hi i )
theorem p59o_start_0 (l:(List Int)) (lo hi:Int) {E:Env} {rv:AV} (hE:Qd Try.prog 59 rv E) (ho:AllP [])
 (hg:G Try.prog E (yf Try.prog) ⟨([.rsl (rowI l) 0 l.length,.clos 183 [] [.rptr [.int .i64 lo] 0,.rptr [.int .i64 hi] 0]]++jj 5 ([.int .i64 (l.length:Int),.int .i64 0]++Js 10)),[]⟩):G Try.prog E [.code (Qc Try.prog 59)] ⟨[.rsl (rowI l) 0 l.length,.clos 183 [] [.rptr [.int .i64 lo] 0,.rptr [.int .i64 hi] 0]]++unds (Try.f59.ntmps - 2),[]⟩ :=
 Ql (n:=400) (ds:=[]) (cs:=[]) (live:=[0,1,7,8]) (m:=0) (evs:=[.stop]) (obs:=_) hE.2.1 (hE.nogh _) Qi (by kernel_rfl) ho hg
theorem f59oW (l:(List Int)) (lo hi:Int) {E:Env} {rv:Int} (hE:Qd Try.prog 59 (.int .i64 rv) E)
 (h:f59oG0 E l lo hi 0):G Try.prog E [.code (Qc Try.prog 59)] ⟨[.rsl (rowI l) 0 l.length,.clos 183 [] [.rptr [.int .i64 lo] 0,.rptr [.int .i64 hi] 0]]++unds (Try.f59.ntmps - 2),[]⟩:=by
 exact p59o_start_0 l lo hi hE trivial h
theorem p59o_0_0 (l:(List Int)) (lo hi:Int) (i:Nat) (e:Int) {E:Env} {res:AV} (hE:Qd Try.prog 59 res E) (ho:AllP [(decide ((i:Int)<(l.length:Int)))=true,0≤(i:Int)∧(i:Int)<(l.length:Int),((rowI l).drop (0+(Int.toNat (i:Int))*1)).take 1=[.int .i64 e],Qe Try.prog (.clos 183 [] [.rptr [.int .i64 lo] 0,.rptr [.int .i64 hi] 0]) [.int .i64 e] (.bool (outB lo hi e)),(outB lo hi e)=true])
 (hr:AvLe (.int .i64 (i:Int)) res):G Try.prog E (yf Try.prog) (f59oS0 l lo hi i ) :=
 Qb (n:=400) (evs:=[.b true,.ld (.int .i64 e),.v (.bool (outB lo hi e)),.b true]) (obs:=_) hE Try.func59 Qi (by kernel_rfl) ho hr
theorem p59o_0_1 (l:(List Int)) (lo hi:Int) (i:Nat) (e:Int) {E:Env} {rv:AV} (hE:Qd Try.prog 59 rv E) (ho:AllP [(decide ((i:Int)<(l.length:Int)))=true,0≤(i:Int)∧(i:Int)<(l.length:Int),((rowI l).drop (0+(Int.toNat (i:Int))*1)).take 1=[.int .i64 e],Qe Try.prog (.clos 183 [] [.rptr [.int .i64 lo] 0,.rptr [.int .i64 hi] 0]) [.int .i64 e] (.bool (outB lo hi e)),(outB lo hi e)=false,InR .i64 ((i:Int)+1)])
 (hg:G Try.prog E (yf Try.prog) ⟨([.rsl (rowI l) 0 l.length,.clos 183 [] [.rptr [.int .i64 lo] 0,.rptr [.int .i64 hi] 0]]++jj 5 ([.int .i64 (l.length:Int),.int .i64 ((i:Int)+1)]++Js 10)),[]⟩):G Try.prog E (yf Try.prog) (f59oS0 l lo hi i ) :=
 Ql (n:=400) (ds:=[]) (cs:=[]) (live:=[0,1,7,8]) (m:=0) (evs:=[.b true,.ld (.int .i64 e),.v (.bool (outB lo hi e)),.b false,.stop]) (obs:=_) hE.2.1 (hE.nogh _) Qi (by kernel_rfl) ho hg
theorem p59o_0_2 (l:(List Int)) (lo hi:Int) (i:Nat) {E:Env} {res:AV} (hE:Qd Try.prog 59 res E) (ho:AllP [(decide ((i:Int)<(l.length:Int)))=false])
 (hr:AvLe (.int .i64 (-1)) res):G Try.prog E (yf Try.prog) (f59oS0 l lo hi i ) :=
 Qb (n:=400) (evs:=[.b false]) (obs:=_) hE Try.func59 Qi (by kernel_rfl) ho hr
theorem f59oW0 (l:(List Int)) (lo hi:Int) (i:Nat) {E:Env} {rv:Int} (hE:Qd Try.prog 59 (.int .i64 rv) E)
 (h:(((i:Int)<(l.length:Int)→(∃ e:Int,l[i]?=some e∧(((outB lo hi e)=true→rv=(i:Int))∧((outB lo hi e)=false→((I6 ((i:Int)+1))∧f59oG0 E l lo hi (i+1))))))∧(¬ ((i:Int)<(l.length:Int))→rv=(-1)))):f59oG0 E l lo hi i:=by
 rcases bft (decide ((i:Int)<(l.length:Int))) with hc0 | hc0
 · have h:=h.1 (odt hc0)
   obtain ⟨e,h1,h⟩:=h
   rcases bft (outB lo hi e) with hc1 | hc1
   · have h:=h.1 hc1
     exact p59o_0_0 l lo hi i e hE ⟨hc0,(Qr h1),(rp cI 1 0 1 h1),(u183 (out1_ok e lo hi)),hc1,trivial⟩ (AvLe.of_eq (by rw [h]; try rfl))
   · have h:=h.2 hc1
     obtain ⟨q6_2,h⟩:=h
     exact p59o_0_1 l lo hi i e hE ⟨hc0,(Qr h1),(rp cI 1 0 1 h1),(u183 (out1_ok e lo hi)),hc1,q6_2,trivial⟩ h
 · have h:=h.2 (odf hc0)
   exact p59o_0_2 l lo hi i hE ⟨hc0,trivial⟩ (AvLe.of_eq (by rw [h]; try rfl))
theorem idxOut_ok (l:List Int) (lo hi:Int) (h:l.length≤9223372036854775807):Pure Try.prog 59 [.rsl (rowI l) 0 l.length,.clos 183 [] [.rptr [.int .i64 lo] 0,.rptr [.int .i64 hi] 0]] (.int .i64 (idxG (outB lo hi) l)):=Qy Try.func59 f59ob fun E hE=>by
 have hl:=h
 refine f59oW l lo hi (rv:=idxG (outB lo hi) l) hE (qj (outB lo hi) l l.length 0 (by omega) (fun j x hj=>by omega) (fun i=>f59oG0 E l lo hi i) (fun i hi' h1 h2=>?_) (fun _ h2=>?_))
 · have hx:l[i]?=some l[i]:=List.getElem?_eq_getElem hi'
   have hm:=List.mem_of_getElem? hx
   exact f59oW0 l lo hi i (rv:=idxG (outB lo hi) l) hE ⟨fun _=>⟨_,hx,fun hp=>h1 _ hx (by simpa using hp),fun hp=>⟨by omega,h2 _ hx (by simpa using hp)⟩⟩,fun h=>by omega⟩
 · exact f59oW0 l lo hi _ (rv:=idxG (outB lo hi) l) hE ⟨fun h=>by omega,fun _=>h2⟩
theorem VP:Try.f76.body=some (Qc Try.prog 76):=by kernel_rfl
theorem p76o_start_0 (l:(List Int)) (lo hi:Int) {E:Env} {res:AV} (hE:Qd Try.prog 76 res E) (ho:AllP [Qe Try.prog (.clos 59 [] []) [.rsl (rowI l) 0 l.length,.clos 183 [] [.rptr [.int .i64 lo] 0,.rptr [.int .i64 hi] 0]] (.int .i64 (idxG (outB lo hi) l))])
 (hr:AvLe (.bool (decide ((idxG (outB lo hi) l)≥0))) res):G Try.prog E [.code (Qc Try.prog 76)] ⟨[.rsl (rowI l) 0 l.length,.clos 183 [] [.rptr [.int .i64 lo] 0,.rptr [.int .i64 hi] 0]]++unds (Try.f76.ntmps - 2),[]⟩ :=
 Qb (n:=400) (evs:=[.v (.int .i64 (idxG (outB lo hi) l))]) (obs:=_) hE Try.func76 Qi (by kernel_rfl) ho hr
theorem f76oW (l:(List Int)) (lo hi:Int) {E:Env} {rv:Bool} (hE:Qd Try.prog 76 (.bool rv) E)
 (h:((l.length≤9223372036854775807)∧rv=(decide ((idxG (outB lo hi) l)≥0)))):G Try.prog E [.code (Qc Try.prog 76)] ⟨[.rsl (rowI l) 0 l.length,.clos 183 [] [.rptr [.int .i64 lo] 0,.rptr [.int .i64 hi] 0]]++unds (Try.f76.ntmps - 2),[]⟩:=by
 obtain ⟨h1,h⟩:=h
 exact p76o_start_0 l lo hi hE ⟨(Qo Try.func59 (by kernel_rfl) f59ob (idxOut_ok l lo hi h1)),trivial⟩ (AvLe.of_eq (by rw [h]; try rfl))
theorem Xe (l:List Int) (lo hi:Int) (h:l.length≤9223372036854775807):Pure Try.prog 76 [.rsl (rowI l) 0 l.length,.clos 183 [] [.rptr [.int .i64 lo] 0,.rptr [.int .i64 hi] 0]] (.bool (l.any (outB lo hi))):=Qy Try.func76 VP fun E hE =>
 f76oW l lo hi (rv:=l.any (outB lo hi)) hE ⟨h,(yY _ _).symm⟩
theorem f185b:Try.f185.body=some (Qc Try.prog 185):=by kernel_rfl
theorem u185 {a c k:List AV} {r:AV} (h:Pure Try.prog 185 (a++c++k) r):Qe Try.prog (.clos 185 a k) c r:=Qo Try.func185 (by kernel_rfl) f185b h
theorem p185_start_0 (b:Bndl) (f:Fair) {E:Env} {res:AV} (hE:Qd Try.prog 185 res E) (ho:AllP [Qe Try.prog (.clos 115 [] []) [.int .i64 b.tokens,.int .i64 1,.int .i64 1000] (.bool (Qa b.tokens 1 1000)),(!(Qa b.tokens 1 1000))=true,true=true])
 (hr:AvLe (.bool true) res):G Try.prog E [.code (Qc Try.prog 185)] ⟨[.agg [.int .i64 b.tokens,.int .i64 b.price],.rptr [.int .i64 f.purses,.int .i64 f.boxes,.rsl (rowI f.stock) 0 f.stock.length,.rsl (rowI f.cash) 0 f.cash.length,.rsl (QX f.bundles) 0 f.bundles.length,.int .i64 f.refund,.int .i64 f.band,.int .i64 f.hours] 0]++unds (Try.f185.ntmps - 2),[]⟩ :=
 Qb (n:=400) (evs:=[.v (.bool (Qa b.tokens 1 1000)),.b true,.b true]) (obs:=_) hE Try.func185 Qi (by kernel_rfl) ho hr
theorem p185_start_1 (b:Bndl) (f:Fair) {E:Env} {res:AV} (hE:Qd Try.prog 185 res E) (ho:AllP [Qe Try.prog (.clos 115 [] []) [.int .i64 b.tokens,.int .i64 1,.int .i64 1000] (.bool (Qa b.tokens 1 1000)),(!(Qa b.tokens 1 1000))=false,Qe Try.prog (.clos 115 [] []) [.int .i64 b.price,.int .i64 1,.int .i64 1000000] (.bool (Qa b.price 1 1000000)),(!(Qa b.price 1 1000000))=true])
 (hr:AvLe (.bool true) res):G Try.prog E [.code (Qc Try.prog 185)] ⟨[.agg [.int .i64 b.tokens,.int .i64 b.price],.rptr [.int .i64 f.purses,.int .i64 f.boxes,.rsl (rowI f.stock) 0 f.stock.length,.rsl (rowI f.cash) 0 f.cash.length,.rsl (QX f.bundles) 0 f.bundles.length,.int .i64 f.refund,.int .i64 f.band,.int .i64 f.hours] 0]++unds (Try.f185.ntmps - 2),[]⟩ :=
 Qb (n:=400) (evs:=[.v (.bool (Qa b.tokens 1 1000)),.b false,.v (.bool (Qa b.price 1 1000000)),.b true]) (obs:=_) hE Try.func185 Qi (by kernel_rfl) ho hr
theorem p185_start_2 (b:Bndl) (f:Fair) {E:Env} {res:AV} (hE:Qd Try.prog 185 res E) (ho:AllP [Qe Try.prog (.clos 115 [] []) [.int .i64 b.tokens,.int .i64 1,.int .i64 1000] (.bool (Qa b.tokens 1 1000)),(!(Qa b.tokens 1 1000))=false,Qe Try.prog (.clos 115 [] []) [.int .i64 b.price,.int .i64 1,.int .i64 1000000] (.bool (Qa b.price 1 1000000)),(!(Qa b.price 1 1000000))=false,InR .i64 (f.refund*b.tokens)])
 (hr:AvLe (.bool (decide ((f.refund*b.tokens) > b.price))) res):G Try.prog E [.code (Qc Try.prog 185)] ⟨[.agg [.int .i64 b.tokens,.int .i64 b.price],.rptr [.int .i64 f.purses,.int .i64 f.boxes,.rsl (rowI f.stock) 0 f.stock.length,.rsl (rowI f.cash) 0 f.cash.length,.rsl (QX f.bundles) 0 f.bundles.length,.int .i64 f.refund,.int .i64 f.band,.int .i64 f.hours] 0]++unds (Try.f185.ntmps - 2),[]⟩ :=
 Qb (n:=400) (evs:=[.v (.bool (Qa b.tokens 1 1000)),.b false,.v (.bool (Qa b.price 1 1000000)),.b false]) (obs:=_) hE Try.func185 Qi (by kernel_rfl) ho hr
theorem f185W (b:Bndl) (f:Fair) {E:Env} {rv:Bool} (hE:Qd Try.prog 185 (.bool rv) E)
 (h:(((Qa b.tokens 1 1000)=false→rv=true)∧((Qa b.tokens 1 1000)=true→(((Qa b.price 1 1000000)=false→rv=true)∧((Qa b.price 1 1000000)=true→((I6 (f.refund*b.tokens))∧rv=(decide ((f.refund*b.tokens) > b.price)))))))):G Try.prog E [.code (Qc Try.prog 185)] ⟨[.agg [.int .i64 b.tokens,.int .i64 b.price],.rptr [.int .i64 f.purses,.int .i64 f.boxes,.rsl (rowI f.stock) 0 f.stock.length,.rsl (rowI f.cash) 0 f.cash.length,.rsl (QX f.bundles) 0 f.bundles.length,.int .i64 f.refund,.int .i64 f.band,.int .i64 f.hours] 0]++unds (Try.f185.ntmps - 2),[]⟩:=by
 rcases bft (!(Qa b.tokens 1 1000)) with hc0 | hc0
 · have h:=h.1 (bnT hc0)
   exact p185_start_0 b f hE ⟨(u115 (Qn b.tokens 1 1000)),hc0,rfl,trivial⟩ (AvLe.of_eq (by rw [h]; try rfl))
 · have h:=h.2 (bnF hc0)
   rcases bft (!(Qa b.price 1 1000000)) with hc1 | hc1
   · have h:=h.1 (bnT hc1)
     exact p185_start_1 b f hE ⟨(u115 (Qn b.tokens 1 1000)),hc0,(u115 (Qn b.price 1 1000000)),hc1,trivial⟩ (AvLe.of_eq (by rw [h]; try rfl))
   · have h:=h.2 (bnF hc1)
     obtain ⟨q4_2,h⟩:=h
     exact p185_start_2 b f hE ⟨(u115 (Qn b.tokens 1 1000)),hc0,(u115 (Qn b.price 1 1000000)),hc1,q4_2,trivial⟩ (AvLe.of_eq (by rw [h]; try rfl))
/-- A bundle that is not right. -/
def badB (f:Fair) (b:Bndl):Bool:=if Qa b.tokens 1 1000=true then (if Qa b.price 1 1000000=true then decide (f.refund*b.tokens > b.price) else true) else true
theorem badB_ok (b:Bndl) (f:Fair) (h:0≤f.refund∧f.refund≤1000):Pure Try.prog 185 [.agg [.int .i64 b.tokens,.int .i64 b.price],.rptr [.int .i64 f.purses,.int .i64 f.boxes,.rsl (rowI f.stock) 0 f.stock.length,.rsl (rowI f.cash) 0 f.cash.length,.rsl (QX f.bundles) 0 f.bundles.length,.int .i64 f.refund,.int .i64 f.band,.int .i64 f.hours] 0] (.bool (badB f b)):=Qy Try.func185 f185b fun E hE=>by
 refine f185W b f (rv:=badB f b) hE ⟨fun h1=>?_,fun h1=>⟨fun h2=>?_,fun h2=>⟨?_,?_⟩⟩⟩
 · unfold badB; rw [h1]; rfl
 · unfold badB; rw [h1,h2]; rfl
 · have h3:=Yg.1 h1
   have m1:=Int.mul_le_mul h.2 h3.2 (by omega) (by omega)
   have m2:=Int.mul_nonneg h.1 (show 0≤b.tokens by omega)
   omega
 · unfold badB; rw [h1,h2]; rfl
theorem f240bb:Try.f240.body=some (Qc Try.prog 240):=by kernel_rfl
def Wk (P:Program):List Item:=kAt 400 [.code (Qc P 240)] [.stop]
def Kd (l:(List Bndl)) (f:Fair) (i:Nat):St:=⟨([.rsl (QX l) 0 l.length,.clos 185 [] [.rptr [.int .i64 f.purses,.int .i64 f.boxes,.rsl (rowI f.stock) 0 f.stock.length,.rsl (rowI f.cash) 0 f.cash.length,.rsl (QX f.bundles) 0 f.bundles.length,.int .i64 f.refund,.int .i64 f.band,.int .i64 f.hours] 0]]++jj 5 ([.int .i64 (l.length:Int),.int .i64 (i:Int)]++Js 10)),[]⟩
def Ke (E:Env) (l:(List Bndl)) (f:Fair) (i:Nat):Prop:=G Try.prog E (Wk Try.prog) (Kd l f i )
theorem yL (l:(List Bndl)) (f:Fair) {E:Env} {rv:AV} (hE:Qd Try.prog 240 rv E) (ho:AllP [])
 (hg:G Try.prog E (Wk Try.prog) ⟨([.rsl (QX l) 0 l.length,.clos 185 [] [.rptr [.int .i64 f.purses,.int .i64 f.boxes,.rsl (rowI f.stock) 0 f.stock.length,.rsl (rowI f.cash) 0 f.cash.length,.rsl (QX f.bundles) 0 f.bundles.length,.int .i64 f.refund,.int .i64 f.band,.int .i64 f.hours] 0]]++jj 5 ([.int .i64 (l.length:Int),.int .i64 0]++Js 10)),[]⟩):G Try.prog E [.code (Qc Try.prog 240)] ⟨[.rsl (QX l) 0 l.length,.clos 185 [] [.rptr [.int .i64 f.purses,.int .i64 f.boxes,.rsl (rowI f.stock) 0 f.stock.length,.rsl (rowI f.cash) 0 f.cash.length,.rsl (QX f.bundles) 0 f.bundles.length,.int .i64 f.refund,.int .i64 f.band,.int .i64 f.hours] 0]]++unds (Try.f240.ntmps - 2),[]⟩ :=
 Ql (n:=400) (ds:=[]) (cs:=[]) (live:=[0,1,7,8]) (m:=0) (evs:=[.stop]) (obs:=_) hE.2.1 (hE.nogh _) Qi (by kernel_rfl) ho hg
theorem f240bW (l:(List Bndl)) (f:Fair) {E:Env} {rv:Int} (hE:Qd Try.prog 240 (.int .i64 rv) E)
 (h:Ke E l f 0):G Try.prog E [.code (Qc Try.prog 240)] ⟨[.rsl (QX l) 0 l.length,.clos 185 [] [.rptr [.int .i64 f.purses,.int .i64 f.boxes,.rsl (rowI f.stock) 0 f.stock.length,.rsl (rowI f.cash) 0 f.cash.length,.rsl (QX f.bundles) 0 f.bundles.length,.int .i64 f.refund,.int .i64 f.band,.int .i64 f.hours] 0]]++unds (Try.f240.ntmps - 2),[]⟩:=by
 exact yL l f hE trivial h
theorem p240b_0_0 (l:(List Bndl)) (f:Fair) (i:Nat) (be:Bndl) {E:Env} {res:AV} (hE:Qd Try.prog 240 res E) (ho:AllP [(decide ((i:Int)<(l.length:Int)))=true,0≤(i:Int)∧(i:Int)<(l.length:Int),((QX l).drop (0+(Int.toNat (i:Int))*2)).take 2=[.int .i64 be.tokens,.int .i64 be.price],Qe Try.prog (.clos 185 [] [.rptr [.int .i64 f.purses,.int .i64 f.boxes,.rsl (rowI f.stock) 0 f.stock.length,.rsl (rowI f.cash) 0 f.cash.length,.rsl (QX f.bundles) 0 f.bundles.length,.int .i64 f.refund,.int .i64 f.band,.int .i64 f.hours] 0]) [.agg [.int .i64 be.tokens,.int .i64 be.price]] (.bool (badB f be)),(badB f be)=true])
 (hr:AvLe (.int .i64 (i:Int)) res):G Try.prog E (Wk Try.prog) (Kd l f i ) :=
 Qb (n:=400) (evs:=[.b true,.ld (.agg [.int .i64 be.tokens,.int .i64 be.price]),.v (.bool (badB f be)),.b true]) (obs:=_) hE Try.func240 Qi (by kernel_rfl) ho hr
theorem p240b_0_1 (l:(List Bndl)) (f:Fair) (i:Nat) (be:Bndl) {E:Env} {rv:AV} (hE:Qd Try.prog 240 rv E) (ho:AllP [(decide ((i:Int)<(l.length:Int)))=true,0≤(i:Int)∧(i:Int)<(l.length:Int),((QX l).drop (0+(Int.toNat (i:Int))*2)).take 2=[.int .i64 be.tokens,.int .i64 be.price],Qe Try.prog (.clos 185 [] [.rptr [.int .i64 f.purses,.int .i64 f.boxes,.rsl (rowI f.stock) 0 f.stock.length,.rsl (rowI f.cash) 0 f.cash.length,.rsl (QX f.bundles) 0 f.bundles.length,.int .i64 f.refund,.int .i64 f.band,.int .i64 f.hours] 0]) [.agg [.int .i64 be.tokens,.int .i64 be.price]] (.bool (badB f be)),(badB f be)=false,InR .i64 ((i:Int)+1)])
 (hg:G Try.prog E (Wk Try.prog) ⟨([.rsl (QX l) 0 l.length,.clos 185 [] [.rptr [.int .i64 f.purses,.int .i64 f.boxes,.rsl (rowI f.stock) 0 f.stock.length,.rsl (rowI f.cash) 0 f.cash.length,.rsl (QX f.bundles) 0 f.bundles.length,.int .i64 f.refund,.int .i64 f.band,.int .i64 f.hours] 0]]++jj 5 ([.int .i64 (l.length:Int),.int .i64 ((i:Int)+1)]++Js 10)),[]⟩):G Try.prog E (Wk Try.prog) (Kd l f i ) :=
 Ql (n:=400) (ds:=[]) (cs:=[]) (live:=[0,1,7,8]) (m:=0) (evs:=[.b true,.ld (.agg [.int .i64 be.tokens,.int .i64 be.price]),.v (.bool (badB f be)),.b false,.stop]) (obs:=_) hE.2.1 (hE.nogh _) Qi (by kernel_rfl) ho hg
theorem p240b_0_2 (l:(List Bndl)) (f:Fair) (i:Nat) {E:Env} {res:AV} (hE:Qd Try.prog 240 res E) (ho:AllP [(decide ((i:Int)<(l.length:Int)))=false])
 (hr:AvLe (.int .i64 (-1)) res):G Try.prog E (Wk Try.prog) (Kd l f i ) :=
 Qb (n:=400) (evs:=[.b false]) (obs:=_) hE Try.func240 Qi (by kernel_rfl) ho hr
theorem f240bW0 (l:(List Bndl)) (f:Fair) (i:Nat) {E:Env} {rv:Int} (hE:Qd Try.prog 240 (.int .i64 rv) E)
 (h:(((i:Int)<(l.length:Int)→(∃ be:Bndl,l[i]?=some be∧((0≤f.refund∧f.refund≤1000)∧(((badB f be)=true→rv=(i:Int))∧((badB f be)=false→((I6 ((i:Int)+1))∧Ke E l f (i+1)))))))∧(¬ ((i:Int)<(l.length:Int))→rv=(-1)))):Ke E l f i:=by
 rcases bft (decide ((i:Int)<(l.length:Int))) with hc0 | hc0
 · have h:=h.1 (odt hc0)
   obtain ⟨be,h1,h⟩:=h
   obtain ⟨h2,h⟩:=h
   rcases bft (badB f be) with hc1 | hc1
   · have h:=h.1 hc1
     exact p240b_0_0 l f i be hE ⟨hc0,(Qr h1),(rp cBd 2 0 2 h1),(u185 (badB_ok be f h2)),hc1,trivial⟩ (AvLe.of_eq (by rw [h]; try rfl))
   · have h:=h.2 hc1
     obtain ⟨q6_2,h⟩:=h
     exact p240b_0_1 l f i be hE ⟨hc0,(Qr h1),(rp cBd 2 0 2 h1),(u185 (badB_ok be f h2)),hc1,q6_2,trivial⟩ h
 · have h:=h.2 (odf hc0)
   exact p240b_0_2 l f i hE ⟨hc0,trivial⟩ (AvLe.of_eq (by rw [h]; try rfl))
theorem idxBad_ok (l:List Bndl) (f:Fair) (h:(∀ x ∈ l,0≤f.refund∧f.refund≤1000)∧l.length≤9223372036854775807):Pure Try.prog 240 [.rsl (QX l) 0 l.length,.clos 185 [] [.rptr [.int .i64 f.purses,.int .i64 f.boxes,.rsl (rowI f.stock) 0 f.stock.length,.rsl (rowI f.cash) 0 f.cash.length,.rsl (QX f.bundles) 0 f.bundles.length,.int .i64 f.refund,.int .i64 f.band,.int .i64 f.hours] 0]] (.int .i64 (idxG (badB f) l)):=Qy Try.func240 f240bb fun E hE=>by
 have hl:=h.2
 refine f240bW l f (rv:=idxG (badB f) l) hE (qj (badB f) l l.length 0 (by omega) (fun j x hj=>by omega) (fun i=>Ke E l f i) (fun i hi' h1 h2=>?_) (fun _ h2=>?_))
 · have hx:l[i]?=some l[i]:=List.getElem?_eq_getElem hi'
   have hm:=List.mem_of_getElem? hx
   exact f240bW0 l f i (rv:=idxG (badB f) l) hE ⟨fun _=>⟨_,hx,h.1 _ hm,fun hp=>h1 _ hx (by simpa using hp),fun hp=>⟨by omega,h2 _ hx (by simpa using hp)⟩⟩,fun h=>by omega⟩
 · exact f240bW0 l f _ (rv:=idxG (badB f) l) hE ⟨fun h=>by omega,fun _=>h2⟩
theorem f184bb:Try.f184.body=some (Qc Try.prog 184):=by kernel_rfl
theorem yN (l:(List Bndl)) (f:Fair) {E:Env} {res:AV} (hE:Qd Try.prog 184 res E) (ho:AllP [Qe Try.prog (.clos 240 [] []) [.rsl (QX l) 0 l.length,.clos 185 [] [.rptr [.int .i64 f.purses,.int .i64 f.boxes,.rsl (rowI f.stock) 0 f.stock.length,.rsl (rowI f.cash) 0 f.cash.length,.rsl (QX f.bundles) 0 f.bundles.length,.int .i64 f.refund,.int .i64 f.band,.int .i64 f.hours] 0]] (.int .i64 (idxG (badB f) l))])
 (hr:AvLe (.bool (decide ((idxG (badB f) l)≥0))) res):G Try.prog E [.code (Qc Try.prog 184)] ⟨[.rsl (QX l) 0 l.length,.clos 185 [] [.rptr [.int .i64 f.purses,.int .i64 f.boxes,.rsl (rowI f.stock) 0 f.stock.length,.rsl (rowI f.cash) 0 f.cash.length,.rsl (QX f.bundles) 0 f.bundles.length,.int .i64 f.refund,.int .i64 f.band,.int .i64 f.hours] 0]]++unds (Try.f184.ntmps - 2),[]⟩ :=
 Qb (n:=400) (evs:=[.v (.int .i64 (idxG (badB f) l))]) (obs:=_) hE Try.func184 Qi (by kernel_rfl) ho hr
theorem f184bW (l:(List Bndl)) (f:Fair) {E:Env} {rv:Bool} (hE:Qd Try.prog 184 (.bool rv) E)
 (h:(((∀ x ∈ l,0≤f.refund∧f.refund≤1000)∧l.length≤9223372036854775807)∧rv=(decide ((idxG (badB f) l)≥0)))):G Try.prog E [.code (Qc Try.prog 184)] ⟨[.rsl (QX l) 0 l.length,.clos 185 [] [.rptr [.int .i64 f.purses,.int .i64 f.boxes,.rsl (rowI f.stock) 0 f.stock.length,.rsl (rowI f.cash) 0 f.cash.length,.rsl (QX f.bundles) 0 f.bundles.length,.int .i64 f.refund,.int .i64 f.band,.int .i64 f.hours] 0]]++unds (Try.f184.ntmps - 2),[]⟩:=by
 obtain ⟨h1,h⟩:=h
 exact yN l f hE ⟨(Qo Try.func240 (by kernel_rfl) f240bb (idxBad_ok l f h1)),trivial⟩ (AvLe.of_eq (by rw [h]; try rfl))
theorem anyBad_ok (l:List Bndl) (f:Fair) (h:(∀ x ∈ l,0≤f.refund∧f.refund≤1000)∧l.length≤9223372036854775807):Pure Try.prog 184 [.rsl (QX l) 0 l.length,.clos 185 [] [.rptr [.int .i64 f.purses,.int .i64 f.boxes,.rsl (rowI f.stock) 0 f.stock.length,.rsl (rowI f.cash) 0 f.cash.length,.rsl (QX f.bundles) 0 f.bundles.length,.int .i64 f.refund,.int .i64 f.band,.int .i64 f.hours] 0]] (.bool (l.any (badB f))):=Qy Try.func184 f184bb fun E hE =>
 f184bW l f (rv:=l.any (badB f)) hE ⟨h,(yY _ _).symm⟩
theorem f114b:Try.f114.body=some (Qc Try.prog 114):=by kernel_rfl
theorem u114 {a c k:List AV} {r:AV} (h:Pure Try.prog 114 (a++c++k) r):Qe Try.prog (.clos 114 a k) c r:=Qo Try.func114 (by kernel_rfl) f114b h
theorem p114_start_0 (f:Fair) {E:Env} {res:AV} (hE:Qd Try.prog 114 res E) (ho:AllP [Qe Try.prog (.clos 115 [] []) [.int .i64 (f.stock.length:Int),.int .i64 1,.int .i64 8] (.bool (Qa (f.stock.length:Int) 1 8)),(!(Qa (f.stock.length:Int) 1 8))=true,true=true,true=true,true=true,true=true,true=true,true=true,true=true,true=true,true=true,true=true])
 (hr:AvLe (.int .i64 10) res):G Try.prog E [.code (Qc Try.prog 114)] ⟨[.agg [.int .i64 f.purses,.int .i64 f.boxes,.rsl (rowI f.stock) 0 f.stock.length,.rsl (rowI f.cash) 0 f.cash.length,.rsl (QX f.bundles) 0 f.bundles.length,.int .i64 f.refund,.int .i64 f.band,.int .i64 f.hours]]++unds (Try.f114.ntmps - 1),[]⟩ :=
 Qb (n:=400) (evs:=[.v (.bool (Qa (f.stock.length:Int) 1 8)),.b true,.b true,.b true,.b true,.b true,.b true,.b true,.b true,.b true,.b true,.b true]) (obs:=_) hE Try.func114 Qi (by kernel_rfl) ho hr
theorem p114_start_1 (f:Fair) {E:Env} {res:AV} (hE:Qd Try.prog 114 res E) (ho:AllP [Qe Try.prog (.clos 115 [] []) [.int .i64 (f.stock.length:Int),.int .i64 1,.int .i64 8] (.bool (Qa (f.stock.length:Int) 1 8)),(!(Qa (f.stock.length:Int) 1 8))=false,((f.cash.length:Int) != (f.stock.length:Int))=true,true=true,true=true,true=true,true=true,true=true,true=true,true=true,true=true,true=true])
 (hr:AvLe (.int .i64 10) res):G Try.prog E [.code (Qc Try.prog 114)] ⟨[.agg [.int .i64 f.purses,.int .i64 f.boxes,.rsl (rowI f.stock) 0 f.stock.length,.rsl (rowI f.cash) 0 f.cash.length,.rsl (QX f.bundles) 0 f.bundles.length,.int .i64 f.refund,.int .i64 f.band,.int .i64 f.hours]]++unds (Try.f114.ntmps - 1),[]⟩ :=
 Qb (n:=400) (evs:=[.v (.bool (Qa (f.stock.length:Int) 1 8)),.b false,.b true,.b true,.b true,.b true,.b true,.b true,.b true,.b true,.b true,.b true]) (obs:=_) hE Try.func114 Qi (by kernel_rfl) ho hr
theorem p114_start_2 (f:Fair) {E:Env} {res:AV} (hE:Qd Try.prog 114 res E) (ho:AllP [Qe Try.prog (.clos 115 [] []) [.int .i64 (f.stock.length:Int),.int .i64 1,.int .i64 8] (.bool (Qa (f.stock.length:Int) 1 8)),(!(Qa (f.stock.length:Int) 1 8))=false,((f.cash.length:Int) != (f.stock.length:Int))=false,Qe Try.prog (.clos 115 [] []) [.int .i64 f.purses,.int .i64 0,.int .i64 20] (.bool (Qa f.purses 0 20)),(!(Qa f.purses 0 20))=true,true=true,true=true,true=true,true=true,true=true,true=true,true=true,true=true])
 (hr:AvLe (.int .i64 10) res):G Try.prog E [.code (Qc Try.prog 114)] ⟨[.agg [.int .i64 f.purses,.int .i64 f.boxes,.rsl (rowI f.stock) 0 f.stock.length,.rsl (rowI f.cash) 0 f.cash.length,.rsl (QX f.bundles) 0 f.bundles.length,.int .i64 f.refund,.int .i64 f.band,.int .i64 f.hours]]++unds (Try.f114.ntmps - 1),[]⟩ :=
 Qb (n:=400) (evs:=[.v (.bool (Qa (f.stock.length:Int) 1 8)),.b false,.b false,.v (.bool (Qa f.purses 0 20)),.b true,.b true,.b true,.b true,.b true,.b true,.b true,.b true,.b true]) (obs:=_) hE Try.func114 Qi (by kernel_rfl) ho hr
theorem p114_start_3 (f:Fair) {E:Env} {res:AV} (hE:Qd Try.prog 114 res E) (ho:AllP [Qe Try.prog (.clos 115 [] []) [.int .i64 (f.stock.length:Int),.int .i64 1,.int .i64 8] (.bool (Qa (f.stock.length:Int) 1 8)),(!(Qa (f.stock.length:Int) 1 8))=false,((f.cash.length:Int) != (f.stock.length:Int))=false,Qe Try.prog (.clos 115 [] []) [.int .i64 f.purses,.int .i64 0,.int .i64 20] (.bool (Qa f.purses 0 20)),(!(Qa f.purses 0 20))=false,Qe Try.prog (.clos 115 [] []) [.int .i64 f.boxes,.int .i64 0,.int .i64 12] (.bool (Qa f.boxes 0 12)),(!(Qa f.boxes 0 12))=true,true=true,true=true,true=true,true=true,true=true,true=true,true=true])
 (hr:AvLe (.int .i64 10) res):G Try.prog E [.code (Qc Try.prog 114)] ⟨[.agg [.int .i64 f.purses,.int .i64 f.boxes,.rsl (rowI f.stock) 0 f.stock.length,.rsl (rowI f.cash) 0 f.cash.length,.rsl (QX f.bundles) 0 f.bundles.length,.int .i64 f.refund,.int .i64 f.band,.int .i64 f.hours]]++unds (Try.f114.ntmps - 1),[]⟩ :=
 Qb (n:=400) (evs:=[.v (.bool (Qa (f.stock.length:Int) 1 8)),.b false,.b false,.v (.bool (Qa f.purses 0 20)),.b false,.v (.bool (Qa f.boxes 0 12)),.b true,.b true,.b true,.b true,.b true,.b true,.b true,.b true]) (obs:=_) hE Try.func114 Qi (by kernel_rfl) ho hr
theorem p114_start_4 (f:Fair) {E:Env} {res:AV} (hE:Qd Try.prog 114 res E) (ho:AllP [Qe Try.prog (.clos 115 [] []) [.int .i64 (f.stock.length:Int),.int .i64 1,.int .i64 8] (.bool (Qa (f.stock.length:Int) 1 8)),(!(Qa (f.stock.length:Int) 1 8))=false,((f.cash.length:Int) != (f.stock.length:Int))=false,Qe Try.prog (.clos 115 [] []) [.int .i64 f.purses,.int .i64 0,.int .i64 20] (.bool (Qa f.purses 0 20)),(!(Qa f.purses 0 20))=false,Qe Try.prog (.clos 115 [] []) [.int .i64 f.boxes,.int .i64 0,.int .i64 12] (.bool (Qa f.boxes 0 12)),(!(Qa f.boxes 0 12))=false,(decide ((f.bundles.length:Int) > 6))=true,true=true,true=true,true=true,true=true,true=true,true=true])
 (hr:AvLe (.int .i64 10) res):G Try.prog E [.code (Qc Try.prog 114)] ⟨[.agg [.int .i64 f.purses,.int .i64 f.boxes,.rsl (rowI f.stock) 0 f.stock.length,.rsl (rowI f.cash) 0 f.cash.length,.rsl (QX f.bundles) 0 f.bundles.length,.int .i64 f.refund,.int .i64 f.band,.int .i64 f.hours]]++unds (Try.f114.ntmps - 1),[]⟩ :=
 Qb (n:=400) (evs:=[.v (.bool (Qa (f.stock.length:Int) 1 8)),.b false,.b false,.v (.bool (Qa f.purses 0 20)),.b false,.v (.bool (Qa f.boxes 0 12)),.b false,.b true,.b true,.b true,.b true,.b true,.b true,.b true]) (obs:=_) hE Try.func114 Qi (by kernel_rfl) ho hr
theorem p114_start_5 (f:Fair) {E:Env} {res:AV} (hE:Qd Try.prog 114 res E) (ho:AllP [Qe Try.prog (.clos 115 [] []) [.int .i64 (f.stock.length:Int),.int .i64 1,.int .i64 8] (.bool (Qa (f.stock.length:Int) 1 8)),(!(Qa (f.stock.length:Int) 1 8))=false,((f.cash.length:Int) != (f.stock.length:Int))=false,Qe Try.prog (.clos 115 [] []) [.int .i64 f.purses,.int .i64 0,.int .i64 20] (.bool (Qa f.purses 0 20)),(!(Qa f.purses 0 20))=false,Qe Try.prog (.clos 115 [] []) [.int .i64 f.boxes,.int .i64 0,.int .i64 12] (.bool (Qa f.boxes 0 12)),(!(Qa f.boxes 0 12))=false,(decide ((f.bundles.length:Int) > 6))=false,Qe Try.prog (.clos 182 [] []) [.int .i64 0,.int .i64 100000] (.clos 183 [] [.rptr [.int .i64 0] 0,.rptr [.int .i64 100000] 0]),Qe Try.prog (.clos 76 [] []) [.rsl (rowI f.stock) 0 f.stock.length,.clos 183 [] [.rptr [.int .i64 0] 0,.rptr [.int .i64 100000] 0]] (.bool (f.stock.any (outB 0 100000))),(f.stock.any (outB 0 100000))=true,true=true,true=true,true=true,true=true,true=true])
 (hr:AvLe (.int .i64 10) res):G Try.prog E [.code (Qc Try.prog 114)] ⟨[.agg [.int .i64 f.purses,.int .i64 f.boxes,.rsl (rowI f.stock) 0 f.stock.length,.rsl (rowI f.cash) 0 f.cash.length,.rsl (QX f.bundles) 0 f.bundles.length,.int .i64 f.refund,.int .i64 f.band,.int .i64 f.hours]]++unds (Try.f114.ntmps - 1),[]⟩ :=
 Qb (n:=400) (evs:=[.v (.bool (Qa (f.stock.length:Int) 1 8)),.b false,.b false,.v (.bool (Qa f.purses 0 20)),.b false,.v (.bool (Qa f.boxes 0 12)),.b false,.b false,.v (.clos 183 [] [.rptr [.int .i64 0] 0,.rptr [.int .i64 100000] 0]),.v (.bool (f.stock.any (outB 0 100000))),.b true,.b true,.b true,.b true,.b true,.b true]) (obs:=_) hE Try.func114 Qi (by kernel_rfl) ho hr
theorem p114_start_6 (f:Fair) {E:Env} {res:AV} (hE:Qd Try.prog 114 res E) (ho:AllP [Qe Try.prog (.clos 115 [] []) [.int .i64 (f.stock.length:Int),.int .i64 1,.int .i64 8] (.bool (Qa (f.stock.length:Int) 1 8)),(!(Qa (f.stock.length:Int) 1 8))=false,((f.cash.length:Int) != (f.stock.length:Int))=false,Qe Try.prog (.clos 115 [] []) [.int .i64 f.purses,.int .i64 0,.int .i64 20] (.bool (Qa f.purses 0 20)),(!(Qa f.purses 0 20))=false,Qe Try.prog (.clos 115 [] []) [.int .i64 f.boxes,.int .i64 0,.int .i64 12] (.bool (Qa f.boxes 0 12)),(!(Qa f.boxes 0 12))=false,(decide ((f.bundles.length:Int) > 6))=false,Qe Try.prog (.clos 182 [] []) [.int .i64 0,.int .i64 100000] (.clos 183 [] [.rptr [.int .i64 0] 0,.rptr [.int .i64 100000] 0]),Qe Try.prog (.clos 76 [] []) [.rsl (rowI f.stock) 0 f.stock.length,.clos 183 [] [.rptr [.int .i64 0] 0,.rptr [.int .i64 100000] 0]] (.bool (f.stock.any (outB 0 100000))),(f.stock.any (outB 0 100000))=false,Qe Try.prog (.clos 182 [] []) [.int .i64 0,.int .i64 1000000] (.clos 183 [] [.rptr [.int .i64 0] 0,.rptr [.int .i64 1000000] 0]),Qe Try.prog (.clos 76 [] []) [.rsl (rowI f.cash) 0 f.cash.length,.clos 183 [] [.rptr [.int .i64 0] 0,.rptr [.int .i64 1000000] 0]] (.bool (f.cash.any (outB 0 1000000))),(f.cash.any (outB 0 1000000))=true,true=true,true=true,true=true,true=true])
 (hr:AvLe (.int .i64 10) res):G Try.prog E [.code (Qc Try.prog 114)] ⟨[.agg [.int .i64 f.purses,.int .i64 f.boxes,.rsl (rowI f.stock) 0 f.stock.length,.rsl (rowI f.cash) 0 f.cash.length,.rsl (QX f.bundles) 0 f.bundles.length,.int .i64 f.refund,.int .i64 f.band,.int .i64 f.hours]]++unds (Try.f114.ntmps - 1),[]⟩ :=
 Qb (n:=400) (evs:=[.v (.bool (Qa (f.stock.length:Int) 1 8)),.b false,.b false,.v (.bool (Qa f.purses 0 20)),.b false,.v (.bool (Qa f.boxes 0 12)),.b false,.b false,.v (.clos 183 [] [.rptr [.int .i64 0] 0,.rptr [.int .i64 100000] 0]),.v (.bool (f.stock.any (outB 0 100000))),.b false,.v (.clos 183 [] [.rptr [.int .i64 0] 0,.rptr [.int .i64 1000000] 0]),.v (.bool (f.cash.any (outB 0 1000000))),.b true,.b true,.b true,.b true,.b true]) (obs:=_) hE Try.func114 Qi (by kernel_rfl) ho hr
theorem p114_start_7 (f:Fair) {E:Env} {res:AV} (hE:Qd Try.prog 114 res E) (ho:AllP [Qe Try.prog (.clos 115 [] []) [.int .i64 (f.stock.length:Int),.int .i64 1,.int .i64 8] (.bool (Qa (f.stock.length:Int) 1 8)),(!(Qa (f.stock.length:Int) 1 8))=false,((f.cash.length:Int) != (f.stock.length:Int))=false,Qe Try.prog (.clos 115 [] []) [.int .i64 f.purses,.int .i64 0,.int .i64 20] (.bool (Qa f.purses 0 20)),(!(Qa f.purses 0 20))=false,Qe Try.prog (.clos 115 [] []) [.int .i64 f.boxes,.int .i64 0,.int .i64 12] (.bool (Qa f.boxes 0 12)),(!(Qa f.boxes 0 12))=false,(decide ((f.bundles.length:Int) > 6))=false,Qe Try.prog (.clos 182 [] []) [.int .i64 0,.int .i64 100000] (.clos 183 [] [.rptr [.int .i64 0] 0,.rptr [.int .i64 100000] 0]),Qe Try.prog (.clos 76 [] []) [.rsl (rowI f.stock) 0 f.stock.length,.clos 183 [] [.rptr [.int .i64 0] 0,.rptr [.int .i64 100000] 0]] (.bool (f.stock.any (outB 0 100000))),(f.stock.any (outB 0 100000))=false,Qe Try.prog (.clos 182 [] []) [.int .i64 0,.int .i64 1000000] (.clos 183 [] [.rptr [.int .i64 0] 0,.rptr [.int .i64 1000000] 0]),Qe Try.prog (.clos 76 [] []) [.rsl (rowI f.cash) 0 f.cash.length,.clos 183 [] [.rptr [.int .i64 0] 0,.rptr [.int .i64 1000000] 0]] (.bool (f.cash.any (outB 0 1000000))),(f.cash.any (outB 0 1000000))=false,Qe Try.prog (.clos 115 [] []) [.int .i64 f.refund,.int .i64 0,.int .i64 1000] (.bool (Qa f.refund 0 1000)),(!(Qa f.refund 0 1000))=true,true=true,true=true,true=true])
 (hr:AvLe (.int .i64 10) res):G Try.prog E [.code (Qc Try.prog 114)] ⟨[.agg [.int .i64 f.purses,.int .i64 f.boxes,.rsl (rowI f.stock) 0 f.stock.length,.rsl (rowI f.cash) 0 f.cash.length,.rsl (QX f.bundles) 0 f.bundles.length,.int .i64 f.refund,.int .i64 f.band,.int .i64 f.hours]]++unds (Try.f114.ntmps - 1),[]⟩ :=
 Qb (n:=400) (evs:=[.v (.bool (Qa (f.stock.length:Int) 1 8)),.b false,.b false,.v (.bool (Qa f.purses 0 20)),.b false,.v (.bool (Qa f.boxes 0 12)),.b false,.b false,.v (.clos 183 [] [.rptr [.int .i64 0] 0,.rptr [.int .i64 100000] 0]),.v (.bool (f.stock.any (outB 0 100000))),.b false,.v (.clos 183 [] [.rptr [.int .i64 0] 0,.rptr [.int .i64 1000000] 0]),.v (.bool (f.cash.any (outB 0 1000000))),.b false,.v (.bool (Qa f.refund 0 1000)),.b true,.b true,.b true,.b true]) (obs:=_) hE Try.func114 Qi (by kernel_rfl) ho hr
theorem p114_start_8 (f:Fair) {E:Env} {res:AV} (hE:Qd Try.prog 114 res E) (ho:AllP [Qe Try.prog (.clos 115 [] []) [.int .i64 (f.stock.length:Int),.int .i64 1,.int .i64 8] (.bool (Qa (f.stock.length:Int) 1 8)),(!(Qa (f.stock.length:Int) 1 8))=false,((f.cash.length:Int) != (f.stock.length:Int))=false,Qe Try.prog (.clos 115 [] []) [.int .i64 f.purses,.int .i64 0,.int .i64 20] (.bool (Qa f.purses 0 20)),(!(Qa f.purses 0 20))=false,Qe Try.prog (.clos 115 [] []) [.int .i64 f.boxes,.int .i64 0,.int .i64 12] (.bool (Qa f.boxes 0 12)),(!(Qa f.boxes 0 12))=false,(decide ((f.bundles.length:Int) > 6))=false,Qe Try.prog (.clos 182 [] []) [.int .i64 0,.int .i64 100000] (.clos 183 [] [.rptr [.int .i64 0] 0,.rptr [.int .i64 100000] 0]),Qe Try.prog (.clos 76 [] []) [.rsl (rowI f.stock) 0 f.stock.length,.clos 183 [] [.rptr [.int .i64 0] 0,.rptr [.int .i64 100000] 0]] (.bool (f.stock.any (outB 0 100000))),(f.stock.any (outB 0 100000))=false,Qe Try.prog (.clos 182 [] []) [.int .i64 0,.int .i64 1000000] (.clos 183 [] [.rptr [.int .i64 0] 0,.rptr [.int .i64 1000000] 0]),Qe Try.prog (.clos 76 [] []) [.rsl (rowI f.cash) 0 f.cash.length,.clos 183 [] [.rptr [.int .i64 0] 0,.rptr [.int .i64 1000000] 0]] (.bool (f.cash.any (outB 0 1000000))),(f.cash.any (outB 0 1000000))=false,Qe Try.prog (.clos 115 [] []) [.int .i64 f.refund,.int .i64 0,.int .i64 1000] (.bool (Qa f.refund 0 1000)),(!(Qa f.refund 0 1000))=false,Qe Try.prog (.clos 115 [] []) [.int .i64 f.band,.int .i64 0,.int .i64 1000000] (.bool (Qa f.band 0 1000000)),(!(Qa f.band 0 1000000))=true,true=true,true=true])
 (hr:AvLe (.int .i64 10) res):G Try.prog E [.code (Qc Try.prog 114)] ⟨[.agg [.int .i64 f.purses,.int .i64 f.boxes,.rsl (rowI f.stock) 0 f.stock.length,.rsl (rowI f.cash) 0 f.cash.length,.rsl (QX f.bundles) 0 f.bundles.length,.int .i64 f.refund,.int .i64 f.band,.int .i64 f.hours]]++unds (Try.f114.ntmps - 1),[]⟩ :=
 Qb (n:=400) (evs:=[.v (.bool (Qa (f.stock.length:Int) 1 8)),.b false,.b false,.v (.bool (Qa f.purses 0 20)),.b false,.v (.bool (Qa f.boxes 0 12)),.b false,.b false,.v (.clos 183 [] [.rptr [.int .i64 0] 0,.rptr [.int .i64 100000] 0]),.v (.bool (f.stock.any (outB 0 100000))),.b false,.v (.clos 183 [] [.rptr [.int .i64 0] 0,.rptr [.int .i64 1000000] 0]),.v (.bool (f.cash.any (outB 0 1000000))),.b false,.v (.bool (Qa f.refund 0 1000)),.b false,.v (.bool (Qa f.band 0 1000000)),.b true,.b true,.b true]) (obs:=_) hE Try.func114 Qi (by kernel_rfl) ho hr
theorem p114_start_9 (f:Fair) {E:Env} {res:AV} (hE:Qd Try.prog 114 res E) (ho:AllP [Qe Try.prog (.clos 115 [] []) [.int .i64 (f.stock.length:Int),.int .i64 1,.int .i64 8] (.bool (Qa (f.stock.length:Int) 1 8)),(!(Qa (f.stock.length:Int) 1 8))=false,((f.cash.length:Int) != (f.stock.length:Int))=false,Qe Try.prog (.clos 115 [] []) [.int .i64 f.purses,.int .i64 0,.int .i64 20] (.bool (Qa f.purses 0 20)),(!(Qa f.purses 0 20))=false,Qe Try.prog (.clos 115 [] []) [.int .i64 f.boxes,.int .i64 0,.int .i64 12] (.bool (Qa f.boxes 0 12)),(!(Qa f.boxes 0 12))=false,(decide ((f.bundles.length:Int) > 6))=false,Qe Try.prog (.clos 182 [] []) [.int .i64 0,.int .i64 100000] (.clos 183 [] [.rptr [.int .i64 0] 0,.rptr [.int .i64 100000] 0]),Qe Try.prog (.clos 76 [] []) [.rsl (rowI f.stock) 0 f.stock.length,.clos 183 [] [.rptr [.int .i64 0] 0,.rptr [.int .i64 100000] 0]] (.bool (f.stock.any (outB 0 100000))),(f.stock.any (outB 0 100000))=false,Qe Try.prog (.clos 182 [] []) [.int .i64 0,.int .i64 1000000] (.clos 183 [] [.rptr [.int .i64 0] 0,.rptr [.int .i64 1000000] 0]),Qe Try.prog (.clos 76 [] []) [.rsl (rowI f.cash) 0 f.cash.length,.clos 183 [] [.rptr [.int .i64 0] 0,.rptr [.int .i64 1000000] 0]] (.bool (f.cash.any (outB 0 1000000))),(f.cash.any (outB 0 1000000))=false,Qe Try.prog (.clos 115 [] []) [.int .i64 f.refund,.int .i64 0,.int .i64 1000] (.bool (Qa f.refund 0 1000)),(!(Qa f.refund 0 1000))=false,Qe Try.prog (.clos 115 [] []) [.int .i64 f.band,.int .i64 0,.int .i64 1000000] (.bool (Qa f.band 0 1000000)),(!(Qa f.band 0 1000000))=false,Qe Try.prog (.clos 115 [] []) [.int .i64 f.hours,.int .i64 1,.int .i64 1440] (.bool (Qa f.hours 1 1440)),(!(Qa f.hours 1 1440))=true,true=true])
 (hr:AvLe (.int .i64 10) res):G Try.prog E [.code (Qc Try.prog 114)] ⟨[.agg [.int .i64 f.purses,.int .i64 f.boxes,.rsl (rowI f.stock) 0 f.stock.length,.rsl (rowI f.cash) 0 f.cash.length,.rsl (QX f.bundles) 0 f.bundles.length,.int .i64 f.refund,.int .i64 f.band,.int .i64 f.hours]]++unds (Try.f114.ntmps - 1),[]⟩ :=
 Qb (n:=400) (evs:=[.v (.bool (Qa (f.stock.length:Int) 1 8)),.b false,.b false,.v (.bool (Qa f.purses 0 20)),.b false,.v (.bool (Qa f.boxes 0 12)),.b false,.b false,.v (.clos 183 [] [.rptr [.int .i64 0] 0,.rptr [.int .i64 100000] 0]),.v (.bool (f.stock.any (outB 0 100000))),.b false,.v (.clos 183 [] [.rptr [.int .i64 0] 0,.rptr [.int .i64 1000000] 0]),.v (.bool (f.cash.any (outB 0 1000000))),.b false,.v (.bool (Qa f.refund 0 1000)),.b false,.v (.bool (Qa f.band 0 1000000)),.b false,.v (.bool (Qa f.hours 1 1440)),.b true,.b true]) (obs:=_) hE Try.func114 Qi (by kernel_rfl) ho hr
theorem yQ (f:Fair) {E:Env} {res:AV} (hE:Qd Try.prog 114 res E) (ho:AllP [Qe Try.prog (.clos 115 [] []) [.int .i64 (f.stock.length:Int),.int .i64 1,.int .i64 8] (.bool (Qa (f.stock.length:Int) 1 8)),(!(Qa (f.stock.length:Int) 1 8))=false,((f.cash.length:Int) != (f.stock.length:Int))=false,Qe Try.prog (.clos 115 [] []) [.int .i64 f.purses,.int .i64 0,.int .i64 20] (.bool (Qa f.purses 0 20)),(!(Qa f.purses 0 20))=false,Qe Try.prog (.clos 115 [] []) [.int .i64 f.boxes,.int .i64 0,.int .i64 12] (.bool (Qa f.boxes 0 12)),(!(Qa f.boxes 0 12))=false,(decide ((f.bundles.length:Int) > 6))=false,Qe Try.prog (.clos 182 [] []) [.int .i64 0,.int .i64 100000] (.clos 183 [] [.rptr [.int .i64 0] 0,.rptr [.int .i64 100000] 0]),Qe Try.prog (.clos 76 [] []) [.rsl (rowI f.stock) 0 f.stock.length,.clos 183 [] [.rptr [.int .i64 0] 0,.rptr [.int .i64 100000] 0]] (.bool (f.stock.any (outB 0 100000))),(f.stock.any (outB 0 100000))=false,Qe Try.prog (.clos 182 [] []) [.int .i64 0,.int .i64 1000000] (.clos 183 [] [.rptr [.int .i64 0] 0,.rptr [.int .i64 1000000] 0]),Qe Try.prog (.clos 76 [] []) [.rsl (rowI f.cash) 0 f.cash.length,.clos 183 [] [.rptr [.int .i64 0] 0,.rptr [.int .i64 1000000] 0]] (.bool (f.cash.any (outB 0 1000000))),(f.cash.any (outB 0 1000000))=false,Qe Try.prog (.clos 115 [] []) [.int .i64 f.refund,.int .i64 0,.int .i64 1000] (.bool (Qa f.refund 0 1000)),(!(Qa f.refund 0 1000))=false,Qe Try.prog (.clos 115 [] []) [.int .i64 f.band,.int .i64 0,.int .i64 1000000] (.bool (Qa f.band 0 1000000)),(!(Qa f.band 0 1000000))=false,Qe Try.prog (.clos 115 [] []) [.int .i64 f.hours,.int .i64 1,.int .i64 1440] (.bool (Qa f.hours 1 1440)),(!(Qa f.hours 1 1440))=false,Qe Try.prog (.clos 184 [] []) [.rsl (QX f.bundles) 0 f.bundles.length,.clos 185 [] [.rptr [.int .i64 f.purses,.int .i64 f.boxes,.rsl (rowI f.stock) 0 f.stock.length,.rsl (rowI f.cash) 0 f.cash.length,.rsl (QX f.bundles) 0 f.bundles.length,.int .i64 f.refund,.int .i64 f.band,.int .i64 f.hours] 0]] (.bool (f.bundles.any (badB f))),(f.bundles.any (badB f))=true])
 (hr:AvLe (.int .i64 10) res):G Try.prog E [.code (Qc Try.prog 114)] ⟨[.agg [.int .i64 f.purses,.int .i64 f.boxes,.rsl (rowI f.stock) 0 f.stock.length,.rsl (rowI f.cash) 0 f.cash.length,.rsl (QX f.bundles) 0 f.bundles.length,.int .i64 f.refund,.int .i64 f.band,.int .i64 f.hours]]++unds (Try.f114.ntmps - 1),[]⟩ :=
 Qb (n:=400) (evs:=[.v (.bool (Qa (f.stock.length:Int) 1 8)),.b false,.b false,.v (.bool (Qa f.purses 0 20)),.b false,.v (.bool (Qa f.boxes 0 12)),.b false,.b false,.v (.clos 183 [] [.rptr [.int .i64 0] 0,.rptr [.int .i64 100000] 0]),.v (.bool (f.stock.any (outB 0 100000))),.b false,.v (.clos 183 [] [.rptr [.int .i64 0] 0,.rptr [.int .i64 1000000] 0]),.v (.bool (f.cash.any (outB 0 1000000))),.b false,.v (.bool (Qa f.refund 0 1000)),.b false,.v (.bool (Qa f.band 0 1000000)),.b false,.v (.bool (Qa f.hours 1 1440)),.b false,.v (.bool (f.bundles.any (badB f))),.b true]) (obs:=_) hE Try.func114 Qi (by kernel_rfl) ho hr
theorem yP (f:Fair) {E:Env} {res:AV} (hE:Qd Try.prog 114 res E) (ho:AllP [Qe Try.prog (.clos 115 [] []) [.int .i64 (f.stock.length:Int),.int .i64 1,.int .i64 8] (.bool (Qa (f.stock.length:Int) 1 8)),(!(Qa (f.stock.length:Int) 1 8))=false,((f.cash.length:Int) != (f.stock.length:Int))=false,Qe Try.prog (.clos 115 [] []) [.int .i64 f.purses,.int .i64 0,.int .i64 20] (.bool (Qa f.purses 0 20)),(!(Qa f.purses 0 20))=false,Qe Try.prog (.clos 115 [] []) [.int .i64 f.boxes,.int .i64 0,.int .i64 12] (.bool (Qa f.boxes 0 12)),(!(Qa f.boxes 0 12))=false,(decide ((f.bundles.length:Int) > 6))=false,Qe Try.prog (.clos 182 [] []) [.int .i64 0,.int .i64 100000] (.clos 183 [] [.rptr [.int .i64 0] 0,.rptr [.int .i64 100000] 0]),Qe Try.prog (.clos 76 [] []) [.rsl (rowI f.stock) 0 f.stock.length,.clos 183 [] [.rptr [.int .i64 0] 0,.rptr [.int .i64 100000] 0]] (.bool (f.stock.any (outB 0 100000))),(f.stock.any (outB 0 100000))=false,Qe Try.prog (.clos 182 [] []) [.int .i64 0,.int .i64 1000000] (.clos 183 [] [.rptr [.int .i64 0] 0,.rptr [.int .i64 1000000] 0]),Qe Try.prog (.clos 76 [] []) [.rsl (rowI f.cash) 0 f.cash.length,.clos 183 [] [.rptr [.int .i64 0] 0,.rptr [.int .i64 1000000] 0]] (.bool (f.cash.any (outB 0 1000000))),(f.cash.any (outB 0 1000000))=false,Qe Try.prog (.clos 115 [] []) [.int .i64 f.refund,.int .i64 0,.int .i64 1000] (.bool (Qa f.refund 0 1000)),(!(Qa f.refund 0 1000))=false,Qe Try.prog (.clos 115 [] []) [.int .i64 f.band,.int .i64 0,.int .i64 1000000] (.bool (Qa f.band 0 1000000)),(!(Qa f.band 0 1000000))=false,Qe Try.prog (.clos 115 [] []) [.int .i64 f.hours,.int .i64 1,.int .i64 1440] (.bool (Qa f.hours 1 1440)),(!(Qa f.hours 1 1440))=false,Qe Try.prog (.clos 184 [] []) [.rsl (QX f.bundles) 0 f.bundles.length,.clos 185 [] [.rptr [.int .i64 f.purses,.int .i64 f.boxes,.rsl (rowI f.stock) 0 f.stock.length,.rsl (rowI f.cash) 0 f.cash.length,.rsl (QX f.bundles) 0 f.bundles.length,.int .i64 f.refund,.int .i64 f.band,.int .i64 f.hours] 0]] (.bool (f.bundles.any (badB f))),(f.bundles.any (badB f))=false])
 (hr:AvLe (.int .i64 0) res):G Try.prog E [.code (Qc Try.prog 114)] ⟨[.agg [.int .i64 f.purses,.int .i64 f.boxes,.rsl (rowI f.stock) 0 f.stock.length,.rsl (rowI f.cash) 0 f.cash.length,.rsl (QX f.bundles) 0 f.bundles.length,.int .i64 f.refund,.int .i64 f.band,.int .i64 f.hours]]++unds (Try.f114.ntmps - 1),[]⟩ :=
 Qb (n:=400) (evs:=[.v (.bool (Qa (f.stock.length:Int) 1 8)),.b false,.b false,.v (.bool (Qa f.purses 0 20)),.b false,.v (.bool (Qa f.boxes 0 12)),.b false,.b false,.v (.clos 183 [] [.rptr [.int .i64 0] 0,.rptr [.int .i64 100000] 0]),.v (.bool (f.stock.any (outB 0 100000))),.b false,.v (.clos 183 [] [.rptr [.int .i64 0] 0,.rptr [.int .i64 1000000] 0]),.v (.bool (f.cash.any (outB 0 1000000))),.b false,.v (.bool (Qa f.refund 0 1000)),.b false,.v (.bool (Qa f.band 0 1000000)),.b false,.v (.bool (Qa f.hours 1 1440)),.b false,.v (.bool (f.bundles.any (badB f))),.b false]) (obs:=_) hE Try.func114 Qi (by kernel_rfl) ho hr
theorem f114W (f:Fair) {E:Env} {rv:Int} (hE:Qd Try.prog 114 (.int .i64 rv) E)
 (h:(((Qa (f.stock.length:Int) 1 8)=false→rv=10)∧((Qa (f.stock.length:Int) 1 8)=true→((¬ ((f.cash.length:Int)=(f.stock.length:Int))→rv=10)∧((f.cash.length:Int)=(f.stock.length:Int)→(((Qa f.purses 0 20)=false→rv=10)∧((Qa f.purses 0 20)=true→(((Qa f.boxes 0 12)=false→rv=10)∧((Qa f.boxes 0 12)=true→(((f.bundles.length:Int) > 6→rv=10)∧(¬ ((f.bundles.length:Int) > 6)→((f.stock.length≤9223372036854775807)∧(((f.stock.any (outB 0 100000))=true→rv=10)∧((f.stock.any (outB 0 100000))=false→((f.cash.length≤9223372036854775807)∧(((f.cash.any (outB 0 1000000))=true→rv=10)∧((f.cash.any (outB 0 1000000))=false→(((Qa f.refund 0 1000)=false→rv=10)∧((Qa f.refund 0 1000)=true→(((Qa f.band 0 1000000)=false→rv=10)∧((Qa f.band 0 1000000)=true→(((Qa f.hours 1 1440)=false→rv=10)∧((Qa f.hours 1 1440)=true→(((∀ x ∈ f.bundles,0≤f.refund∧f.refund≤1000)∧f.bundles.length≤9223372036854775807)∧(((f.bundles.any (badB f))=true→rv=10)∧((f.bundles.any (badB f))=false→rv=0)))))))))))))))))))))))))):G Try.prog E [.code (Qc Try.prog 114)] ⟨[.agg [.int .i64 f.purses,.int .i64 f.boxes,.rsl (rowI f.stock) 0 f.stock.length,.rsl (rowI f.cash) 0 f.cash.length,.rsl (QX f.bundles) 0 f.bundles.length,.int .i64 f.refund,.int .i64 f.band,.int .i64 f.hours]]++unds (Try.f114.ntmps - 1),[]⟩:=by
 rcases bft (!(Qa (f.stock.length:Int) 1 8)) with hc0 | hc0
 · have h:=h.1 (bnT hc0)
   exact p114_start_0 f hE ⟨(u115 (Qn (f.stock.length:Int) 1 8)),hc0,rfl,rfl,rfl,rfl,rfl,rfl,rfl,rfl,rfl,rfl,trivial⟩ (AvLe.of_eq (by rw [h]; try rfl))
 · have h:=h.2 (bnF hc0)
   rcases bft ((f.cash.length:Int) != (f.stock.length:Int)) with hc1 | hc1
   · have h:=h.1 (bneT hc1)
     exact p114_start_1 f hE ⟨(u115 (Qn (f.stock.length:Int) 1 8)),hc0,hc1,rfl,rfl,rfl,rfl,rfl,rfl,rfl,rfl,rfl,trivial⟩ (AvLe.of_eq (by rw [h]; try rfl))
   · have h:=h.2 (bneF hc1)
     rcases bft (!(Qa f.purses 0 20)) with hc2 | hc2
     · have h:=h.1 (bnT hc2)
       exact p114_start_2 f hE ⟨(u115 (Qn (f.stock.length:Int) 1 8)),hc0,hc1,(u115 (Qn f.purses 0 20)),hc2,rfl,rfl,rfl,rfl,rfl,rfl,rfl,rfl,trivial⟩ (AvLe.of_eq (by rw [h]; try rfl))
     · have h:=h.2 (bnF hc2)
       rcases bft (!(Qa f.boxes 0 12)) with hc3 | hc3
       · have h:=h.1 (bnT hc3)
         exact p114_start_3 f hE ⟨(u115 (Qn (f.stock.length:Int) 1 8)),hc0,hc1,(u115 (Qn f.purses 0 20)),hc2,(u115 (Qn f.boxes 0 12)),hc3,rfl,rfl,rfl,rfl,rfl,rfl,rfl,trivial⟩ (AvLe.of_eq (by rw [h]; try rfl))
       · have h:=h.2 (bnF hc3)
         rcases bft (decide ((f.bundles.length:Int) > 6)) with hc4 | hc4
         · have h:=h.1 (odt hc4)
           exact p114_start_4 f hE ⟨(u115 (Qn (f.stock.length:Int) 1 8)),hc0,hc1,(u115 (Qn f.purses 0 20)),hc2,(u115 (Qn f.boxes 0 12)),hc3,hc4,rfl,rfl,rfl,rfl,rfl,rfl,trivial⟩ (AvLe.of_eq (by rw [h]; try rfl))
         · have h:=h.2 (odf hc4)
           obtain ⟨h1,h⟩:=h
           rcases bft (f.stock.any (outB 0 100000)) with hc5 | hc5
           · have h:=h.1 hc5
             exact p114_start_5 f hE ⟨(u115 (Qn (f.stock.length:Int) 1 8)),hc0,hc1,(u115 (Qn f.purses 0 20)),hc2,(u115 (Qn f.boxes 0 12)),hc3,hc4,(u182 (Yv 0 100000)),(Qo Try.func76 (by kernel_rfl) VP (Xe f.stock 0 100000 h1)),hc5,rfl,rfl,rfl,rfl,rfl,trivial⟩ (AvLe.of_eq (by rw [h]; try rfl))
           · have h:=h.2 hc5
             obtain ⟨h2,h⟩:=h
             rcases bft (f.cash.any (outB 0 1000000)) with hc6 | hc6
             · have h:=h.1 hc6
               exact p114_start_6 f hE ⟨(u115 (Qn (f.stock.length:Int) 1 8)),hc0,hc1,(u115 (Qn f.purses 0 20)),hc2,(u115 (Qn f.boxes 0 12)),hc3,hc4,(u182 (Yv 0 100000)),(Qo Try.func76 (by kernel_rfl) VP (Xe f.stock 0 100000 h1)),hc5,(u182 (Yv 0 1000000)),(Qo Try.func76 (by kernel_rfl) VP (Xe f.cash 0 1000000 h2)),hc6,rfl,rfl,rfl,rfl,trivial⟩ (AvLe.of_eq (by rw [h]; try rfl))
             · have h:=h.2 hc6
               rcases bft (!(Qa f.refund 0 1000)) with hc7 | hc7
               · have h:=h.1 (bnT hc7)
                 exact p114_start_7 f hE ⟨(u115 (Qn (f.stock.length:Int) 1 8)),hc0,hc1,(u115 (Qn f.purses 0 20)),hc2,(u115 (Qn f.boxes 0 12)),hc3,hc4,(u182 (Yv 0 100000)),(Qo Try.func76 (by kernel_rfl) VP (Xe f.stock 0 100000 h1)),hc5,(u182 (Yv 0 1000000)),(Qo Try.func76 (by kernel_rfl) VP (Xe f.cash 0 1000000 h2)),hc6,(u115 (Qn f.refund 0 1000)),hc7,rfl,rfl,rfl,trivial⟩ (AvLe.of_eq (by rw [h]; try rfl))
               · have h:=h.2 (bnF hc7)
                 rcases bft (!(Qa f.band 0 1000000)) with hc8 | hc8
                 · have h:=h.1 (bnT hc8)
                   exact p114_start_8 f hE ⟨(u115 (Qn (f.stock.length:Int) 1 8)),hc0,hc1,(u115 (Qn f.purses 0 20)),hc2,(u115 (Qn f.boxes 0 12)),hc3,hc4,(u182 (Yv 0 100000)),(Qo Try.func76 (by kernel_rfl) VP (Xe f.stock 0 100000 h1)),hc5,(u182 (Yv 0 1000000)),(Qo Try.func76 (by kernel_rfl) VP (Xe f.cash 0 1000000 h2)),hc6,(u115 (Qn f.refund 0 1000)),hc7,(u115 (Qn f.band 0 1000000)),hc8,rfl,rfl,trivial⟩ (AvLe.of_eq (by rw [h]; try rfl))
                 · have h:=h.2 (bnF hc8)
                   rcases bft (!(Qa f.hours 1 1440)) with hc9 | hc9
                   · have h:=h.1 (bnT hc9)
                     exact p114_start_9 f hE ⟨(u115 (Qn (f.stock.length:Int) 1 8)),hc0,hc1,(u115 (Qn f.purses 0 20)),hc2,(u115 (Qn f.boxes 0 12)),hc3,hc4,(u182 (Yv 0 100000)),(Qo Try.func76 (by kernel_rfl) VP (Xe f.stock 0 100000 h1)),hc5,(u182 (Yv 0 1000000)),(Qo Try.func76 (by kernel_rfl) VP (Xe f.cash 0 1000000 h2)),hc6,(u115 (Qn f.refund 0 1000)),hc7,(u115 (Qn f.band 0 1000000)),hc8,(u115 (Qn f.hours 1 1440)),hc9,rfl,trivial⟩ (AvLe.of_eq (by rw [h]; try rfl))
                   · have h:=h.2 (bnF hc9)
                     obtain ⟨h3,h⟩:=h
                     rcases bft (f.bundles.any (badB f)) with hc10 | hc10
                     · have h:=h.1 hc10
                       exact yQ f hE ⟨(u115 (Qn (f.stock.length:Int) 1 8)),hc0,hc1,(u115 (Qn f.purses 0 20)),hc2,(u115 (Qn f.boxes 0 12)),hc3,hc4,(u182 (Yv 0 100000)),(Qo Try.func76 (by kernel_rfl) VP (Xe f.stock 0 100000 h1)),hc5,(u182 (Yv 0 1000000)),(Qo Try.func76 (by kernel_rfl) VP (Xe f.cash 0 1000000 h2)),hc6,(u115 (Qn f.refund 0 1000)),hc7,(u115 (Qn f.band 0 1000000)),hc8,(u115 (Qn f.hours 1 1440)),hc9,(Qo Try.func184 (by kernel_rfl) f184bb (anyBad_ok f.bundles f h3)),hc10,trivial⟩ (AvLe.of_eq (by rw [h]; try rfl))
                     · have h:=h.2 hc10
                       exact yP f hE ⟨(u115 (Qn (f.stock.length:Int) 1 8)),hc0,hc1,(u115 (Qn f.purses 0 20)),hc2,(u115 (Qn f.boxes 0 12)),hc3,hc4,(u182 (Yv 0 100000)),(Qo Try.func76 (by kernel_rfl) VP (Xe f.stock 0 100000 h1)),hc5,(u182 (Yv 0 1000000)),(Qo Try.func76 (by kernel_rfl) VP (Xe f.cash 0 1000000 h2)),hc6,(u115 (Qn f.refund 0 1000)),hc7,(u115 (Qn f.band 0 1000000)),hc8,(u115 (Qn f.hours 1 1440)),hc9,(Qo Try.func184 (by kernel_rfl) f184bb (anyBad_ok f.bundles f h3)),hc10,trivial⟩ (AvLe.of_eq (by rw [h]; try rfl))
def Yo (f:Fair):Bool:=Qa f.stock.length 1 8 && (decide (f.cash.length=f.stock.length) && (Qa f.purses 0 20 && (Qa f.boxes 0 12 && (decide (f.bundles.length≤6) && (!(f.stock.any (outB 0 100000)) && (!(f.cash.any (outB 0 1000000)) && (Qa f.refund 0 1000 && (Qa f.band 0 1000000 && (Qa f.hours 1 1440 && !(f.bundles.any (badB f)))))))))))
def Yz (f:Fair):Int:=if Yo f=true then 0 else 10
structure FairSmall (f:Fair):Prop where
 stock:f.stock.length≤1000
 cash:f.cash.length≤1000
 bundles:f.bundles.length≤1000
theorem Xn {f:Fair} (h:Yo f=false):Yz f=10:=by unfold Yz; rw [if_neg (by rw [h]; exact Bool.false_ne_true)]
theorem WN (f:Fair) (hs:FairSmall f):Pure Try.prog 114 [.agg [.int .i64 f.purses,.int .i64 f.boxes,.rsl (rowI f.stock) 0 f.stock.length,.rsl (rowI f.cash) 0 f.cash.length,.rsl (QX f.bundles) 0 f.bundles.length,.int .i64 f.refund,.int .i64 f.band,.int .i64 f.hours]] (.int .i64 (Yz f)):=Qy Try.func114 f114b fun E hE=>by
 have s1:=hs.stock
 have s2:=hs.cash
 have s3:=hs.bundles
 refine f114W f (rv:=Yz f) hE ⟨fun h1=>Xn ?_,fun h1=>⟨fun h2=>Xn ?_,fun h2=>⟨fun h3=>Xn ?_,fun h3=>⟨fun h4=>Xn ?_,fun h4=>⟨fun h5=>Xn ?_,fun h5=>⟨by omega,fun h6=>Xn ?_,fun h6=>⟨by omega,fun h7=>Xn ?_,fun h7=>⟨fun h8=>Xn ?_,fun h8=>⟨fun h9=>Xn ?_,fun h9=>⟨fun h10=>Xn ?_,fun h10=>⟨⟨fun x _=>?_,by omega⟩,fun h11=>Xn ?_,fun h11=>?_⟩⟩⟩⟩⟩⟩⟩⟩⟩⟩⟩
 · unfold Yo; rw [h1]; rfl
 · unfold Yo; rw [decide_eq_false (show ¬ f.cash.length=f.stock.length by omega),Bool.false_and,Bool.and_false]
 · unfold Yo; rw [h3]; simp
 · unfold Yo; rw [h4]; simp
 · unfold Yo; rw [decide_eq_false (show ¬ f.bundles.length≤6 by omega)]; simp
 · unfold Yo; rw [h6]; simp
 · unfold Yo; rw [h7]; simp
 · unfold Yo; rw [h8]; simp
 · unfold Yo; rw [h9]; simp
 · unfold Yo; rw [h10]; simp
 · exact Yg.1 h8
 · unfold Yo; rw [h11]; simp
 · unfold Yz
   rw [if_pos]
   unfold Yo
   rw [h1,h3,h4,h6,h7,h8,h9,h10,h11,decide_eq_true (show f.cash.length=f.stock.length by omega),decide_eq_true (show f.bundles.length≤6 by omega)]; rfl
end Go.Proofs.Ytemklbioijmjiaa
namespace Go.Proofs.Ytemklbioijmjiaa
open Go Ax
open Go.Proofs
abbrev NN:Int:=1152921504606846976
/-- The prices so far. -/
def LP (f:Nat→Int) (j:Nat):List Int:=(List.range 1008).map fun i=>if i<j then f i else NN
theorem yz {f:Nat→Int} {j:Nat}:(LP f j).length=1008:=by simp [LP]
theorem Yq {f:Nat→Int} {j i:Nat} (h:i<1008):(LP f j)[i]?=some (if i<j then f i else NN):=by
 unfold LP; rw [List.getElem?_map,List.getElem?_range h]; rfl
theorem LP_set {f:Nat→Int} {j:Nat} (h:j<1008):(LP f j).set j (f j)=LP f (j+1):=by
 refine List.ext_getElem? fun i=>?_
 by_cases hi:i<1008
 · rw [Yq hi]
   by_cases e:j=i
   · subst e
     rw [List.getElem?_set_self (by rw [yz]; omega),if_pos (by omega)]
   · rw [List.getElem?_set_ne e,Yq hi]
     by_cases c:i<j
     · rw [if_pos c,if_pos (by omega)]
     · rw [if_neg c,if_neg (by omega)]
 · rw [List.getElem?_eq_none (by rw [List.length_set,yz]; omega),List.getElem?_eq_none (by rw [yz]; omega)]
theorem LP_zero {f:Nat→Int}:List.replicate 1008 NN=LP f 0:=by
 refine List.ext_getElem? fun i=>?_
 by_cases hi:i<1008
 · rw [Yq hi,List.getElem?_replicate,if_pos hi,if_neg (by omega)]
 · rw [List.getElem?_eq_none (by simp; omega),List.getElem?_eq_none (by rw [yz]; omega)]
def c1 (t:Nat):Int:=if t % 6=0 then 1000*((t / 6:Nat):Int) else NN
def c0 (t:Nat):Int:=1000*((t / 6:Nat):Int)+200*((t % 6:Nat):Int)
def r2:List Int:=(List.replicate 1008 NN).set 0 0
theorem r2_get {j:Nat} (h:j<1008):r2[j]?=some (if j=0 then 0 else NN):=by
 unfold r2
 by_cases e:j=0
 · subst e; rw [List.getElem?_set_self (by simp),if_pos rfl]
 · rw [List.getElem?_set_ne (by omega),List.getElem?_replicate,if_pos h,if_neg e]
theorem VU {t:Nat} (h:t<1008) (h6:t % 6=0):c1 t=1000*((t / 6:Nat):Int)∧0≤c1 t∧c1 t≤200000:=by
 unfold c1; rw [if_pos h6]; omega
theorem qz {t:Nat} (h6:¬ t % 6=0):c1 t=NN:=by unfold c1; rw [if_neg h6]
theorem c0_bd {t:Nat} (h:t<1008):0≤c0 t∧c0 t≤200000:=by unfold c0; omega
theorem c0_step {j:Nat} (h0:1≤j) (h:j<1008):iMin (c1 j) (c0 (j - 1)+200)=c0 j:=by
 unfold iMin
 by_cases h6:j % 6=0
 · obtain ⟨e,-,-⟩:=VU h h6
   rw [e]
   unfold c0
   rw [if_neg (by omega)]; omega
 · rw [qz h6]
   unfold c0 NN
   rw [if_pos (by omega)]; omega
theorem c1_step {j:Nat} (h0:6≤j) (h:j<1008) (h6:(j - 6) % 6=0):iMin NN (c1 (j - 6)+1000)=c1 j:=by
 obtain ⟨e,-,-⟩:=VU (t:=j - 6) (by omega) h6
 obtain ⟨e',-,-⟩:=VU (t:=j) (by omega) (by omega)
 rw [e,e']
 unfold iMin NN
 rw [if_pos (by omega)]; omega
theorem f186b:Try.f186.body=some (Qc Try.prog 186):=by kernel_rfl
theorem u186 {a c k:List AV} {r:AV} (h:Pure Try.prog 186 (a++c++k) r):Qe Try.prog (.clos 186 a k) c r:=Qo Try.func186 (by kernel_rfl) f186b h
def VQ (P:Program):List Item:=kAt 400 [.code (Qc P 186)] [.b true,.b true,.b true,.b false,.b true,.b false,.b true,.stop]
def Wz (v4:List Int) (v6:List Int) (j:Nat) (v2:List Int) (g4:Nat) (g6:Nat) (g2:Nat):St:=⟨([.rsl [.int .i64 1,.int .i64 200,.int .i64 6,.int .i64 1000] 0 2,.int .i64 7,J,J,J,J,.int .i64 1007,.sl 0 0 0 3 1,J,.int .i64 0]++jj 43 ([.int .i64 (((List.replicate (Int.toNat (1008:Int)) (1152921504606846976:Int)).length:Nat):Int),.int .i64 (j:Int)]++Js 163)),[⟨true,0,1,false,[.sl 2 g2 0 v2.length 1,.sl 4 g4 0 v4.length 1,.sl 6 g6 0 v6.length 1],true⟩,⟨false,1,1,true,[],false⟩,⟨true,g2,1,true,(rowI v2),true⟩,⟨false,1,1,true,[],false⟩,⟨true,g4,1,true,(rowI v4),true⟩,⟨false,1,1,true,[],false⟩,⟨true,g6,1,true,(rowI v6),true⟩]⟩
def yl (E:Env) (v4:List Int) (v6:List Int) (j:Nat) (v2:List Int):Prop:=∀ g4 g6 g2:Nat,G Try.prog E (VQ Try.prog) (Wz v4 v6 j v2 g4 g6 g2)
def WA (P:Program):List Item:=kAt 400 [.code (Qc P 186)] [.b true,.b true,.b true,.b false,.b true,.b false,.b true,.b false,.b false,.stop]
def f186S3 (v2:List Int) (v4:List Int) (v6:List Int) (t:Nat) (tokens:Nat) (g2:Nat) (g4:Nat) (g6:Nat):St:=⟨([.rsl [.int .i64 1,.int .i64 200,.int .i64 6,.int .i64 1000] 0 2]++jj 5 ([.int .i64 1007,.sl 0 0 0 3 1,J,J,J,J,.int .i64 (tokens:Int),.int .i64 (t:Int)]++Js 204)),[⟨true,0,1,false,[.sl 2 g2 0 v2.length 1,.sl 4 g4 0 v4.length 1,.sl 6 g6 0 v6.length 1],true⟩,⟨false,1,1,true,[],false⟩,⟨true,g2,1,true,(rowI v2),true⟩,⟨false,1,1,true,[],false⟩,⟨true,g4,1,true,(rowI v4),true⟩,⟨false,1,1,true,[],false⟩,⟨true,g6,1,true,(rowI v6),true⟩]⟩
def f186G3 (E:Env) (v2:List Int) (v4:List Int) (v6:List Int) (t:Nat) (tokens:Nat):Prop:=∀ g2 g4 g6:Nat,G Try.prog E (WA Try.prog) (f186S3 v2 v4 v6 t tokens g2 g4 g6)
def qo (P:Program):List Item:=kAt 400 [.code (Qc P 186)] [.b true,.b true,.b true,.b false,.b true,.b false,.b true,.b false,.b false,.b false,.b false,.b true,.stop]
def f186S5 (price:Int) (tokens:Int) (left:Int) (v2:List Int) (v4:List Int) (v6:List Int) (v7_0:Nat) (g2:Nat) (g4:Nat) (g6:Nat):St:=⟨([J,J,J,J,.sl 7 0 0 2 1,.int .i64 price,J,.sl 0 0 0 3 1,J,J,J,J,.int .i64 tokens,J,.int .i64 0,.ptr 8 0 0,.int .i64 left]++jj 133 ([.rsl [.int .i64 1,.int .i64 200,.int .i64 6,.int .i64 1000] 0 2,.int .i64 2,.int .i64 0]++Js 65)),[⟨true,0,1,false,[.sl 2 g2 0 v2.length 1,.sl 4 g4 0 v4.length 1,.sl 6 g6 0 v6.length 1],true⟩,⟨false,1,1,true,[],false⟩,⟨true,g2,1,true,(rowI v2),true⟩,⟨false,1,1,true,[],false⟩,⟨true,g4,1,true,(rowI v4),true⟩,⟨false,1,1,true,[],false⟩,⟨true,g6,1,true,(rowI v6),true⟩,⟨true,0,1,true,[.int .i64 (v7_0:Int),.int .i64 0],true⟩,⟨true,0,1,true,[.int .i64 1,.int .i64 200],false⟩]⟩
def f186G5 (E:Env) (price:Int) (tokens:Int) (left:Int) (v2:List Int) (v4:List Int) (v6:List Int) (v7_0:Nat):Prop:=∀ g2 g4 g6:Nat,G Try.prog E (qo Try.prog) (f186S5 price tokens left v2 v4 v6 v7_0 g2 g4 g6)
def XG (P:Program):List Item:=kAt 400 [.code (Qc P 186)] [.b true,.b true,.b true,.b false,.b true,.stop]
def XE (v6:List Int) (j:Nat) (v4:List Int) (g6:Nat) (g4:Nat):St:=⟨([.rsl [.int .i64 1,.int .i64 200,.int .i64 6,.int .i64 1000] 0 2,.int .i64 7,J,J,J,J,.int .i64 1007,.sl 0 0 0 3 1,J,.int .i64 1]++jj 43 ([.int .i64 (((List.replicate (Int.toNat (1008:Int)) (1152921504606846976:Int)).length:Nat):Int),.int .i64 (j:Int)]++Js 163)),[⟨true,0,1,false,[.sl 2 0 0 ((List.replicate (Int.toNat (1008:Int)) (1152921504606846976:Int)).length) 1,.sl 4 g4 0 v4.length 1,.sl 6 g6 0 v6.length 1],true⟩,⟨false,1,1,true,[],false⟩,⟨true,0,1,true,(rowI (List.replicate (Int.toNat (1008:Int)) (1152921504606846976:Int))),true⟩,⟨false,1,1,true,[],false⟩,⟨true,g4,1,true,(rowI v4),true⟩,⟨false,1,1,true,[],false⟩,⟨true,g6,1,true,(rowI v6),true⟩]⟩
def YA (E:Env) (v6:List Int) (j:Nat) (v4:List Int):Prop:=∀ g6 g4:Nat,G Try.prog E (XG Try.prog) (XE v6 j v4 g6 g4)
def XF (P:Program):List Item:=kAt 400 [.code (Qc P 186)] [.b true,.b true,.b true,.b false,.b true,.b false,.b true,.b false,.b false,.b false,.b false,.b true,.b false,.b true,.stop]
def YY (price:Int) (tokens:Int) (left:Int) (v2:List Int) (v4:List Int) (v6:List Int) (v7_0:Nat) (v7_1:Nat) (g2:Nat) (g4:Nat) (g6:Nat):St:=⟨([J,J,J,J,.sl 7 0 0 2 1,.int .i64 price,J,.sl 0 0 0 3 1,J,J,J,J,.int .i64 tokens,J,.int .i64 1,.ptr 9 0 0,.int .i64 left]++jj 133 ([.rsl [.int .i64 1,.int .i64 200,.int .i64 6,.int .i64 1000] 0 2,.int .i64 2,.int .i64 1]++Js 65)),[⟨true,0,1,false,[.sl 2 g2 0 v2.length 1,.sl 4 g4 0 v4.length 1,.sl 6 g6 0 v6.length 1],true⟩,⟨false,1,1,true,[],false⟩,⟨true,g2,1,true,(rowI v2),true⟩,⟨false,1,1,true,[],false⟩,⟨true,g4,1,true,(rowI v4),true⟩,⟨false,1,1,true,[],false⟩,⟨true,g6,1,true,(rowI v6),true⟩,⟨true,0,1,true,[.int .i64 (v7_0:Int),.int .i64 (v7_1:Int)],true⟩,⟨true,0,1,true,[.int .i64 1,.int .i64 200],false⟩,⟨true,0,1,true,[.int .i64 6,.int .i64 1000],false⟩]⟩
def Ye (E:Env) (price:Int) (tokens:Int) (left:Int) (v2:List Int) (v4:List Int) (v6:List Int) (v7_0:Nat) (v7_1:Nat):Prop:=∀ g2 g4 g6:Nat,G Try.prog E (XF Try.prog) (YY price tokens left v2 v4 v6 v7_0 v7_1 g2 g4 g6)
theorem p186_start_0 (e:Int) {E:Env} {rv:AV} (hE:Qd Try.prog 186 rv E) (ho:AllP [InR .i64 1007,InR .i64 3,(0:Int)≤3∧(3:Int)≤3∧(3:Int)≤2147483648,0=0,true=true,(∀ k,slOf 0 k (.sl k 0 0 1 1)=true),InR .i64 1008,LentF Try.prog (.clos 55 [] []) [.rsl [.int .i64 1152921504606846976] 0 1,.int .i64 1008] [] (.sl 0 0 0 ((List.replicate (Int.toNat (1008:Int)) (1152921504606846976:Int)).length) 1) [⟨true,0,1,true,(rowI (List.replicate (Int.toNat (1008:Int)) (1152921504606846976:Int))),true⟩],(0:Int)≤0∧(0:Int)<((3:Nat):Int),0=0,1≤3,0=0,InR .i64 1,true=true,(∀ k,slOf 0 k (.sl k 0 0 1 1)=true),InR .i64 1008,LentF Try.prog (.clos 55 [] []) [.rsl [.int .i64 1152921504606846976] 0 1,.int .i64 1008] [] (.sl 0 0 0 ((List.replicate (Int.toNat (1008:Int)) (1152921504606846976:Int)).length) 1) [⟨true,0,1,true,(rowI (List.replicate (Int.toNat (1008:Int)) (1152921504606846976:Int))),true⟩],(0:Int)≤1∧(1:Int)<((3:Nat):Int),0=0,2≤3,0=0,InR .i64 2,true=true,(∀ k,slOf 0 k (.sl k 0 0 1 1)=true),InR .i64 1008,LentF Try.prog (.clos 55 [] []) [.rsl [.int .i64 1152921504606846976] 0 1,.int .i64 1008] [] (.sl 0 0 0 ((List.replicate (Int.toNat (1008:Int)) (1152921504606846976:Int)).length) 1) [⟨true,0,1,true,(rowI (List.replicate (Int.toNat (1008:Int)) (1152921504606846976:Int))),true⟩],(0:Int)≤2∧(2:Int)<((3:Nat):Int),0=0,3≤3,0=0,InR .i64 3,false=false,(0:Int)≤2∧(2:Int)<((3:Nat):Int),0=0,0=0,(0:Int)≤0∧(0:Int)<(((List.replicate (Int.toNat (1008:Int)) (1152921504606846976:Int)).length:Nat):Int),0=0,((0+0*1)+1)≤(rowI (List.replicate (Int.toNat (1008:Int)) (1152921504606846976:Int))).length,0=0,InR .i64 1,true=true,(0:Int)≤1∧(1:Int)<((3:Nat):Int),0=0,0=0,0=0])
 (hg:G Try.prog E (XG Try.prog) ⟨([.rsl [.int .i64 1,.int .i64 200,.int .i64 6,.int .i64 1000] 0 2,.int .i64 7,J,J,J,J,.int .i64 1007,.sl 0 0 0 3 1,J,.int .i64 1]++jj 43 ([.int .i64 (((List.replicate (Int.toNat (1008:Int)) (1152921504606846976:Int)).length:Nat):Int),.int .i64 0]++Js 163)),[⟨true,0,1,false,[.sl 2 0 0 ((List.replicate (Int.toNat (1008:Int)) (1152921504606846976:Int)).length) 1,.sl 4 0 0 ((List.replicate (Int.toNat (1008:Int)) (1152921504606846976:Int)).length) 1,.sl 6 0 0 ((List.replicate (Int.toNat (1008:Int)) (1152921504606846976:Int)).length) 1],true⟩,⟨false,1,1,true,[],false⟩,⟨true,0,1,true,(rowI (List.replicate (Int.toNat (1008:Int)) (1152921504606846976:Int))),true⟩,⟨false,1,1,true,[],false⟩,⟨true,0,1,true,(rowI (List.replicate (Int.toNat (1008:Int)) (1152921504606846976:Int))),true⟩,⟨false,1,1,true,[],false⟩,⟨true,0,1,true,(Qx (rowI (List.replicate (Int.toNat (1008:Int)) (1152921504606846976:Int))) (0+0*1) [.int .i64 0]),true⟩]⟩):G Try.prog E [.code (Qc Try.prog 186)] ⟨[.rsl [.int .i64 1,.int .i64 200,.int .i64 6,.int .i64 1000] 0 2,.int .i64 7]++unds (Try.f186.ntmps - 2),[]⟩ :=
 Ql (n:=400) (ds:=[]) (cs:=[]) (live:=[0,1,6,7,9,53,54]) (m:=7) (evs:=[.b true,.vn .junk,.lent [] (.sl 0 0 0 ((List.replicate (Int.toNat (1008:Int)) (1152921504606846976:Int)).length) 1) [⟨true,0,1,true,(rowI (List.replicate (Int.toNat (1008:Int)) (1152921504606846976:Int))),true⟩],.b true,.vn .junk,.lent [] (.sl 0 0 0 ((List.replicate (Int.toNat (1008:Int)) (1152921504606846976:Int)).length) 1) [⟨true,0,1,true,(rowI (List.replicate (Int.toNat (1008:Int)) (1152921504606846976:Int))),true⟩],.b true,.vn .junk,.lent [] (.sl 0 0 0 ((List.replicate (Int.toNat (1008:Int)) (1152921504606846976:Int)).length) 1) [⟨true,0,1,true,(rowI (List.replicate (Int.toNat (1008:Int)) (1152921504606846976:Int))),true⟩],.b false,.b true,.stop]) (obs:=_) hE.2.1 (hE.nogh _) Qi (by kernel_rfl) ho hg
theorem f186W {E:Env} {rv:((List Int) × Int)} (hE:Qd Try.prog 186 (.tup [.rsl (rowI rv.1) 0 rv.1.length,.int .i64 rv.2]) E)
 (h:(((1:Int)≤(1008:Int)∧(1008:Int)≤2147483648)∧(((1:Int)≤(1008:Int)∧(1008:Int)≤2147483648)∧(((1:Int)≤(1008:Int)∧(1008:Int)≤2147483648)∧(∃ e:Int,(List.replicate (Int.toNat (1008:Int)) (1152921504606846976:Int))[0]?=some e∧YA E ((List.replicate (Int.toNat (1008:Int)) (1152921504606846976:Int)).set 0 0) 0 (List.replicate (Int.toNat (1008:Int)) (1152921504606846976:Int))))))):G Try.prog E [.code (Qc Try.prog 186)] ⟨[.rsl [.int .i64 1,.int .i64 200,.int .i64 6,.int .i64 1000] 0 2,.int .i64 7]++unds (Try.f186.ntmps - 2),[]⟩:=by
 obtain ⟨h1,h⟩:=h
 obtain ⟨h2,h⟩:=h
 obtain ⟨h3,h⟩:=h
 obtain ⟨e,h4,h⟩:=h
 refine p186_start_0 e hE ⟨(⟨by decide,by decide⟩),(⟨by decide,by decide⟩),(⟨by decide,by decide,by decide⟩),rfl,rfl,(fun k=>by simp [slOf]),(⟨by decide,by decide⟩),(VM Try.func55 (by kernel_rfl) f55b (WS (1152921504606846976:Int) (1008:Int) h1)),(⟨by decide,by decide⟩),rfl,(by decide),rfl,(⟨by decide,by decide⟩),rfl,(fun k=>by simp [slOf]),(⟨by decide,by decide⟩),(VM Try.func55 (by kernel_rfl) f55b (WS (1152921504606846976:Int) (1008:Int) h2)),(⟨by decide,by decide⟩),rfl,(by decide),rfl,(⟨by decide,by decide⟩),rfl,(fun k=>by simp [slOf]),(⟨by decide,by decide⟩),(VM Try.func55 (by kernel_rfl) f55b (WS (1152921504606846976:Int) (1008:Int) h3)),(⟨by decide,by decide⟩),rfl,(by decide),rfl,(⟨by decide,by decide⟩),rfl,(⟨by decide,by decide⟩),rfl,rfl,(Qr h4),rfl,(rf cI 1 0 1 h4),rfl,(⟨by decide,by decide⟩),rfl,(⟨by decide,by decide⟩),rfl,rfl,rfl,trivial⟩ ?_
 have h:=(h 0 0)
 simp only [XE,List.length_set] at h
 rw [(show Qx (rowI (List.replicate (Int.toNat (1008:Int)) (1152921504606846976:Int))) (0+0*1) [.int .i64 0]=rowI ((List.replicate (Int.toNat (1008:Int)) (1152921504606846976:Int)).set 0 0) from QF cI (s:=1) (k:=0) (fun _=>rfl) h4 rfl (by first | decide | simp))]
 exact h
theorem p186_1002_0 (v6:List Int) (j:Nat) (v4:List Int) (g6:Nat) (g4:Nat) (e:Int) (e1:Int) (e2:Int) (e3:Int) {E:Env} {rv:AV} (hE:Qd Try.prog 186 rv E) (ho:AllP [(decide ((j:Int)<(((List.replicate (Int.toNat (1008:Int)) (1152921504606846976:Int)).length:Nat):Int)))=true,(0:Int)≤1∧(1:Int)<((3:Nat):Int),0=0,0=0,InR .i64 2,(0:Int)≤2∧(2:Int)<((3:Nat):Int),0=0,0=0,0≤(j:Int)∧(j:Int)<(v6.length:Int),g6=g6,g6=g6,((rowI v6).drop (0+(Int.toNat (j:Int))*1)).take 1=[.int .i64 e],0≤(j:Int)∧(j:Int)<(v4.length:Int),g4=g4,((0+(Int.toNat (j:Int))*1)+1)≤(rowI v4).length,g4=g4,(0:Int)≤1∧(1:Int)<((2:Nat):Int),InR .i64 ((j:Int) - 6),(decide (((j:Int) - 6)≥0))=true,(0:Int)≤1∧(1:Int)<((3:Nat):Int),0=0,0=0,0≤((j:Int) - 6)∧((j:Int) - 6)<(v4.length:Int),g4=g4,g4=g4,((Qx (rowI v4) (0+(Int.toNat (j:Int))*1) [.int .i64 e]).drop (0+(Int.toNat ((j:Int) - 6))*1)).take 1=[.int .i64 e2],(decide (e2<1152921504606846976))=true,(0:Int)≤1∧(1:Int)<((3:Nat):Int),0=0,0=0,(0:Int)≤1∧(1:Int)<((3:Nat):Int),0=0,0=0,0≤(j:Int)∧(j:Int)<(v4.length:Int),g4=g4,g4=g4,((Qx (rowI v4) (0+(Int.toNat (j:Int))*1) [.int .i64 e]).drop (0+(Int.toNat (j:Int))*1)).take 1=[.int .i64 e3],(0:Int)≤1∧(1:Int)<((3:Nat):Int),0=0,0=0,0≤((j:Int) - 6)∧((j:Int) - 6)<(v4.length:Int),g4=g4,g4=g4,((Qx (rowI v4) (0+(Int.toNat (j:Int))*1) [.int .i64 e]).drop (0+(Int.toNat ((j:Int) - 6))*1)).take 1=[.int .i64 e2],(0:Int)≤1∧(1:Int)<((2:Nat):Int),InR .i64 (e2+1000),0≤(j:Int)∧(j:Int)<(v4.length:Int),g4=g4,((0+(Int.toNat (j:Int))*1)+1)≤(Qx (rowI v4) (0+(Int.toNat (j:Int))*1) [.int .i64 e]).length,g4=g4,InR .i64 ((j:Int)+1)])
 (hg:G Try.prog E (XG Try.prog) ⟨([.rsl [.int .i64 1,.int .i64 200,.int .i64 6,.int .i64 1000] 0 2,.int .i64 7,J,J,J,J,.int .i64 1007,.sl 0 0 0 3 1,J,.int .i64 1]++jj 43 ([.int .i64 (((List.replicate (Int.toNat (1008:Int)) (1152921504606846976:Int)).length:Nat):Int),.int .i64 ((j:Int)+1)]++Js 163)),[⟨true,0,1,false,[.sl 2 0 0 ((List.replicate (Int.toNat (1008:Int)) (1152921504606846976:Int)).length) 1,.sl 4 g4 0 v4.length 1,.sl 6 g6 0 v6.length 1],true⟩,⟨false,1,1,true,[],false⟩,⟨true,0,1,true,(rowI (List.replicate (Int.toNat (1008:Int)) (1152921504606846976:Int))),true⟩,⟨false,1,1,true,[],false⟩,⟨true,g4,1,true,(Qx (Qx (rowI v4) (0+(Int.toNat (j:Int))*1) [.int .i64 e]) (0+(Int.toNat (j:Int))*1) [.int .i64 (iMin e3 (e2+1000))]),true⟩,⟨false,1,1,true,[],false⟩,⟨true,g6,1,true,(rowI v6),true⟩]⟩):G Try.prog E (XG Try.prog) (XE v6 j v4 g6 g4) :=
 Ql (n:=400) (ds:=[]) (cs:=[]) (live:=[0,1,6,7,9,53,54]) (m:=7) (evs:=[.b true,.auto,.auto,.ld (.int .i64 e),.b true,.auto,.ld (.int .i64 e2),.b true,.auto,.auto,.ld (.int .i64 e3),.auto,.ld (.int .i64 e2),.stop]) (obs:=_) hE.2.1 (hE.nogh _) Qi (by kernel_rfl) ho hg
theorem p186_1002_1 (v6:List Int) (j:Nat) (v4:List Int) (g6:Nat) (g4:Nat) (e:Int) (e1:Int) (e2:Int) {E:Env} {rv:AV} (hE:Qd Try.prog 186 rv E) (ho:AllP [(decide ((j:Int)<(((List.replicate (Int.toNat (1008:Int)) (1152921504606846976:Int)).length:Nat):Int)))=true,(0:Int)≤1∧(1:Int)<((3:Nat):Int),0=0,0=0,InR .i64 2,(0:Int)≤2∧(2:Int)<((3:Nat):Int),0=0,0=0,0≤(j:Int)∧(j:Int)<(v6.length:Int),g6=g6,g6=g6,((rowI v6).drop (0+(Int.toNat (j:Int))*1)).take 1=[.int .i64 e],0≤(j:Int)∧(j:Int)<(v4.length:Int),g4=g4,((0+(Int.toNat (j:Int))*1)+1)≤(rowI v4).length,g4=g4,(0:Int)≤1∧(1:Int)<((2:Nat):Int),InR .i64 ((j:Int) - 6),(decide (((j:Int) - 6)≥0))=true,(0:Int)≤1∧(1:Int)<((3:Nat):Int),0=0,0=0,0≤((j:Int) - 6)∧((j:Int) - 6)<(v4.length:Int),g4=g4,g4=g4,((Qx (rowI v4) (0+(Int.toNat (j:Int))*1) [.int .i64 e]).drop (0+(Int.toNat ((j:Int) - 6))*1)).take 1=[.int .i64 e2],(decide (e2<1152921504606846976))=false,InR .i64 ((j:Int)+1)])
 (hg:G Try.prog E (XG Try.prog) ⟨([.rsl [.int .i64 1,.int .i64 200,.int .i64 6,.int .i64 1000] 0 2,.int .i64 7,J,J,J,J,.int .i64 1007,.sl 0 0 0 3 1,J,.int .i64 1]++jj 43 ([.int .i64 (((List.replicate (Int.toNat (1008:Int)) (1152921504606846976:Int)).length:Nat):Int),.int .i64 ((j:Int)+1)]++Js 163)),[⟨true,0,1,false,[.sl 2 0 0 ((List.replicate (Int.toNat (1008:Int)) (1152921504606846976:Int)).length) 1,.sl 4 g4 0 v4.length 1,.sl 6 g6 0 v6.length 1],true⟩,⟨false,1,1,true,[],false⟩,⟨true,0,1,true,(rowI (List.replicate (Int.toNat (1008:Int)) (1152921504606846976:Int))),true⟩,⟨false,1,1,true,[],false⟩,⟨true,g4,1,true,(Qx (rowI v4) (0+(Int.toNat (j:Int))*1) [.int .i64 e]),true⟩,⟨false,1,1,true,[],false⟩,⟨true,g6,1,true,(rowI v6),true⟩]⟩):G Try.prog E (XG Try.prog) (XE v6 j v4 g6 g4) :=
 Ql (n:=400) (ds:=[]) (cs:=[]) (live:=[0,1,6,7,9,53,54]) (m:=7) (evs:=[.b true,.auto,.auto,.ld (.int .i64 e),.b true,.auto,.ld (.int .i64 e2),.b false,.stop]) (obs:=_) hE.2.1 (hE.nogh _) Qi (by kernel_rfl) ho hg
theorem p186_1002_2 (v6:List Int) (j:Nat) (v4:List Int) (g6:Nat) (g4:Nat) (e:Int) (e1:Int) {E:Env} {rv:AV} (hE:Qd Try.prog 186 rv E) (ho:AllP [(decide ((j:Int)<(((List.replicate (Int.toNat (1008:Int)) (1152921504606846976:Int)).length:Nat):Int)))=true,(0:Int)≤1∧(1:Int)<((3:Nat):Int),0=0,0=0,InR .i64 2,(0:Int)≤2∧(2:Int)<((3:Nat):Int),0=0,0=0,0≤(j:Int)∧(j:Int)<(v6.length:Int),g6=g6,g6=g6,((rowI v6).drop (0+(Int.toNat (j:Int))*1)).take 1=[.int .i64 e],0≤(j:Int)∧(j:Int)<(v4.length:Int),g4=g4,((0+(Int.toNat (j:Int))*1)+1)≤(rowI v4).length,g4=g4,(0:Int)≤1∧(1:Int)<((2:Nat):Int),InR .i64 ((j:Int) - 6),(decide (((j:Int) - 6)≥0))=false,false=false,InR .i64 ((j:Int)+1)])
 (hg:G Try.prog E (XG Try.prog) ⟨([.rsl [.int .i64 1,.int .i64 200,.int .i64 6,.int .i64 1000] 0 2,.int .i64 7,J,J,J,J,.int .i64 1007,.sl 0 0 0 3 1,J,.int .i64 1]++jj 43 ([.int .i64 (((List.replicate (Int.toNat (1008:Int)) (1152921504606846976:Int)).length:Nat):Int),.int .i64 ((j:Int)+1)]++Js 163)),[⟨true,0,1,false,[.sl 2 0 0 ((List.replicate (Int.toNat (1008:Int)) (1152921504606846976:Int)).length) 1,.sl 4 g4 0 v4.length 1,.sl 6 g6 0 v6.length 1],true⟩,⟨false,1,1,true,[],false⟩,⟨true,0,1,true,(rowI (List.replicate (Int.toNat (1008:Int)) (1152921504606846976:Int))),true⟩,⟨false,1,1,true,[],false⟩,⟨true,g4,1,true,(Qx (rowI v4) (0+(Int.toNat (j:Int))*1) [.int .i64 e]),true⟩,⟨false,1,1,true,[],false⟩,⟨true,g6,1,true,(rowI v6),true⟩]⟩):G Try.prog E (XG Try.prog) (XE v6 j v4 g6 g4) :=
 Ql (n:=400) (ds:=[]) (cs:=[]) (live:=[0,1,6,7,9,53,54]) (m:=7) (evs:=[.b true,.auto,.auto,.ld (.int .i64 e),.b false,.b false,.stop]) (obs:=_) hE.2.1 (hE.nogh _) Qi (by kernel_rfl) ho hg
theorem p186_1002_3 (v6:List Int) (j:Nat) (v4:List Int) (g6:Nat) (g4:Nat) {E:Env} {rv:AV} (hE:Qd Try.prog 186 rv E) (ho:AllP [(decide ((j:Int)<(((List.replicate (Int.toNat (1008:Int)) (1152921504606846976:Int)).length:Nat):Int)))=false,InR .i64 0,true=true,(0:Int)≤0∧(0:Int)<((3:Nat):Int),0=0,0=0,0=0])
 (hg:G Try.prog E (VQ Try.prog) ⟨([.rsl [.int .i64 1,.int .i64 200,.int .i64 6,.int .i64 1000] 0 2,.int .i64 7,J,J,J,J,.int .i64 1007,.sl 0 0 0 3 1,J,.int .i64 0]++jj 43 ([.int .i64 (((List.replicate (Int.toNat (1008:Int)) (1152921504606846976:Int)).length:Nat):Int),.int .i64 0]++Js 163)),[⟨true,0,1,false,[.sl 2 0 0 ((List.replicate (Int.toNat (1008:Int)) (1152921504606846976:Int)).length) 1,.sl 4 g4 0 v4.length 1,.sl 6 g6 0 v6.length 1],true⟩,⟨false,1,1,true,[],false⟩,⟨true,0,1,true,(rowI (List.replicate (Int.toNat (1008:Int)) (1152921504606846976:Int))),true⟩,⟨false,1,1,true,[],false⟩,⟨true,g4,1,true,(rowI v4),true⟩,⟨false,1,1,true,[],false⟩,⟨true,g6,1,true,(rowI v6),true⟩]⟩):G Try.prog E (XG Try.prog) (XE v6 j v4 g6 g4) :=
 Ql (n:=400) (ds:=[]) (cs:=[]) (live:=[0,1,6,7,9,53,54]) (m:=7) (evs:=[.b false,.b true,.stop]) (obs:=_) hE.2.1 (hE.nogh _) Qi (by kernel_rfl) ho hg
theorem f186W1002 (v6:List Int) (j:Nat) (v4:List Int) {E:Env} {rv:((List Int) × Int)} (hE:Qd Try.prog 186 (.tup [.rsl (rowI rv.1) 0 rv.1.length,.int .i64 rv.2]) E)
 (h:(((j:Int)<(((List.replicate (Int.toNat (1008:Int)) (1152921504606846976:Int)).length:Nat):Int)→(∃ e:Int,v6[j]?=some e∧(∃ e1:Int,v4[j]?=some e1∧((I6 ((j:Int) - 6))∧((((j:Int) - 6)≥0→(0≤((j:Int) - 6)∧(∃ e2:Int,(v4.set j e)[Int.toNat ((j:Int) - 6)]?=some e2∧((e2<1152921504606846976→(∃ e3:Int,(v4.set j e)[j]?=some e3∧((I6 (e2+1000))∧((I6 ((j:Int)+1))∧YA E v6 (j+1) ((v4.set j e).set j (iMin e3 (e2+1000)))))))∧(¬ (e2<1152921504606846976)→((I6 ((j:Int)+1))∧YA E v6 (j+1) (v4.set j e)))))))∧(¬ (((j:Int) - 6)≥0)→((I6 ((j:Int)+1))∧YA E v6 (j+1) (v4.set j e))))))))∧(¬ ((j:Int)<(((List.replicate (Int.toNat (1008:Int)) (1152921504606846976:Int)).length:Nat):Int))→yl E v4 v6 0 (List.replicate (Int.toNat (1008:Int)) (1152921504606846976:Int))))):YA E v6 j v4:=by
 intro g6 g4
 rcases bft (decide ((j:Int)<(((List.replicate (Int.toNat (1008:Int)) (1152921504606846976:Int)).length:Nat):Int))) with hc0 | hc0
 · have h:=h.1 (odt hc0)
   obtain ⟨e,h1,h⟩:=h
   obtain ⟨e1,h2,h⟩:=h
   obtain ⟨q19_1,h⟩:=h
   rcases bft (decide (((j:Int) - 6)≥0)) with hc1 | hc1
   · have h:=h.1 (odt hc1)
     obtain ⟨h4,h⟩:=h
     obtain ⟨e2,h3,h⟩:=h
     rcases bft (decide (e2<1152921504606846976)) with hc2 | hc2
     · have h:=h.1 (odt hc2)
       obtain ⟨e3,h5,h⟩:=h
       obtain ⟨q49_3,h⟩:=h
       obtain ⟨q54_3,h⟩:=h
       refine p186_1002_0 v6 j v4 g6 g4 e e1 e2 e3 hE ⟨hc0,(⟨by decide,by decide⟩),rfl,rfl,(⟨by decide,by decide⟩),(⟨by decide,by decide⟩),rfl,rfl,(Qr h1),rfl,rfl,(rp cI 1 0 1 h1),(Qr h2),rfl,(rf cI 1 0 1 h2),rfl,(⟨by decide,by decide⟩),q19_1,hc1,(⟨by decide,by decide⟩),rfl,rfl,(by have hx:=Qw h4 h3; simpa using hx),rfl,rfl,(by rw [(show Qx (rowI v4) (0+(Int.toNat (j:Int))*1) [.int .i64 e]=rowI (v4.set j e) from QF cI (s:=1) (k:=0) (fun _=>rfl) h2 rfl (by first | decide | simp))]; exact rp cI 1 0 1 h3),hc2,(⟨by decide,by decide⟩),rfl,rfl,(⟨by decide,by decide⟩),rfl,rfl,(by have hx:=Qr h5; simpa using hx),rfl,rfl,(by rw [(show Qx (rowI v4) (0+(Int.toNat (j:Int))*1) [.int .i64 e]=rowI (v4.set j e) from QF cI (s:=1) (k:=0) (fun _=>rfl) h2 rfl (by first | decide | simp))]; exact rp cI 1 0 1 h5),(⟨by decide,by decide⟩),rfl,rfl,(by have hx:=Qw h4 h3; simpa using hx),rfl,rfl,(by rw [(show Qx (rowI v4) (0+(Int.toNat (j:Int))*1) [.int .i64 e]=rowI (v4.set j e) from QF cI (s:=1) (k:=0) (fun _=>rfl) h2 rfl (by first | decide | simp))]; exact rp cI 1 0 1 h3),(⟨by decide,by decide⟩),q49_3,(by have hx:=Qr h5; simpa using hx),rfl,(by rw [(show Qx (rowI v4) (0+(Int.toNat (j:Int))*1) [.int .i64 e]=rowI (v4.set j e) from QF cI (s:=1) (k:=0) (fun _=>rfl) h2 rfl (by first | decide | simp))]; exact rf cI 1 0 1 h5),rfl,q54_3,trivial⟩ ?_
       have h:=(h g6 g4)
       simp only [XE,List.length_set] at h
       rw [(show Qx (rowI v4) (0+(Int.toNat (j:Int))*1) [.int .i64 e]=rowI (v4.set j e) from QF cI (s:=1) (k:=0) (fun _=>rfl) h2 rfl (by first | decide | simp))]; rw [(show Qx (rowI (v4.set j e)) (0+(Int.toNat (j:Int))*1) [.int .i64 (iMin e3 (e2+1000))]=rowI ((v4.set j e).set j (iMin e3 (e2+1000))) from QF cI (s:=1) (k:=0) (fun _=>rfl) h5 rfl (by first | decide | simp))]
       exact h
     · have h:=h.2 (odf hc2)
       obtain ⟨q30_3,h⟩:=h
       refine p186_1002_1 v6 j v4 g6 g4 e e1 e2 hE ⟨hc0,(⟨by decide,by decide⟩),rfl,rfl,(⟨by decide,by decide⟩),(⟨by decide,by decide⟩),rfl,rfl,(Qr h1),rfl,rfl,(rp cI 1 0 1 h1),(Qr h2),rfl,(rf cI 1 0 1 h2),rfl,(⟨by decide,by decide⟩),q19_1,hc1,(⟨by decide,by decide⟩),rfl,rfl,(by have hx:=Qw h4 h3; simpa using hx),rfl,rfl,(by rw [(show Qx (rowI v4) (0+(Int.toNat (j:Int))*1) [.int .i64 e]=rowI (v4.set j e) from QF cI (s:=1) (k:=0) (fun _=>rfl) h2 rfl (by first | decide | simp))]; exact rp cI 1 0 1 h3),hc2,q30_3,trivial⟩ ?_
       have h:=(h g6 g4)
       simp only [XE,List.length_set] at h
       rw [(show Qx (rowI v4) (0+(Int.toNat (j:Int))*1) [.int .i64 e]=rowI (v4.set j e) from QF cI (s:=1) (k:=0) (fun _=>rfl) h2 rfl (by first | decide | simp))]
       exact h
   · have h:=h.2 (odf hc1)
     obtain ⟨q22_2,h⟩:=h
     refine p186_1002_2 v6 j v4 g6 g4 e e1 hE ⟨hc0,(⟨by decide,by decide⟩),rfl,rfl,(⟨by decide,by decide⟩),(⟨by decide,by decide⟩),rfl,rfl,(Qr h1),rfl,rfl,(rp cI 1 0 1 h1),(Qr h2),rfl,(rf cI 1 0 1 h2),rfl,(⟨by decide,by decide⟩),q19_1,hc1,rfl,q22_2,trivial⟩ ?_
     have h:=(h g6 g4)
     simp only [XE,List.length_set] at h
     rw [(show Qx (rowI v4) (0+(Int.toNat (j:Int))*1) [.int .i64 e]=rowI (v4.set j e) from QF cI (s:=1) (k:=0) (fun _=>rfl) h2 rfl (by first | decide | simp))]
     exact h
 · have h:=h.2 (odf hc0)
   exact p186_1002_3 v6 j v4 g6 g4 hE ⟨hc0,(⟨by decide,by decide⟩),rfl,(⟨by decide,by decide⟩),rfl,rfl,rfl,trivial⟩ (h g4 g6 0)
theorem p186_1005_0 (price:Int) (tokens:Int) (left:Int) (v2:List Int) (v4:List Int) (v6:List Int) (v7_0:Nat) (v7_1:Nat) (g2:Nat) (g4:Nat) (g6:Nat) (e:Int) {E:Env} {rv:AV} (hE:Qd Try.prog 186 rv E) (ho:AllP [(decide (tokens≥6))=true,(0:Int)≤1∧(1:Int)<((3:Nat):Int),0=0,0=0,InR .i64 (tokens - 6),0≤(tokens - 6)∧(tokens - 6)<(v4.length:Int),g4=g4,g4=g4,((rowI v4).drop (0+(Int.toNat (tokens - 6))*1)).take 1=[.int .i64 e],(decide (e<1152921504606846976))=true,(0:Int)≤1∧(1:Int)<((3:Nat):Int),0=0,0=0,InR .i64 (tokens - 6),0≤(tokens - 6)∧(tokens - 6)<(v4.length:Int),g4=g4,g4=g4,((rowI v4).drop (0+(Int.toNat (tokens - 6))*1)).take 1=[.int .i64 e],InR .i64 (e+1000),((e+1000) == left)=true,InR .i64 (tokens - 6),(0:Int)≤1∧(1:Int)<((2:Nat):Int),0=0,0=0,InR .i64 ((v7_1:Int)+1),(0:Int)≤1∧(1:Int)<((2:Nat):Int),0=0,2≤2,0=0,(0:Int)≤1∧(1:Int)<((3:Nat):Int),0=0,0=0,0≤(tokens - 6)∧(tokens - 6)<(v4.length:Int),g4=g4,g4=g4,((rowI v4).drop (0+(Int.toNat (tokens - 6))*1)).take 1=[.int .i64 e]])
 (hg:G Try.prog E (XF Try.prog) ⟨([J,J,J,J,.sl 7 0 0 2 1,.int .i64 price,J,.sl 0 0 0 3 1,J,J,J,J,.int .i64 (tokens - 6),J,.int .i64 1,.ptr 9 0 0,.int .i64 e]++jj 133 ([.rsl [.int .i64 1,.int .i64 200,.int .i64 6,.int .i64 1000] 0 2,.int .i64 2,.int .i64 1]++Js 65)),[⟨true,0,1,false,[.sl 2 g2 0 v2.length 1,.sl 4 g4 0 v4.length 1,.sl 6 g6 0 v6.length 1],true⟩,⟨false,1,1,true,[],false⟩,⟨true,g2,1,true,(rowI v2),true⟩,⟨false,1,1,true,[],false⟩,⟨true,g4,1,true,(rowI v4),true⟩,⟨false,1,1,true,[],false⟩,⟨true,g6,1,true,(rowI v6),true⟩,⟨true,0,1,true,[.int .i64 (v7_0:Int),.int .i64 ((v7_1:Int)+1)],true⟩,⟨true,0,1,true,[.int .i64 1,.int .i64 200],false⟩,⟨true,0,1,true,[.int .i64 6,.int .i64 1000],false⟩]⟩):G Try.prog E (XF Try.prog) (YY price tokens left v2 v4 v6 v7_0 v7_1 g2 g4 g6) :=
 Ql (n:=400) (ds:=[]) (cs:=[]) (live:=[4,5,7,12,14,15,16,150,151,152]) (m:=10) (evs:=[.b true,.auto,.auto,.ld (.int .i64 e),.b true,.auto,.auto,.ld (.int .i64 e),.b true,.auto,.auto,.auto,.ld (.int .i64 e),.stop]) (obs:=_) hE.2.1 (hE.nogh _) Qi (by kernel_rfl) ho hg
theorem p186_1005_1 (price:Int) (tokens:Int) (left:Int) (v2:List Int) (v4:List Int) (v6:List Int) (v7_0:Nat) (v7_1:Nat) (g2:Nat) (g4:Nat) (g6:Nat) (e:Int) {E:Env} {res:AV} (hE:Qd Try.prog 186 res E) (ho:AllP [(decide (tokens≥6))=true,(0:Int)≤1∧(1:Int)<((3:Nat):Int),0=0,0=0,InR .i64 (tokens - 6),0≤(tokens - 6)∧(tokens - 6)<(v4.length:Int),g4=g4,g4=g4,((rowI v4).drop (0+(Int.toNat (tokens - 6))*1)).take 1=[.int .i64 e],(decide (e<1152921504606846976))=true,(0:Int)≤1∧(1:Int)<((3:Nat):Int),0=0,0=0,InR .i64 (tokens - 6),0≤(tokens - 6)∧(tokens - 6)<(v4.length:Int),g4=g4,g4=g4,((rowI v4).drop (0+(Int.toNat (tokens - 6))*1)).take 1=[.int .i64 e],InR .i64 (e+1000),((e+1000) == left)=false,InR .i64 2,false=false,0=0])
 (hr:AvLe (.tup [.rsl [.int .i64 (v7_0:Int),.int .i64 (v7_1:Int)] 0 2,.int .i64 price]) res):G Try.prog E (XF Try.prog) (YY price tokens left v2 v4 v6 v7_0 v7_1 g2 g4 g6) :=
 Qb (n:=400) (evs:=[.b true,.auto,.auto,.ld (.int .i64 e),.b true,.auto,.auto,.ld (.int .i64 e),.b false,.b false]) (obs:=_) hE Try.func186 Qi (by kernel_rfl) ho hr
theorem p186_1005_2 (price:Int) (tokens:Int) (left:Int) (v2:List Int) (v4:List Int) (v6:List Int) (v7_0:Nat) (v7_1:Nat) (g2:Nat) (g4:Nat) (g6:Nat) (e:Int) {E:Env} {res:AV} (hE:Qd Try.prog 186 res E) (ho:AllP [(decide (tokens≥6))=true,(0:Int)≤1∧(1:Int)<((3:Nat):Int),0=0,0=0,InR .i64 (tokens - 6),0≤(tokens - 6)∧(tokens - 6)<(v4.length:Int),g4=g4,g4=g4,((rowI v4).drop (0+(Int.toNat (tokens - 6))*1)).take 1=[.int .i64 e],(decide (e<1152921504606846976))=false,false=false,InR .i64 2,false=false,0=0])
 (hr:AvLe (.tup [.rsl [.int .i64 (v7_0:Int),.int .i64 (v7_1:Int)] 0 2,.int .i64 price]) res):G Try.prog E (XF Try.prog) (YY price tokens left v2 v4 v6 v7_0 v7_1 g2 g4 g6) :=
 Qb (n:=400) (evs:=[.b true,.auto,.auto,.ld (.int .i64 e),.b false,.b false,.b false]) (obs:=_) hE Try.func186 Qi (by kernel_rfl) ho hr
theorem p186_1005_3 (price:Int) (tokens:Int) (left:Int) (v2:List Int) (v4:List Int) (v6:List Int) (v7_0:Nat) (v7_1:Nat) (g2:Nat) (g4:Nat) (g6:Nat) {E:Env} {res:AV} (hE:Qd Try.prog 186 res E) (ho:AllP [(decide (tokens≥6))=false,false=false,false=false,InR .i64 2,false=false,0=0])
 (hr:AvLe (.tup [.rsl [.int .i64 (v7_0:Int),.int .i64 (v7_1:Int)] 0 2,.int .i64 price]) res):G Try.prog E (XF Try.prog) (YY price tokens left v2 v4 v6 v7_0 v7_1 g2 g4 g6) :=
 Qb (n:=400) (evs:=[.b false,.b false,.b false,.b false]) (obs:=_) hE Try.func186 Qi (by kernel_rfl) ho hr
theorem f186W1005 (price:Int) (tokens:Int) (left:Int) (v2:List Int) (v4:List Int) (v6:List Int) (v7_0:Nat) (v7_1:Nat) {E:Env} {rv:((List Int) × Int)} (hE:Qd Try.prog 186 (.tup [.rsl (rowI rv.1) 0 rv.1.length,.int .i64 rv.2]) E)
 (h:((tokens≥6→((I6 (tokens - 6))∧(0≤(tokens - 6)∧(∃ e:Int,v4[Int.toNat (tokens - 6)]?=some e∧((e<1152921504606846976→((I6 (tokens - 6))∧((I6 (e+1000))∧(((e+1000)=left→((I6 (tokens - 6))∧((I6 ((v7_1:Int)+1))∧Ye E price (tokens - 6) e v2 v4 v6 v7_0 (v7_1+1))))∧(¬ ((e+1000)=left)→rv=([(v7_0:Int),(v7_1:Int)],price))))))∧(¬ (e<1152921504606846976)→rv=([(v7_0:Int),(v7_1:Int)],price)))))))∧(¬ (tokens≥6)→rv=([(v7_0:Int),(v7_1:Int)],price)))):Ye E price tokens left v2 v4 v6 v7_0 v7_1:=by
 intro g2 g4 g6
 rcases bft (decide (tokens≥6)) with hc0 | hc0
 · have h:=h.1 (odt hc0)
   obtain ⟨q4_1,h⟩:=h
   obtain ⟨h2,h⟩:=h
   obtain ⟨e,h1,h⟩:=h
   rcases bft (decide (e<1152921504606846976)) with hc1 | hc1
   · have h:=h.1 (odt hc1)
     obtain ⟨q14_2,h⟩:=h
     obtain ⟨q19_2,h⟩:=h
     rcases bft ((e+1000) == left) with hc2 | hc2
     · have h:=h.1 (eq_of_beq hc2)
       obtain ⟨q21_3,h⟩:=h
       obtain ⟨q25_3,h⟩:=h
       exact p186_1005_0 price tokens left v2 v4 v6 v7_0 v7_1 g2 g4 g6 e hE ⟨hc0,(⟨by decide,by decide⟩),rfl,rfl,q4_1,(Qw h2 h1),rfl,rfl,(rp cI 1 0 1 h1),hc1,(⟨by decide,by decide⟩),rfl,rfl,q14_2,(Qw h2 h1),rfl,rfl,(rp cI 1 0 1 h1),q19_2,hc2,q21_3,(⟨by decide,by decide⟩),rfl,rfl,q25_3,(⟨by decide,by decide⟩),rfl,(by decide),rfl,(⟨by decide,by decide⟩),rfl,rfl,(Qw h2 h1),rfl,rfl,(rp cI 1 0 1 h1),trivial⟩ (h g2 g4 g6)
     · have h:=h.2 (ne_of_beq_false hc2)
       exact p186_1005_1 price tokens left v2 v4 v6 v7_0 v7_1 g2 g4 g6 e hE ⟨hc0,(⟨by decide,by decide⟩),rfl,rfl,q4_1,(Qw h2 h1),rfl,rfl,(rp cI 1 0 1 h1),hc1,(⟨by decide,by decide⟩),rfl,rfl,q14_2,(Qw h2 h1),rfl,rfl,(rp cI 1 0 1 h1),q19_2,hc2,(⟨by decide,by decide⟩),rfl,rfl,trivial⟩ (AvLe.of_eq (by rw [h]; try rfl))
   · have h:=h.2 (odf hc1)
     exact p186_1005_2 price tokens left v2 v4 v6 v7_0 v7_1 g2 g4 g6 e hE ⟨hc0,(⟨by decide,by decide⟩),rfl,rfl,q4_1,(Qw h2 h1),rfl,rfl,(rp cI 1 0 1 h1),hc1,rfl,(⟨by decide,by decide⟩),rfl,rfl,trivial⟩ (AvLe.of_eq (by rw [h]; try rfl))
 · have h:=h.2 (odf hc0)
   exact p186_1005_3 price tokens left v2 v4 v6 v7_0 v7_1 g2 g4 g6 hE ⟨hc0,rfl,rfl,(⟨by decide,by decide⟩),rfl,rfl,trivial⟩ (AvLe.of_eq (by rw [h]; try rfl))
theorem p186_2_0 (v4:List Int) (v6:List Int) (j:Nat) (v2:List Int) (g4:Nat) (g6:Nat) (g2:Nat) (e:Int) (e1:Int) (e2:Int) (e3:Int) {E:Env} {rv:AV} (hE:Qd Try.prog 186 rv E) (ho:AllP [(decide ((j:Int)<(((List.replicate (Int.toNat (1008:Int)) (1152921504606846976:Int)).length:Nat):Int)))=true,(0:Int)≤0∧(0:Int)<((3:Nat):Int),0=0,0=0,InR .i64 1,(0:Int)≤1∧(1:Int)<((3:Nat):Int),0=0,0=0,0≤(j:Int)∧(j:Int)<(v4.length:Int),g4=g4,g4=g4,((rowI v4).drop (0+(Int.toNat (j:Int))*1)).take 1=[.int .i64 e],0≤(j:Int)∧(j:Int)<(v2.length:Int),g2=g2,((0+(Int.toNat (j:Int))*1)+1)≤(rowI v2).length,g2=g2,(0:Int)≤0∧(0:Int)<((2:Nat):Int),InR .i64 ((j:Int) - 1),(decide (((j:Int) - 1)≥0))=true,(0:Int)≤0∧(0:Int)<((3:Nat):Int),0=0,0=0,0≤((j:Int) - 1)∧((j:Int) - 1)<(v2.length:Int),g2=g2,g2=g2,((Qx (rowI v2) (0+(Int.toNat (j:Int))*1) [.int .i64 e]).drop (0+(Int.toNat ((j:Int) - 1))*1)).take 1=[.int .i64 e2],(decide (e2<1152921504606846976))=true,(0:Int)≤0∧(0:Int)<((3:Nat):Int),0=0,0=0,(0:Int)≤0∧(0:Int)<((3:Nat):Int),0=0,0=0,0≤(j:Int)∧(j:Int)<(v2.length:Int),g2=g2,g2=g2,((Qx (rowI v2) (0+(Int.toNat (j:Int))*1) [.int .i64 e]).drop (0+(Int.toNat (j:Int))*1)).take 1=[.int .i64 e3],(0:Int)≤0∧(0:Int)<((3:Nat):Int),0=0,0=0,0≤((j:Int) - 1)∧((j:Int) - 1)<(v2.length:Int),g2=g2,g2=g2,((Qx (rowI v2) (0+(Int.toNat (j:Int))*1) [.int .i64 e]).drop (0+(Int.toNat ((j:Int) - 1))*1)).take 1=[.int .i64 e2],(0:Int)≤0∧(0:Int)<((2:Nat):Int),InR .i64 (e2+200),0≤(j:Int)∧(j:Int)<(v2.length:Int),g2=g2,((0+(Int.toNat (j:Int))*1)+1)≤(Qx (rowI v2) (0+(Int.toNat (j:Int))*1) [.int .i64 e]).length,g2=g2,InR .i64 ((j:Int)+1)])
 (hg:G Try.prog E (VQ Try.prog) ⟨([.rsl [.int .i64 1,.int .i64 200,.int .i64 6,.int .i64 1000] 0 2,.int .i64 7,J,J,J,J,.int .i64 1007,.sl 0 0 0 3 1,J,.int .i64 0]++jj 43 ([.int .i64 (((List.replicate (Int.toNat (1008:Int)) (1152921504606846976:Int)).length:Nat):Int),.int .i64 ((j:Int)+1)]++Js 163)),[⟨true,0,1,false,[.sl 2 g2 0 v2.length 1,.sl 4 g4 0 v4.length 1,.sl 6 g6 0 v6.length 1],true⟩,⟨false,1,1,true,[],false⟩,⟨true,g2,1,true,(Qx (Qx (rowI v2) (0+(Int.toNat (j:Int))*1) [.int .i64 e]) (0+(Int.toNat (j:Int))*1) [.int .i64 (iMin e3 (e2+200))]),true⟩,⟨false,1,1,true,[],false⟩,⟨true,g4,1,true,(rowI v4),true⟩,⟨false,1,1,true,[],false⟩,⟨true,g6,1,true,(rowI v6),true⟩]⟩):G Try.prog E (VQ Try.prog) (Wz v4 v6 j v2 g4 g6 g2) :=
 Ql (n:=400) (ds:=[]) (cs:=[]) (live:=[0,1,6,7,9,53,54]) (m:=7) (evs:=[.b true,.auto,.auto,.ld (.int .i64 e),.b true,.auto,.ld (.int .i64 e2),.b true,.auto,.auto,.ld (.int .i64 e3),.auto,.ld (.int .i64 e2),.stop]) (obs:=_) hE.2.1 (hE.nogh _) Qi (by kernel_rfl) ho hg
theorem p186_2_1 (v4:List Int) (v6:List Int) (j:Nat) (v2:List Int) (g4:Nat) (g6:Nat) (g2:Nat) (e:Int) (e1:Int) (e2:Int) {E:Env} {rv:AV} (hE:Qd Try.prog 186 rv E) (ho:AllP [(decide ((j:Int)<(((List.replicate (Int.toNat (1008:Int)) (1152921504606846976:Int)).length:Nat):Int)))=true,(0:Int)≤0∧(0:Int)<((3:Nat):Int),0=0,0=0,InR .i64 1,(0:Int)≤1∧(1:Int)<((3:Nat):Int),0=0,0=0,0≤(j:Int)∧(j:Int)<(v4.length:Int),g4=g4,g4=g4,((rowI v4).drop (0+(Int.toNat (j:Int))*1)).take 1=[.int .i64 e],0≤(j:Int)∧(j:Int)<(v2.length:Int),g2=g2,((0+(Int.toNat (j:Int))*1)+1)≤(rowI v2).length,g2=g2,(0:Int)≤0∧(0:Int)<((2:Nat):Int),InR .i64 ((j:Int) - 1),(decide (((j:Int) - 1)≥0))=true,(0:Int)≤0∧(0:Int)<((3:Nat):Int),0=0,0=0,0≤((j:Int) - 1)∧((j:Int) - 1)<(v2.length:Int),g2=g2,g2=g2,((Qx (rowI v2) (0+(Int.toNat (j:Int))*1) [.int .i64 e]).drop (0+(Int.toNat ((j:Int) - 1))*1)).take 1=[.int .i64 e2],(decide (e2<1152921504606846976))=false,InR .i64 ((j:Int)+1)])
 (hg:G Try.prog E (VQ Try.prog) ⟨([.rsl [.int .i64 1,.int .i64 200,.int .i64 6,.int .i64 1000] 0 2,.int .i64 7,J,J,J,J,.int .i64 1007,.sl 0 0 0 3 1,J,.int .i64 0]++jj 43 ([.int .i64 (((List.replicate (Int.toNat (1008:Int)) (1152921504606846976:Int)).length:Nat):Int),.int .i64 ((j:Int)+1)]++Js 163)),[⟨true,0,1,false,[.sl 2 g2 0 v2.length 1,.sl 4 g4 0 v4.length 1,.sl 6 g6 0 v6.length 1],true⟩,⟨false,1,1,true,[],false⟩,⟨true,g2,1,true,(Qx (rowI v2) (0+(Int.toNat (j:Int))*1) [.int .i64 e]),true⟩,⟨false,1,1,true,[],false⟩,⟨true,g4,1,true,(rowI v4),true⟩,⟨false,1,1,true,[],false⟩,⟨true,g6,1,true,(rowI v6),true⟩]⟩):G Try.prog E (VQ Try.prog) (Wz v4 v6 j v2 g4 g6 g2) :=
 Ql (n:=400) (ds:=[]) (cs:=[]) (live:=[0,1,6,7,9,53,54]) (m:=7) (evs:=[.b true,.auto,.auto,.ld (.int .i64 e),.b true,.auto,.ld (.int .i64 e2),.b false,.stop]) (obs:=_) hE.2.1 (hE.nogh _) Qi (by kernel_rfl) ho hg
theorem p186_2_2 (v4:List Int) (v6:List Int) (j:Nat) (v2:List Int) (g4:Nat) (g6:Nat) (g2:Nat) (e:Int) (e1:Int) {E:Env} {rv:AV} (hE:Qd Try.prog 186 rv E) (ho:AllP [(decide ((j:Int)<(((List.replicate (Int.toNat (1008:Int)) (1152921504606846976:Int)).length:Nat):Int)))=true,(0:Int)≤0∧(0:Int)<((3:Nat):Int),0=0,0=0,InR .i64 1,(0:Int)≤1∧(1:Int)<((3:Nat):Int),0=0,0=0,0≤(j:Int)∧(j:Int)<(v4.length:Int),g4=g4,g4=g4,((rowI v4).drop (0+(Int.toNat (j:Int))*1)).take 1=[.int .i64 e],0≤(j:Int)∧(j:Int)<(v2.length:Int),g2=g2,((0+(Int.toNat (j:Int))*1)+1)≤(rowI v2).length,g2=g2,(0:Int)≤0∧(0:Int)<((2:Nat):Int),InR .i64 ((j:Int) - 1),(decide (((j:Int) - 1)≥0))=false,false=false,InR .i64 ((j:Int)+1)])
 (hg:G Try.prog E (VQ Try.prog) ⟨([.rsl [.int .i64 1,.int .i64 200,.int .i64 6,.int .i64 1000] 0 2,.int .i64 7,J,J,J,J,.int .i64 1007,.sl 0 0 0 3 1,J,.int .i64 0]++jj 43 ([.int .i64 (((List.replicate (Int.toNat (1008:Int)) (1152921504606846976:Int)).length:Nat):Int),.int .i64 ((j:Int)+1)]++Js 163)),[⟨true,0,1,false,[.sl 2 g2 0 v2.length 1,.sl 4 g4 0 v4.length 1,.sl 6 g6 0 v6.length 1],true⟩,⟨false,1,1,true,[],false⟩,⟨true,g2,1,true,(Qx (rowI v2) (0+(Int.toNat (j:Int))*1) [.int .i64 e]),true⟩,⟨false,1,1,true,[],false⟩,⟨true,g4,1,true,(rowI v4),true⟩,⟨false,1,1,true,[],false⟩,⟨true,g6,1,true,(rowI v6),true⟩]⟩):G Try.prog E (VQ Try.prog) (Wz v4 v6 j v2 g4 g6 g2) :=
 Ql (n:=400) (ds:=[]) (cs:=[]) (live:=[0,1,6,7,9,53,54]) (m:=7) (evs:=[.b true,.auto,.auto,.ld (.int .i64 e),.b false,.b false,.stop]) (obs:=_) hE.2.1 (hE.nogh _) Qi (by kernel_rfl) ho hg
theorem p186_2_3 (v4:List Int) (v6:List Int) (j:Nat) (v2:List Int) (g4:Nat) (g6:Nat) (g2:Nat) {E:Env} {rv:AV} (hE:Qd Try.prog 186 rv E) (ho:AllP [(decide ((j:Int)<(((List.replicate (Int.toNat (1008:Int)) (1152921504606846976:Int)).length:Nat):Int)))=false,InR .i64 (-1),false=false])
 (hg:G Try.prog E (WA Try.prog) ⟨([.rsl [.int .i64 1,.int .i64 200,.int .i64 6,.int .i64 1000] 0 2]++jj 5 ([.int .i64 1007,.sl 0 0 0 3 1,J,J,J,J,.int .i64 7,.int .i64 7]++Js 204)),[⟨true,0,1,false,[.sl 2 g2 0 v2.length 1,.sl 4 g4 0 v4.length 1,.sl 6 g6 0 v6.length 1],true⟩,⟨false,1,1,true,[],false⟩,⟨true,g2,1,true,(rowI v2),true⟩,⟨false,1,1,true,[],false⟩,⟨true,g4,1,true,(rowI v4),true⟩,⟨false,1,1,true,[],false⟩,⟨true,g6,1,true,(rowI v6),true⟩]⟩):G Try.prog E (VQ Try.prog) (Wz v4 v6 j v2 g4 g6 g2) :=
 Ql (n:=400) (ds:=[]) (cs:=[]) (live:=[0,6,7,12,13]) (m:=7) (evs:=[.b false,.b false,.stop]) (obs:=_) hE.2.1 (hE.nogh _) Qi (by kernel_rfl) ho hg
theorem f186W2 (v4:List Int) (v6:List Int) (j:Nat) (v2:List Int) {E:Env} {rv:((List Int) × Int)} (hE:Qd Try.prog 186 (.tup [.rsl (rowI rv.1) 0 rv.1.length,.int .i64 rv.2]) E)
 (h:(((j:Int)<(((List.replicate (Int.toNat (1008:Int)) (1152921504606846976:Int)).length:Nat):Int)→(∃ e:Int,v4[j]?=some e∧(∃ e1:Int,v2[j]?=some e1∧((I6 ((j:Int) - 1))∧((((j:Int) - 1)≥0→(0≤((j:Int) - 1)∧(∃ e2:Int,(v2.set j e)[Int.toNat ((j:Int) - 1)]?=some e2∧((e2<1152921504606846976→(∃ e3:Int,(v2.set j e)[j]?=some e3∧((I6 (e2+200))∧((I6 ((j:Int)+1))∧yl E v4 v6 (j+1) ((v2.set j e).set j (iMin e3 (e2+200)))))))∧(¬ (e2<1152921504606846976)→((I6 ((j:Int)+1))∧yl E v4 v6 (j+1) (v2.set j e)))))))∧(¬ (((j:Int) - 1)≥0)→((I6 ((j:Int)+1))∧yl E v4 v6 (j+1) (v2.set j e))))))))∧(¬ ((j:Int)<(((List.replicate (Int.toNat (1008:Int)) (1152921504606846976:Int)).length:Nat):Int))→f186G3 E v2 v4 v6 7 7))):yl E v4 v6 j v2:=by
 intro g4 g6 g2
 rcases bft (decide ((j:Int)<(((List.replicate (Int.toNat (1008:Int)) (1152921504606846976:Int)).length:Nat):Int))) with hc0 | hc0
 · have h:=h.1 (odt hc0)
   obtain ⟨e,h1,h⟩:=h
   obtain ⟨e1,h2,h⟩:=h
   obtain ⟨q19_1,h⟩:=h
   rcases bft (decide (((j:Int) - 1)≥0)) with hc1 | hc1
   · have h:=h.1 (odt hc1)
     obtain ⟨h4,h⟩:=h
     obtain ⟨e2,h3,h⟩:=h
     rcases bft (decide (e2<1152921504606846976)) with hc2 | hc2
     · have h:=h.1 (odt hc2)
       obtain ⟨e3,h5,h⟩:=h
       obtain ⟨q49_3,h⟩:=h
       obtain ⟨q54_3,h⟩:=h
       refine p186_2_0 v4 v6 j v2 g4 g6 g2 e e1 e2 e3 hE ⟨hc0,(⟨by decide,by decide⟩),rfl,rfl,(⟨by decide,by decide⟩),(⟨by decide,by decide⟩),rfl,rfl,(Qr h1),rfl,rfl,(rp cI 1 0 1 h1),(Qr h2),rfl,(rf cI 1 0 1 h2),rfl,(⟨by decide,by decide⟩),q19_1,hc1,(⟨by decide,by decide⟩),rfl,rfl,(by have hx:=Qw h4 h3; simpa using hx),rfl,rfl,(by rw [(show Qx (rowI v2) (0+(Int.toNat (j:Int))*1) [.int .i64 e]=rowI (v2.set j e) from QF cI (s:=1) (k:=0) (fun _=>rfl) h2 rfl (by first | decide | simp))]; exact rp cI 1 0 1 h3),hc2,(⟨by decide,by decide⟩),rfl,rfl,(⟨by decide,by decide⟩),rfl,rfl,(by have hx:=Qr h5; simpa using hx),rfl,rfl,(by rw [(show Qx (rowI v2) (0+(Int.toNat (j:Int))*1) [.int .i64 e]=rowI (v2.set j e) from QF cI (s:=1) (k:=0) (fun _=>rfl) h2 rfl (by first | decide | simp))]; exact rp cI 1 0 1 h5),(⟨by decide,by decide⟩),rfl,rfl,(by have hx:=Qw h4 h3; simpa using hx),rfl,rfl,(by rw [(show Qx (rowI v2) (0+(Int.toNat (j:Int))*1) [.int .i64 e]=rowI (v2.set j e) from QF cI (s:=1) (k:=0) (fun _=>rfl) h2 rfl (by first | decide | simp))]; exact rp cI 1 0 1 h3),(⟨by decide,by decide⟩),q49_3,(by have hx:=Qr h5; simpa using hx),rfl,(by rw [(show Qx (rowI v2) (0+(Int.toNat (j:Int))*1) [.int .i64 e]=rowI (v2.set j e) from QF cI (s:=1) (k:=0) (fun _=>rfl) h2 rfl (by first | decide | simp))]; exact rf cI 1 0 1 h5),rfl,q54_3,trivial⟩ ?_
       have h:=(h g4 g6 g2)
       simp only [Wz,List.length_set] at h
       rw [(show Qx (rowI v2) (0+(Int.toNat (j:Int))*1) [.int .i64 e]=rowI (v2.set j e) from QF cI (s:=1) (k:=0) (fun _=>rfl) h2 rfl (by first | decide | simp))]; rw [(show Qx (rowI (v2.set j e)) (0+(Int.toNat (j:Int))*1) [.int .i64 (iMin e3 (e2+200))]=rowI ((v2.set j e).set j (iMin e3 (e2+200))) from QF cI (s:=1) (k:=0) (fun _=>rfl) h5 rfl (by first | decide | simp))]
       exact h
     · have h:=h.2 (odf hc2)
       obtain ⟨q30_3,h⟩:=h
       refine p186_2_1 v4 v6 j v2 g4 g6 g2 e e1 e2 hE ⟨hc0,(⟨by decide,by decide⟩),rfl,rfl,(⟨by decide,by decide⟩),(⟨by decide,by decide⟩),rfl,rfl,(Qr h1),rfl,rfl,(rp cI 1 0 1 h1),(Qr h2),rfl,(rf cI 1 0 1 h2),rfl,(⟨by decide,by decide⟩),q19_1,hc1,(⟨by decide,by decide⟩),rfl,rfl,(by have hx:=Qw h4 h3; simpa using hx),rfl,rfl,(by rw [(show Qx (rowI v2) (0+(Int.toNat (j:Int))*1) [.int .i64 e]=rowI (v2.set j e) from QF cI (s:=1) (k:=0) (fun _=>rfl) h2 rfl (by first | decide | simp))]; exact rp cI 1 0 1 h3),hc2,q30_3,trivial⟩ ?_
       have h:=(h g4 g6 g2)
       simp only [Wz,List.length_set] at h
       rw [(show Qx (rowI v2) (0+(Int.toNat (j:Int))*1) [.int .i64 e]=rowI (v2.set j e) from QF cI (s:=1) (k:=0) (fun _=>rfl) h2 rfl (by first | decide | simp))]
       exact h
   · have h:=h.2 (odf hc1)
     obtain ⟨q22_2,h⟩:=h
     refine p186_2_2 v4 v6 j v2 g4 g6 g2 e e1 hE ⟨hc0,(⟨by decide,by decide⟩),rfl,rfl,(⟨by decide,by decide⟩),(⟨by decide,by decide⟩),rfl,rfl,(Qr h1),rfl,rfl,(rp cI 1 0 1 h1),(Qr h2),rfl,(rf cI 1 0 1 h2),rfl,(⟨by decide,by decide⟩),q19_1,hc1,rfl,q22_2,trivial⟩ ?_
     have h:=(h g4 g6 g2)
     simp only [Wz,List.length_set] at h
     rw [(show Qx (rowI v2) (0+(Int.toNat (j:Int))*1) [.int .i64 e]=rowI (v2.set j e) from QF cI (s:=1) (k:=0) (fun _=>rfl) h2 rfl (by first | decide | simp))]
     exact h
 · have h:=h.2 (odf hc0)
   exact p186_2_3 v4 v6 j v2 g4 g6 g2 hE ⟨hc0,(⟨by decide,by decide⟩),rfl,trivial⟩ (h g2 g4 g6)
theorem p186_3_0 (v2:List Int) (v4:List Int) (v6:List Int) (t:Nat) (tokens:Nat) (g2:Nat) (g4:Nat) (g6:Nat) (e:Int) (e1:Int) {E:Env} {rv:AV} (hE:Qd Try.prog 186 rv E) (ho:AllP [(decide ((t:Int)≤1007))=true,(0:Int)≤0∧(0:Int)<((3:Nat):Int),0=0,0=0,0≤(t:Int)∧(t:Int)<(v2.length:Int),g2=g2,g2=g2,((rowI v2).drop (0+(Int.toNat (t:Int))*1)).take 1=[.int .i64 e],(0:Int)≤0∧(0:Int)<((3:Nat):Int),0=0,0=0,0≤(tokens:Int)∧(tokens:Int)<(v2.length:Int),g2=g2,g2=g2,((rowI v2).drop (0+(Int.toNat (tokens:Int))*1)).take 1=[.int .i64 e1],(decide (e<e1))=true,InR .i64 ((t:Int)+1)])
 (hg:G Try.prog E (WA Try.prog) ⟨([.rsl [.int .i64 1,.int .i64 200,.int .i64 6,.int .i64 1000] 0 2]++jj 5 ([.int .i64 1007,.sl 0 0 0 3 1,J,J,J,J,.int .i64 (t:Int),.int .i64 ((t:Int)+1)]++Js 204)),[⟨true,0,1,false,[.sl 2 g2 0 v2.length 1,.sl 4 g4 0 v4.length 1,.sl 6 g6 0 v6.length 1],true⟩,⟨false,1,1,true,[],false⟩,⟨true,g2,1,true,(rowI v2),true⟩,⟨false,1,1,true,[],false⟩,⟨true,g4,1,true,(rowI v4),true⟩,⟨false,1,1,true,[],false⟩,⟨true,g6,1,true,(rowI v6),true⟩]⟩):G Try.prog E (WA Try.prog) (f186S3 v2 v4 v6 t tokens g2 g4 g6) :=
 Ql (n:=400) (ds:=[]) (cs:=[]) (live:=[0,6,7,12,13]) (m:=7) (evs:=[.b true,.auto,.ld (.int .i64 e),.auto,.ld (.int .i64 e1),.b true,.stop]) (obs:=_) hE.2.1 (hE.nogh _) Qi (by kernel_rfl) ho hg
theorem p186_3_1 (v2:List Int) (v4:List Int) (v6:List Int) (t:Nat) (tokens:Nat) (g2:Nat) (g4:Nat) (g6:Nat) (e:Int) (e1:Int) {E:Env} {rv:AV} (hE:Qd Try.prog 186 rv E) (ho:AllP [(decide ((t:Int)≤1007))=true,(0:Int)≤0∧(0:Int)<((3:Nat):Int),0=0,0=0,0≤(t:Int)∧(t:Int)<(v2.length:Int),g2=g2,g2=g2,((rowI v2).drop (0+(Int.toNat (t:Int))*1)).take 1=[.int .i64 e],(0:Int)≤0∧(0:Int)<((3:Nat):Int),0=0,0=0,0≤(tokens:Int)∧(tokens:Int)<(v2.length:Int),g2=g2,g2=g2,((rowI v2).drop (0+(Int.toNat (tokens:Int))*1)).take 1=[.int .i64 e1],(decide (e<e1))=false,InR .i64 ((t:Int)+1)])
 (hg:G Try.prog E (WA Try.prog) ⟨([.rsl [.int .i64 1,.int .i64 200,.int .i64 6,.int .i64 1000] 0 2]++jj 5 ([.int .i64 1007,.sl 0 0 0 3 1,J,J,J,J,.int .i64 (tokens:Int),.int .i64 ((t:Int)+1)]++Js 204)),[⟨true,0,1,false,[.sl 2 g2 0 v2.length 1,.sl 4 g4 0 v4.length 1,.sl 6 g6 0 v6.length 1],true⟩,⟨false,1,1,true,[],false⟩,⟨true,g2,1,true,(rowI v2),true⟩,⟨false,1,1,true,[],false⟩,⟨true,g4,1,true,(rowI v4),true⟩,⟨false,1,1,true,[],false⟩,⟨true,g6,1,true,(rowI v6),true⟩]⟩):G Try.prog E (WA Try.prog) (f186S3 v2 v4 v6 t tokens g2 g4 g6) :=
 Ql (n:=400) (ds:=[]) (cs:=[]) (live:=[0,6,7,12,13]) (m:=7) (evs:=[.b true,.auto,.ld (.int .i64 e),.auto,.ld (.int .i64 e1),.b false,.stop]) (obs:=_) hE.2.1 (hE.nogh _) Qi (by kernel_rfl) ho hg
theorem p186_3_2 (v2:List Int) (v4:List Int) (v6:List Int) (t:Nat) (tokens:Nat) (g2:Nat) (g4:Nat) (g6:Nat) (e:Int) {E:Env} {res:AV} (hE:Qd Try.prog 186 res E) (ho:AllP [(decide ((t:Int)≤1007))=false,(0:Int)≤0∧(0:Int)<((3:Nat):Int),0=0,0=0,0≤(tokens:Int)∧(tokens:Int)<(v2.length:Int),g2=g2,g2=g2,((rowI v2).drop (0+(Int.toNat (tokens:Int))*1)).take 1=[.int .i64 e],(e == 1152921504606846976)=true])
 (hr:AvLe (.tup [.nilSl,.int .i64 0]) res):G Try.prog E (WA Try.prog) (f186S3 v2 v4 v6 t tokens g2 g4 g6) :=
 Qb (n:=400) (evs:=[.b false,.auto,.ld (.int .i64 e),.b true]) (obs:=_) hE Try.func186 Qi (by kernel_rfl) ho hr
theorem p186_3_3 (v2:List Int) (v4:List Int) (v6:List Int) (t:Nat) (tokens:Nat) (g2:Nat) (g4:Nat) (g6:Nat) (e:Int) {E:Env} {rv:AV} (hE:Qd Try.prog 186 rv E) (ho:AllP [(decide ((t:Int)≤1007))=false,(0:Int)≤0∧(0:Int)<((3:Nat):Int),0=0,0=0,0≤(tokens:Int)∧(tokens:Int)<(v2.length:Int),g2=g2,g2=g2,((rowI v2).drop (0+(Int.toNat (tokens:Int))*1)).take 1=[.int .i64 e],(e == 1152921504606846976)=false,(0:Int)≤2∧(2:Int)≤2∧(2:Int)≤2147483648,true=true,(0:Int)≤0∧(0:Int)<((2:Nat):Int),2≤2,(0:Int)≤0∧(0:Int)<((3:Nat):Int),0=0,0=0,0≤(tokens:Int)∧(tokens:Int)<(v2.length:Int),g2=g2,g2=g2,((rowI v2).drop (0+(Int.toNat (tokens:Int))*1)).take 1=[.int .i64 e]])
 (hg:G Try.prog E (qo Try.prog) ⟨([J,J,J,J,.sl 7 0 0 2 1,.int .i64 e,J,.sl 0 0 0 3 1,J,J,J,J,.int .i64 (tokens:Int),J,.int .i64 0,.ptr 8 0 0,.int .i64 e]++jj 133 ([.rsl [.int .i64 1,.int .i64 200,.int .i64 6,.int .i64 1000] 0 2,.int .i64 2,.int .i64 0]++Js 65)),[⟨true,0,1,false,[.sl 2 g2 0 v2.length 1,.sl 4 g4 0 v4.length 1,.sl 6 g6 0 v6.length 1],true⟩,⟨false,1,1,true,[],false⟩,⟨true,g2,1,true,(rowI v2),true⟩,⟨false,1,1,true,[],false⟩,⟨true,g4,1,true,(rowI v4),true⟩,⟨false,1,1,true,[],false⟩,⟨true,g6,1,true,(rowI v6),true⟩,⟨true,0,1,true,[.int .i64 0,.int .i64 0],true⟩,⟨true,0,1,true,[.int .i64 1,.int .i64 200],false⟩]⟩):G Try.prog E (WA Try.prog) (f186S3 v2 v4 v6 t tokens g2 g4 g6) :=
 Ql (n:=400) (ds:=[]) (cs:=[]) (live:=[4,5,7,12,14,15,16,150,151,152]) (m:=9) (evs:=[.b false,.auto,.ld (.int .i64 e),.b false,.b true,.auto,.auto,.ld (.int .i64 e),.stop]) (obs:=_) hE.2.1 (hE.nogh _) Qi (by kernel_rfl) ho hg
theorem f186W3 (v2:List Int) (v4:List Int) (v6:List Int) (t:Nat) (tokens:Nat) {E:Env} {rv:((List Int) × Int)} (hE:Qd Try.prog 186 (.tup [.rsl (rowI rv.1) 0 rv.1.length,.int .i64 rv.2]) E)
 (h:(((t:Int)≤1007→(∃ e:Int,v2[t]?=some e∧(∃ e1:Int,v2[tokens]?=some e1∧((e<e1→((I6 ((t:Int)+1))∧f186G3 E v2 v4 v6 (t+1) t))∧(¬ (e<e1)→((I6 ((t:Int)+1))∧f186G3 E v2 v4 v6 (t+1) tokens))))))∧(¬ ((t:Int)≤1007)→(∃ e:Int,v2[tokens]?=some e∧((e=1152921504606846976→rv=(([]:List Int),0))∧(¬ (e=1152921504606846976)→f186G5 E e (tokens:Int) e v2 v4 v6 0)))))):f186G3 E v2 v4 v6 t tokens:=by
 intro g2 g4 g6
 rcases bft (decide ((t:Int)≤1007)) with hc0 | hc0
 · have h:=h.1 (odt hc0)
   obtain ⟨e,h1,h⟩:=h
   obtain ⟨e1,h2,h⟩:=h
   rcases bft (decide (e<e1)) with hc1 | hc1
   · have h:=h.1 (odt hc1)
     obtain ⟨q18_2,h⟩:=h
     exact p186_3_0 v2 v4 v6 t tokens g2 g4 g6 e e1 hE ⟨hc0,(⟨by decide,by decide⟩),rfl,rfl,(Qr h1),rfl,rfl,(rp cI 1 0 1 h1),(⟨by decide,by decide⟩),rfl,rfl,(Qr h2),rfl,rfl,(rp cI 1 0 1 h2),hc1,q18_2,trivial⟩ (h g2 g4 g6)
   · have h:=h.2 (odf hc1)
     obtain ⟨q18_2,h⟩:=h
     exact p186_3_1 v2 v4 v6 t tokens g2 g4 g6 e e1 hE ⟨hc0,(⟨by decide,by decide⟩),rfl,rfl,(Qr h1),rfl,rfl,(rp cI 1 0 1 h1),(⟨by decide,by decide⟩),rfl,rfl,(Qr h2),rfl,rfl,(rp cI 1 0 1 h2),hc1,q18_2,trivial⟩ (h g2 g4 g6)
 · have h:=h.2 (odf hc0)
   obtain ⟨e,h1,h⟩:=h
   rcases bft (e == 1152921504606846976) with hc1 | hc1
   · have h:=h.1 (eq_of_beq hc1)
     exact p186_3_2 v2 v4 v6 t tokens g2 g4 g6 e hE ⟨hc0,(⟨by decide,by decide⟩),rfl,rfl,(Qr h1),rfl,rfl,(rp cI 1 0 1 h1),hc1,trivial⟩ (by rw [h]; exact (qM ⟨VL,⟨AvLe.of_eq rfl,trivial⟩⟩))
   · have h:=h.2 (ne_of_beq_false hc1)
     exact p186_3_3 v2 v4 v6 t tokens g2 g4 g6 e hE ⟨hc0,(⟨by decide,by decide⟩),rfl,rfl,(Qr h1),rfl,rfl,(rp cI 1 0 1 h1),hc1,(⟨by decide,by decide,by decide⟩),rfl,(⟨by decide,by decide⟩),(by decide),(⟨by decide,by decide⟩),rfl,rfl,(Qr h1),rfl,rfl,(rp cI 1 0 1 h1),trivial⟩ (h g2 g4 g6)
theorem p186_5_0 (price:Int) (tokens:Int) (left:Int) (v2:List Int) (v4:List Int) (v6:List Int) (v7_0:Nat) (g2:Nat) (g4:Nat) (g6:Nat) (e:Int) {E:Env} {rv:AV} (hE:Qd Try.prog 186 rv E) (ho:AllP [(decide (tokens≥1))=true,(0:Int)≤0∧(0:Int)<((3:Nat):Int),0=0,0=0,InR .i64 (tokens - 1),0≤(tokens - 1)∧(tokens - 1)<(v2.length:Int),g2=g2,g2=g2,((rowI v2).drop (0+(Int.toNat (tokens - 1))*1)).take 1=[.int .i64 e],(decide (e<1152921504606846976))=true,(0:Int)≤0∧(0:Int)<((3:Nat):Int),0=0,0=0,InR .i64 (tokens - 1),0≤(tokens - 1)∧(tokens - 1)<(v2.length:Int),g2=g2,g2=g2,((rowI v2).drop (0+(Int.toNat (tokens - 1))*1)).take 1=[.int .i64 e],InR .i64 (e+200),((e+200) == left)=true,InR .i64 (tokens - 1),(0:Int)≤0∧(0:Int)<((2:Nat):Int),0=0,0=0,InR .i64 ((v7_0:Int)+1),(0:Int)≤0∧(0:Int)<((2:Nat):Int),0=0,1≤2,0=0,(0:Int)≤0∧(0:Int)<((3:Nat):Int),0=0,0=0,0≤(tokens - 1)∧(tokens - 1)<(v2.length:Int),g2=g2,g2=g2,((rowI v2).drop (0+(Int.toNat (tokens - 1))*1)).take 1=[.int .i64 e]])
 (hg:G Try.prog E (qo Try.prog) ⟨([J,J,J,J,.sl 7 0 0 2 1,.int .i64 price,J,.sl 0 0 0 3 1,J,J,J,J,.int .i64 (tokens - 1),J,.int .i64 0,.ptr 8 0 0,.int .i64 e]++jj 133 ([.rsl [.int .i64 1,.int .i64 200,.int .i64 6,.int .i64 1000] 0 2,.int .i64 2,.int .i64 0]++Js 65)),[⟨true,0,1,false,[.sl 2 g2 0 v2.length 1,.sl 4 g4 0 v4.length 1,.sl 6 g6 0 v6.length 1],true⟩,⟨false,1,1,true,[],false⟩,⟨true,g2,1,true,(rowI v2),true⟩,⟨false,1,1,true,[],false⟩,⟨true,g4,1,true,(rowI v4),true⟩,⟨false,1,1,true,[],false⟩,⟨true,g6,1,true,(rowI v6),true⟩,⟨true,0,1,true,[.int .i64 ((v7_0:Int)+1),.int .i64 0],true⟩,⟨true,0,1,true,[.int .i64 1,.int .i64 200],false⟩]⟩):G Try.prog E (qo Try.prog) (f186S5 price tokens left v2 v4 v6 v7_0 g2 g4 g6) :=
 Ql (n:=400) (ds:=[]) (cs:=[]) (live:=[4,5,7,12,14,15,16,150,151,152]) (m:=9) (evs:=[.b true,.auto,.auto,.ld (.int .i64 e),.b true,.auto,.auto,.ld (.int .i64 e),.b true,.auto,.auto,.auto,.ld (.int .i64 e),.stop]) (obs:=_) hE.2.1 (hE.nogh _) Qi (by kernel_rfl) ho hg
theorem p186_5_1 (price:Int) (tokens:Int) (left:Int) (v2:List Int) (v4:List Int) (v6:List Int) (v7_0:Nat) (g2:Nat) (g4:Nat) (g6:Nat) (e:Int) (e1:Int) {E:Env} {rv:AV} (hE:Qd Try.prog 186 rv E) (ho:AllP [(decide (tokens≥1))=true,(0:Int)≤0∧(0:Int)<((3:Nat):Int),0=0,0=0,InR .i64 (tokens - 1),0≤(tokens - 1)∧(tokens - 1)<(v2.length:Int),g2=g2,g2=g2,((rowI v2).drop (0+(Int.toNat (tokens - 1))*1)).take 1=[.int .i64 e],(decide (e<1152921504606846976))=true,(0:Int)≤0∧(0:Int)<((3:Nat):Int),0=0,0=0,InR .i64 (tokens - 1),0≤(tokens - 1)∧(tokens - 1)<(v2.length:Int),g2=g2,g2=g2,((rowI v2).drop (0+(Int.toNat (tokens - 1))*1)).take 1=[.int .i64 e],InR .i64 (e+200),((e+200) == left)=false,InR .i64 1,true=true,(0:Int)≤1∧(1:Int)<((2:Nat):Int),2≤2,(0:Int)≤1∧(1:Int)<((3:Nat):Int),0=0,0=0,0≤tokens∧tokens<(v4.length:Int),g4=g4,g4=g4,((rowI v4).drop (0+(Int.toNat tokens)*1)).take 1=[.int .i64 e1]])
 (hg:G Try.prog E (XF Try.prog) ⟨([J,J,J,J,.sl 7 0 0 2 1,.int .i64 price,J,.sl 0 0 0 3 1,J,J,J,J,.int .i64 tokens,J,.int .i64 1,.ptr 9 0 0,.int .i64 e1]++jj 133 ([.rsl [.int .i64 1,.int .i64 200,.int .i64 6,.int .i64 1000] 0 2,.int .i64 2,.int .i64 1]++Js 65)),[⟨true,0,1,false,[.sl 2 g2 0 v2.length 1,.sl 4 g4 0 v4.length 1,.sl 6 g6 0 v6.length 1],true⟩,⟨false,1,1,true,[],false⟩,⟨true,g2,1,true,(rowI v2),true⟩,⟨false,1,1,true,[],false⟩,⟨true,g4,1,true,(rowI v4),true⟩,⟨false,1,1,true,[],false⟩,⟨true,g6,1,true,(rowI v6),true⟩,⟨true,0,1,true,[.int .i64 (v7_0:Int),.int .i64 0],true⟩,⟨true,0,1,true,[.int .i64 1,.int .i64 200],false⟩,⟨true,0,1,true,[.int .i64 6,.int .i64 1000],false⟩]⟩):G Try.prog E (qo Try.prog) (f186S5 price tokens left v2 v4 v6 v7_0 g2 g4 g6) :=
 Ql (n:=400) (ds:=[]) (cs:=[]) (live:=[4,5,7,12,14,15,16,150,151,152]) (m:=10) (evs:=[.b true,.auto,.auto,.ld (.int .i64 e),.b true,.auto,.auto,.ld (.int .i64 e),.b false,.b true,.auto,.auto,.ld (.int .i64 e1),.stop]) (obs:=_) hE.2.1 (hE.nogh _) Qi (by kernel_rfl) ho hg
theorem p186_5_2 (price:Int) (tokens:Int) (left:Int) (v2:List Int) (v4:List Int) (v6:List Int) (v7_0:Nat) (g2:Nat) (g4:Nat) (g6:Nat) (e:Int) (e1:Int) {E:Env} {rv:AV} (hE:Qd Try.prog 186 rv E) (ho:AllP [(decide (tokens≥1))=true,(0:Int)≤0∧(0:Int)<((3:Nat):Int),0=0,0=0,InR .i64 (tokens - 1),0≤(tokens - 1)∧(tokens - 1)<(v2.length:Int),g2=g2,g2=g2,((rowI v2).drop (0+(Int.toNat (tokens - 1))*1)).take 1=[.int .i64 e],(decide (e<1152921504606846976))=false,false=false,InR .i64 1,true=true,(0:Int)≤1∧(1:Int)<((2:Nat):Int),2≤2,(0:Int)≤1∧(1:Int)<((3:Nat):Int),0=0,0=0,0≤tokens∧tokens<(v4.length:Int),g4=g4,g4=g4,((rowI v4).drop (0+(Int.toNat tokens)*1)).take 1=[.int .i64 e1]])
 (hg:G Try.prog E (XF Try.prog) ⟨([J,J,J,J,.sl 7 0 0 2 1,.int .i64 price,J,.sl 0 0 0 3 1,J,J,J,J,.int .i64 tokens,J,.int .i64 1,.ptr 9 0 0,.int .i64 e1]++jj 133 ([.rsl [.int .i64 1,.int .i64 200,.int .i64 6,.int .i64 1000] 0 2,.int .i64 2,.int .i64 1]++Js 65)),[⟨true,0,1,false,[.sl 2 g2 0 v2.length 1,.sl 4 g4 0 v4.length 1,.sl 6 g6 0 v6.length 1],true⟩,⟨false,1,1,true,[],false⟩,⟨true,g2,1,true,(rowI v2),true⟩,⟨false,1,1,true,[],false⟩,⟨true,g4,1,true,(rowI v4),true⟩,⟨false,1,1,true,[],false⟩,⟨true,g6,1,true,(rowI v6),true⟩,⟨true,0,1,true,[.int .i64 (v7_0:Int),.int .i64 0],true⟩,⟨true,0,1,true,[.int .i64 1,.int .i64 200],false⟩,⟨true,0,1,true,[.int .i64 6,.int .i64 1000],false⟩]⟩):G Try.prog E (qo Try.prog) (f186S5 price tokens left v2 v4 v6 v7_0 g2 g4 g6) :=
 Ql (n:=400) (ds:=[]) (cs:=[]) (live:=[4,5,7,12,14,15,16,150,151,152]) (m:=10) (evs:=[.b true,.auto,.auto,.ld (.int .i64 e),.b false,.b false,.b true,.auto,.auto,.ld (.int .i64 e1),.stop]) (obs:=_) hE.2.1 (hE.nogh _) Qi (by kernel_rfl) ho hg
theorem p186_5_3 (price:Int) (tokens:Int) (left:Int) (v2:List Int) (v4:List Int) (v6:List Int) (v7_0:Nat) (g2:Nat) (g4:Nat) (g6:Nat) (e:Int) {E:Env} {rv:AV} (hE:Qd Try.prog 186 rv E) (ho:AllP [(decide (tokens≥1))=false,false=false,false=false,InR .i64 1,true=true,(0:Int)≤1∧(1:Int)<((2:Nat):Int),2≤2,(0:Int)≤1∧(1:Int)<((3:Nat):Int),0=0,0=0,0≤tokens∧tokens<(v4.length:Int),g4=g4,g4=g4,((rowI v4).drop (0+(Int.toNat tokens)*1)).take 1=[.int .i64 e]])
 (hg:G Try.prog E (XF Try.prog) ⟨([J,J,J,J,.sl 7 0 0 2 1,.int .i64 price,J,.sl 0 0 0 3 1,J,J,J,J,.int .i64 tokens,J,.int .i64 1,.ptr 9 0 0,.int .i64 e]++jj 133 ([.rsl [.int .i64 1,.int .i64 200,.int .i64 6,.int .i64 1000] 0 2,.int .i64 2,.int .i64 1]++Js 65)),[⟨true,0,1,false,[.sl 2 g2 0 v2.length 1,.sl 4 g4 0 v4.length 1,.sl 6 g6 0 v6.length 1],true⟩,⟨false,1,1,true,[],false⟩,⟨true,g2,1,true,(rowI v2),true⟩,⟨false,1,1,true,[],false⟩,⟨true,g4,1,true,(rowI v4),true⟩,⟨false,1,1,true,[],false⟩,⟨true,g6,1,true,(rowI v6),true⟩,⟨true,0,1,true,[.int .i64 (v7_0:Int),.int .i64 0],true⟩,⟨true,0,1,true,[.int .i64 1,.int .i64 200],false⟩,⟨true,0,1,true,[.int .i64 6,.int .i64 1000],false⟩]⟩):G Try.prog E (qo Try.prog) (f186S5 price tokens left v2 v4 v6 v7_0 g2 g4 g6) :=
 Ql (n:=400) (ds:=[]) (cs:=[]) (live:=[4,5,7,12,14,15,16,150,151,152]) (m:=10) (evs:=[.b false,.b false,.b false,.b true,.auto,.auto,.ld (.int .i64 e),.stop]) (obs:=_) hE.2.1 (hE.nogh _) Qi (by kernel_rfl) ho hg
theorem f186W5 (price:Int) (tokens:Int) (left:Int) (v2:List Int) (v4:List Int) (v6:List Int) (v7_0:Nat) {E:Env} {rv:((List Int) × Int)} (hE:Qd Try.prog 186 (.tup [.rsl (rowI rv.1) 0 rv.1.length,.int .i64 rv.2]) E)
 (h:((tokens≥1→((I6 (tokens - 1))∧(0≤(tokens - 1)∧(∃ e:Int,v2[Int.toNat (tokens - 1)]?=some e∧((e<1152921504606846976→((I6 (tokens - 1))∧((I6 (e+200))∧(((e+200)=left→((I6 (tokens - 1))∧((I6 ((v7_0:Int)+1))∧f186G5 E price (tokens - 1) e v2 v4 v6 (v7_0+1))))∧(¬ ((e+200)=left)→(0≤tokens∧(∃ e1:Int,v4[Int.toNat tokens]?=some e1∧Ye E price tokens e1 v2 v4 v6 v7_0 0)))))))∧(¬ (e<1152921504606846976)→(0≤tokens∧(∃ e1:Int,v4[Int.toNat tokens]?=some e1∧Ye E price tokens e1 v2 v4 v6 v7_0 0))))))))∧(¬ (tokens≥1)→(0≤tokens∧(∃ e:Int,v4[Int.toNat tokens]?=some e∧Ye E price tokens e v2 v4 v6 v7_0 0))))):f186G5 E price tokens left v2 v4 v6 v7_0:=by
 intro g2 g4 g6
 rcases bft (decide (tokens≥1)) with hc0 | hc0
 · have h:=h.1 (odt hc0)
   obtain ⟨q4_1,h⟩:=h
   obtain ⟨h2,h⟩:=h
   obtain ⟨e,h1,h⟩:=h
   rcases bft (decide (e<1152921504606846976)) with hc1 | hc1
   · have h:=h.1 (odt hc1)
     obtain ⟨q14_2,h⟩:=h
     obtain ⟨q19_2,h⟩:=h
     rcases bft ((e+200) == left) with hc2 | hc2
     · have h:=h.1 (eq_of_beq hc2)
       obtain ⟨q21_3,h⟩:=h
       obtain ⟨q25_3,h⟩:=h
       exact p186_5_0 price tokens left v2 v4 v6 v7_0 g2 g4 g6 e hE ⟨hc0,(⟨by decide,by decide⟩),rfl,rfl,q4_1,(Qw h2 h1),rfl,rfl,(rp cI 1 0 1 h1),hc1,(⟨by decide,by decide⟩),rfl,rfl,q14_2,(Qw h2 h1),rfl,rfl,(rp cI 1 0 1 h1),q19_2,hc2,q21_3,(⟨by decide,by decide⟩),rfl,rfl,q25_3,(⟨by decide,by decide⟩),rfl,(by decide),rfl,(⟨by decide,by decide⟩),rfl,rfl,(Qw h2 h1),rfl,rfl,(rp cI 1 0 1 h1),trivial⟩ (h g2 g4 g6)
     · have h:=h.2 (ne_of_beq_false hc2)
       obtain ⟨h4,h⟩:=h
       obtain ⟨e1,h3,h⟩:=h
       exact p186_5_1 price tokens left v2 v4 v6 v7_0 g2 g4 g6 e e1 hE ⟨hc0,(⟨by decide,by decide⟩),rfl,rfl,q4_1,(Qw h2 h1),rfl,rfl,(rp cI 1 0 1 h1),hc1,(⟨by decide,by decide⟩),rfl,rfl,q14_2,(Qw h2 h1),rfl,rfl,(rp cI 1 0 1 h1),q19_2,hc2,(⟨by decide,by decide⟩),rfl,(⟨by decide,by decide⟩),(by decide),(⟨by decide,by decide⟩),rfl,rfl,(Qw h4 h3),rfl,rfl,(rp cI 1 0 1 h3),trivial⟩ (h g2 g4 g6)
   · have h:=h.2 (odf hc1)
     obtain ⟨h4,h⟩:=h
     obtain ⟨e1,h3,h⟩:=h
     exact p186_5_2 price tokens left v2 v4 v6 v7_0 g2 g4 g6 e e1 hE ⟨hc0,(⟨by decide,by decide⟩),rfl,rfl,q4_1,(Qw h2 h1),rfl,rfl,(rp cI 1 0 1 h1),hc1,rfl,(⟨by decide,by decide⟩),rfl,(⟨by decide,by decide⟩),(by decide),(⟨by decide,by decide⟩),rfl,rfl,(Qw h4 h3),rfl,rfl,(rp cI 1 0 1 h3),trivial⟩ (h g2 g4 g6)
 · have h:=h.2 (odf hc0)
   obtain ⟨h2,h⟩:=h
   obtain ⟨e,h1,h⟩:=h
   exact p186_5_3 price tokens left v2 v4 v6 v7_0 g2 g4 g6 e hE ⟨hc0,rfl,rfl,(⟨by decide,by decide⟩),rfl,(⟨by decide,by decide⟩),(by decide),(⟨by decide,by decide⟩),rfl,rfl,(Qw h2 h1),rfl,rfl,(rp cI 1 0 1 h1),trivial⟩ (h g2 g4 g6)
theorem buy_ok:Pure Try.prog 186 [.rsl [.int .i64 1,.int .i64 200,.int .i64 6,.int .i64 1000] 0 2,.int .i64 7] (.tup [.rsl (rowI [1,1]) 0 2,.int .i64 1200]):=Qy Try.func186 f186b fun E hE=>by
 have hl:(List.replicate (Int.toNat (1008:Int)) (1152921504606846976:Int)).length=1008:=by rw [List.length_replicate]; rfl
 -- the last loops
 have e5:Ye E 1200 0 0 (LP c0 1008) (LP c1 1008) r2 1 1:=f186W1005 1200 0 0 _ _ _ 1 1 (rv:=([1,1],1200)) hE ⟨fun h=>by omega,fun _=>rfl⟩
 have a0:(LP c1 1008)[0]?=some 0:=Yq (by omega)
 have a6:(LP c1 1008)[6]?=some 1000:=Yq (by omega)
 have b6:(LP c0 1008)[6]?=some 1000:=Yq (by omega)
 have b5:(LP c0 1008)[5]?=some 1000:=Yq (by omega)
 have b7:(LP c0 1008)[7]?=some 1200:=Yq (by omega)
 have e4:Ye E 1200 6 1000 (LP c0 1008) (LP c1 1008) r2 1 0:=f186W1005 1200 6 1000 _ _ _ 1 0 (rv:=([1,1],1200)) hE
  ⟨fun _=>⟨by omega,by omega,0,a0,fun _=>⟨by omega,by omega,fun _=>⟨by omega,by omega,e5⟩,fun h=>absurd rfl h⟩,fun h=>absurd (by omega) h⟩,fun h=>absurd (by omega) h⟩
 have e3:f186G5 E 1200 6 1000 (LP c0 1008) (LP c1 1008) r2 1:=f186W5 1200 6 1000 _ _ _ 1 (rv:=([1,1],1200)) hE
  ⟨fun _=>⟨by omega,by omega,1000,b5,fun _=>⟨by omega,by omega,fun h=>absurd h (by omega),fun _=>⟨by omega,1000,a6,e4⟩⟩,fun h=>absurd (by omega) h⟩,fun h=>absurd (by omega) h⟩
 have e2:f186G5 E 1200 7 1200 (LP c0 1008) (LP c1 1008) r2 0:=f186W5 1200 7 1200 _ _ _ 0 (rv:=([1,1],1200)) hE
  ⟨fun _=>⟨by omega,by omega,1000,b6,fun _=>⟨by omega,by omega,fun _=>⟨by omega,by omega,e3⟩,fun h=>absurd rfl h⟩,fun h=>absurd (by omega) h⟩,fun h=>absurd (by omega) h⟩
 -- the least price
 have l3:∀ (d t:Nat),t+d=1008→7≤t→f186G3 E (LP c0 1008) (LP c1 1008) r2 t 7:=by
  intro d
  induction d with
  | zero =>
   intro t ht h7
   exact f186W3 _ _ _ t 7 (rv:=([1,1],1200)) hE ⟨fun h=>by omega,fun _=>⟨1200,b7,fun h=>absurd h (by omega),fun _=>e2⟩⟩
  | succ d ih =>
   intro t ht h7
   have hg:(LP c0 1008)[t]?=some (c0 t):=by rw [Yq (by omega),if_pos (by omega)]
   have hge:¬ c0 t<1200:=by unfold c0; omega
   exact f186W3 _ _ _ t 7 (rv:=([1,1],1200)) hE ⟨fun _=>⟨_,hg,1200,b7,fun h=>absurd h hge,fun _=>⟨by omega,ih (t+1) (by omega) (by omega)⟩⟩,fun h=>by omega⟩
 -- the rows
 have l2:∀ (d j:Nat),j+d=1008→yl E (LP c1 1008) r2 j (LP c0 j):=by
  intro d
  induction d with
  | zero =>
   intro j hj
   have ej:j=1008:=by omega
   subst ej
   exact f186W2 _ _ _ _ (rv:=([1,1],1200)) hE ⟨fun h=>by rw [hl] at h; omega,fun _=>l3 1001 7 (by omega) (by omega)⟩
  | succ d ih =>
   intro j hj
   have g1:(LP c1 1008)[j]?=some (c1 j):=by rw [Yq (by omega),if_pos (by omega)]
   have g2:(LP c0 j)[j]?=some NN:=by rw [Yq (by omega),if_neg (by omega)]
   have nx:=ih (j+1) (by omega)
   rw [← LP_set (f:=c0) (j:=j) (by omega)] at nx
   refine f186W2 _ _ j _ (rv:=([1,1],1200)) hE ⟨fun _=>⟨_,g1,_,g2,by omega,fun h1=>?_,fun h1=>⟨by omega,?_⟩⟩,fun h=>by rw [hl] at h; omega⟩
   · have ej:Int.toNat ((j:Int) - 1)=j - 1:=by omega
     have bd:=c0_bd (t:=j - 1) (by omega)
     have g3:((LP c0 j).set j (c1 j))[Int.toNat ((j:Int) - 1)]?=some (c0 (j - 1)):=by rw [ej,List.getElem?_set_ne (by omega),Yq (by omega),if_pos (by omega)]
     have g4:((LP c0 j).set j (c1 j))[j]?=some (c1 j):=List.getElem?_set_self (by rw [yz]; omega)
     refine ⟨by omega,_,g3,fun _=>⟨_,g4,by omega,by omega,?_⟩,fun h=>absurd (by omega) h⟩
     rw [List.set_set,c0_step (by omega) (by omega)]
     exact nx
   · have e0:j=0:=by omega
     subst e0
     exact nx
 have l1:∀ (d j:Nat),j+d=1008→YA E r2 j (LP c1 j):=by
  intro d
  induction d with
  | zero =>
   intro j hj
   have ej:j=1008:=by omega
   subst ej
   refine f186W1002 _ _ _ (rv:=([1,1],1200)) hE ⟨fun h=>by rw [hl] at h; omega,fun _=>?_⟩
   have:=l2 1008 0 (by omega)
   rw [← LP_zero] at this
   exact this
  | succ d ih =>
   intro j hj
   have g1:=r2_get (j:=j) (by omega)
   have g2:(LP c1 j)[j]?=some NN:=by rw [Yq (by omega),if_neg (by omega)]
   have nx:=ih (j+1) (by omega)
   rw [← LP_set (f:=c1) (j:=j) (by omega)] at nx
   refine f186W1002 _ j _ (rv:=([1,1],1200)) hE ⟨fun _=>⟨_,g1,_,g2,by omega,fun h1=>?_,fun h1=>⟨by omega,?_⟩⟩,fun h=>by rw [hl] at h; omega⟩
   · have ej:Int.toNat ((j:Int) - 6)=j - 6:=by omega
     rw [if_neg (show ¬ j=0 by omega)]
     have g3:((LP c1 j).set j NN)[Int.toNat ((j:Int) - 6)]?=some (c1 (j - 6)):=by rw [ej,List.getElem?_set_ne (by omega),Yq (by omega),if_pos (by omega)]
     have g4:((LP c1 j).set j NN)[j]?=some NN:=List.getElem?_set_self (by rw [yz]; omega)
     refine ⟨by omega,_,g3,fun h2=>⟨_,g4,?_,by omega,?_⟩,fun h2=>⟨by omega,?_⟩⟩
     · by_cases h6:(j - 6) % 6=0
       · have:=VU (t:=j - 6) (by omega) h6
         omega
       · rw [qz h6] at h2
         exact absurd h2 (by decide)
     · have h6:(j - 6) % 6=0:=Decidable.byContradiction fun h6=>by
        rw [qz h6] at h2
        exact absurd h2 (by decide)
       rw [List.set_set,c1_step (by omega) (by omega) h6]
       exact nx
     · have h6:¬ j % 6=0:=fun h6=>by
        have:=VU (t:=j - 6) (by omega) (by omega)
        omega
       rw [qz h6] at nx
       exact nx
   · by_cases e0:j=0
     · subst e0
       exact nx
     · rw [if_neg e0]
       have h6:¬ j % 6=0:=by omega
       rw [qz h6] at nx
       exact nx
 have z:(List.replicate (Int.toNat (1008:Int)) (1152921504606846976:Int))[0]?=some NN:=by rw [List.getElem?_replicate,if_pos (by decide)]
 have fin:=l1 1008 0 (by omega)
 rw [← LP_zero] at fin
 exact f186W (rv:=([1,1],1200)) hE ⟨by omega,by omega,by omega,NN,z,fin⟩
end Go.Proofs.Ytemklbioijmjiaa
namespace Go.Proofs.Ytemklbioijmjiaa
open Go Ax
open Go.Proofs
def exF:Fair:=⟨0,0,[5],[0],[⟨1,200⟩,⟨6,1000⟩],0,0,1⟩
theorem f116b:Try.f116.body=some (Qc Try.prog 116):=by kernel_rfl
theorem u116 {a c k:List AV} {r:AV} (h:Pure Try.prog 116 (a++c++k) r):Qe Try.prog (.clos 116 a k) c r:=Qo Try.func116 (by kernel_rfl) f116b h
theorem p116_start_0 {E:Env} {res:AV} (hE:Qd Try.prog 116 res E) (ho:AllP [Qe Try.prog (.clos 186 [] []) [.rsl [.int .i64 1,.int .i64 200,.int .i64 6,.int .i64 1000] 0 2,.int .i64 7] (.tup [.rsl (rowI [1,1]) 0 2,.int .i64 1200]),2 ≠ 0,false=false])
 (hr:AvLe (.tup [.rsl (rowI [1,1]) 0 2,.int .i64 1200,.int .i64 0]) res):G Try.prog E [.code (Qc Try.prog 116)] ⟨[.agg [.int .i64 0,.int .i64 0,.rsl [.int .i64 5] 0 1,.rsl [.int .i64 0] 0 1,.rsl [.int .i64 1,.int .i64 200,.int .i64 6,.int .i64 1000] 0 2,.int .i64 0,.int .i64 0,.int .i64 1],.int .i64 7]++unds (Try.f116.ntmps - 2),[]⟩ :=
 Qb (n:=400) (evs:=[.v (.tup [.rsl (rowI [1,1]) 0 2,.int .i64 1200]),.b false]) (obs:=_) hE Try.func116 Qi (by kernel_rfl) ho hr
theorem f116W {E:Env} {rv:((List Int) × Int × Int)} (hE:Qd Try.prog 116 (.tup [.rsl (rowI rv.1) 0 rv.1.length,.int .i64 rv.2.1,.int .i64 rv.2.2]) E)
 (h:rv=((([1,1]:List Int).take 2),1200,0)):G Try.prog E [.code (Qc Try.prog 116)] ⟨[.agg [.int .i64 0,.int .i64 0,.rsl [.int .i64 5] 0 1,.rsl [.int .i64 0] 0 1,.rsl [.int .i64 1,.int .i64 200,.int .i64 6,.int .i64 1000] 0 2,.int .i64 0,.int .i64 0,.int .i64 1],.int .i64 7]++unds (Try.f116.ntmps - 2),[]⟩:=by
 exact p116_start_0 hE ⟨(u186 buy_ok),(by decide),rfl,trivial⟩ (AvLe.of_eq (by rw [h]; rw [(show AV.rsl (rowI [1,1]) 0 2=AV.rsl (rowI ([1,1]:List Int)) 0 ([1,1]:List Int).length from by rw [show 2=([1,1]:List Int).length from by simp]; try rfl)]; try rfl))
theorem bought_ok:Pure Try.prog 116 [.agg [.int .i64 0,.int .i64 0,.rsl [.int .i64 5] 0 1,.rsl [.int .i64 0] 0 1,.rsl [.int .i64 1,.int .i64 200,.int .i64 6,.int .i64 1000] 0 2,.int .i64 0,.int .i64 0,.int .i64 1],.int .i64 7] (.tup [.rsl (rowI [1,1]) 0 2,.int .i64 1200,.int .i64 0]):=Qy Try.func116 f116b fun E hE=>f116W (rv:=([1,1],1200,0)) hE rfl
theorem f48b:Try.f48.body=some (Qc Try.prog 48):=by kernel_rfl
theorem u48 {a c k:List AV} {r:AV} (h:Pure Try.prog 48 (a++c++k) r):Qe Try.prog (.clos 48 a k) c r:=Qo Try.func48 (by kernel_rfl) f48b h
theorem p48_start_0 {E:Env} {res:AV} (hE:Qd Try.prog 48 res E) (ho:AllP [Qe Try.prog (.clos 114 [] []) [.agg [.int .i64 0,.int .i64 0,.rsl [.int .i64 5] 0 1,.rsl [.int .i64 0] 0 1,.rsl [.int .i64 1,.int .i64 200,.int .i64 6,.int .i64 1000] 0 2,.int .i64 0,.int .i64 0,.int .i64 1]] (.int .i64 (Yz exF)),((Yz exF) != 0)=true])
 (hr:AvLe (.tup [.nilSl,.int .i64 0,.int .i64 (Yz exF)]) res):G Try.prog E [.code (Qc Try.prog 48)] ⟨[.agg [.int .i64 0,.int .i64 0,.rsl [.int .i64 5] 0 1,.rsl [.int .i64 0] 0 1,.rsl [.int .i64 1,.int .i64 200,.int .i64 6,.int .i64 1000] 0 2,.int .i64 0,.int .i64 0,.int .i64 1],.int .i64 7]++unds (Try.f48.ntmps - 2),[]⟩ :=
 Qb (n:=400) (evs:=[.v (.int .i64 (Yz exF)),.b true]) (obs:=_) hE Try.func48 Qi (by kernel_rfl) ho hr
theorem p48_start_1 {E:Env} {res:AV} (hE:Qd Try.prog 48 res E) (ho:AllP [Qe Try.prog (.clos 114 [] []) [.agg [.int .i64 0,.int .i64 0,.rsl [.int .i64 5] 0 1,.rsl [.int .i64 0] 0 1,.rsl [.int .i64 1,.int .i64 200,.int .i64 6,.int .i64 1000] 0 2,.int .i64 0,.int .i64 0,.int .i64 1]] (.int .i64 (Yz exF)),((Yz exF) != 0)=false,Qe Try.prog (.clos 115 [] []) [.int .i64 7,.int .i64 0,.int .i64 1000] (.bool (Qa 7 0 1000)),(!(Qa 7 0 1000))=true])
 (hr:AvLe (.tup [.nilSl,.int .i64 0,.int .i64 1]) res):G Try.prog E [.code (Qc Try.prog 48)] ⟨[.agg [.int .i64 0,.int .i64 0,.rsl [.int .i64 5] 0 1,.rsl [.int .i64 0] 0 1,.rsl [.int .i64 1,.int .i64 200,.int .i64 6,.int .i64 1000] 0 2,.int .i64 0,.int .i64 0,.int .i64 1],.int .i64 7]++unds (Try.f48.ntmps - 2),[]⟩ :=
 Qb (n:=400) (evs:=[.v (.int .i64 (Yz exF)),.b false,.v (.bool (Qa 7 0 1000)),.b true]) (obs:=_) hE Try.func48 Qi (by kernel_rfl) ho hr
theorem p48_start_2 {E:Env} {res:AV} (hE:Qd Try.prog 48 res E) (ho:AllP [Qe Try.prog (.clos 114 [] []) [.agg [.int .i64 0,.int .i64 0,.rsl [.int .i64 5] 0 1,.rsl [.int .i64 0] 0 1,.rsl [.int .i64 1,.int .i64 200,.int .i64 6,.int .i64 1000] 0 2,.int .i64 0,.int .i64 0,.int .i64 1]] (.int .i64 (Yz exF)),((Yz exF) != 0)=false,Qe Try.prog (.clos 115 [] []) [.int .i64 7,.int .i64 0,.int .i64 1000] (.bool (Qa 7 0 1000)),(!(Qa 7 0 1000))=false,Qe Try.prog (.clos 116 [] []) [.agg [.int .i64 0,.int .i64 0,.rsl [.int .i64 5] 0 1,.rsl [.int .i64 0] 0 1,.rsl [.int .i64 1,.int .i64 200,.int .i64 6,.int .i64 1000] 0 2,.int .i64 0,.int .i64 0,.int .i64 1],.int .i64 7] (.tup [.rsl (rowI [1,1]) 0 2,.int .i64 1200,.int .i64 0])])
 (hr:AvLe (.tup [.rsl (rowI [1,1]) 0 2,.int .i64 1200,.int .i64 0]) res):G Try.prog E [.code (Qc Try.prog 48)] ⟨[.agg [.int .i64 0,.int .i64 0,.rsl [.int .i64 5] 0 1,.rsl [.int .i64 0] 0 1,.rsl [.int .i64 1,.int .i64 200,.int .i64 6,.int .i64 1000] 0 2,.int .i64 0,.int .i64 0,.int .i64 1],.int .i64 7]++unds (Try.f48.ntmps - 2),[]⟩ :=
 Qb (n:=400) (evs:=[.v (.int .i64 (Yz exF)),.b false,.v (.bool (Qa 7 0 1000)),.b false,.v (.tup [.rsl (rowI [1,1]) 0 2,.int .i64 1200,.int .i64 0])]) (obs:=_) hE Try.func48 Qi (by kernel_rfl) ho hr
theorem f48W {E:Env} {rv:((List Int) × Int × Int)} (hE:Qd Try.prog 48 (.tup [.rsl (rowI rv.1) 0 rv.1.length,.int .i64 rv.2.1,.int .i64 rv.2.2]) E)
 (h:((¬ ((Yz exF)=0)→rv=(([]:List Int),0,(Yz exF)))∧((Yz exF)=0→(((Qa 7 0 1000)=false→rv=(([]:List Int),0,1))∧((Qa 7 0 1000)=true→rv=((([1,1]:List Int).take 2),1200,0)))))):G Try.prog E [.code (Qc Try.prog 48)] ⟨[.agg [.int .i64 0,.int .i64 0,.rsl [.int .i64 5] 0 1,.rsl [.int .i64 0] 0 1,.rsl [.int .i64 1,.int .i64 200,.int .i64 6,.int .i64 1000] 0 2,.int .i64 0,.int .i64 0,.int .i64 1],.int .i64 7]++unds (Try.f48.ntmps - 2),[]⟩:=by
 rcases bft ((Yz exF) != 0) with hc0 | hc0
 · have h:=h.1 (bneT hc0)
   exact p48_start_0 hE ⟨(u114 (WN exF ⟨by decide,by decide,by decide⟩)),hc0,trivial⟩ (by rw [h]; exact (qM ⟨VL,⟨AvLe.of_eq rfl,⟨AvLe.of_eq rfl,trivial⟩⟩⟩))
 · have h:=h.2 (bneF hc0)
   rcases bft (!(Qa 7 0 1000)) with hc1 | hc1
   · have h:=h.1 (bnT hc1)
     exact p48_start_1 hE ⟨(u114 (WN exF ⟨by decide,by decide,by decide⟩)),hc0,(u115 (Qn 7 0 1000)),hc1,trivial⟩ (by rw [h]; exact (qM ⟨VL,⟨AvLe.of_eq rfl,⟨AvLe.of_eq rfl,trivial⟩⟩⟩))
   · have h:=h.2 (bnF hc1)
     exact p48_start_2 hE ⟨(u114 (WN exF ⟨by decide,by decide,by decide⟩)),hc0,(u115 (Qn 7 0 1000)),hc1,(u116 bought_ok),trivial⟩ (AvLe.of_eq (by rw [h]; rw [(show AV.rsl (rowI [1,1]) 0 2=AV.rsl (rowI ([1,1]:List Int)) 0 ([1,1]:List Int).length from by rw [show 2=([1,1]:List Int).length from by simp]; try rfl)]; try rfl))
theorem exF_ok:Yz exF=0:=by decide
theorem Buy_ok:Pure Try.prog 48 [.agg [.int .i64 0,.int .i64 0,.rsl [.int .i64 5] 0 1,.rsl [.int .i64 0] 0 1,.rsl [.int .i64 1,.int .i64 200,.int .i64 6,.int .i64 1000] 0 2,.int .i64 0,.int .i64 0,.int .i64 1],.int .i64 7] (.tup [.rsl (rowI [1,1]) 0 2,.int .i64 1200,.int .i64 0]):=Qy Try.func48 f48b fun E hE=>f48W (rv:=([1,1],1200,0)) hE ⟨fun h=>absurd exF_ok h,fun _=>⟨fun h=>absurd h (by decide),fun _=>rfl⟩⟩
theorem f31b:Try.f31.body=some (Qc Try.prog 31):=by kernel_rfl
theorem u31 {a c k:List AV} {r:AV} (h:Pure Try.prog 31 (a++c++k) r):Qe Try.prog (.clos 31 a k) c r:=Qo Try.func31 (by kernel_rfl) f31b h
def f31K0 (P:Program):List Item:=kAt 400 [.code (Qc P 31)] [.b false,.stop]
def f31S0 (a:(List Int)) (b:(List Int)) (i:Nat):St:=⟨([.rsl (rowI a) 0 a.length,.rsl (rowI b) 0 b.length,J,J,J,.int .i64 (i:Int)]++Js 20),[]⟩
def f31G0 (E:Env) (a:(List Int)) (b:(List Int)) (i:Nat):Prop:=G Try.prog E (f31K0 Try.prog) (f31S0 a b i )
theorem p31_start_0 (a:(List Int)) (b:(List Int)) {E:Env} {res:AV} (hE:Qd Try.prog 31 res E) (ho:AllP [((a.length:Int) != (b.length:Int))=true])
 (hr:AvLe (.bool false) res):G Try.prog E [.code (Qc Try.prog 31)] ⟨[.rsl (rowI a) 0 a.length,.rsl (rowI b) 0 b.length]++unds (Try.f31.ntmps - 2),[]⟩ :=
 Qb (n:=400) (evs:=[.b true]) (obs:=_) hE Try.func31 Qi (by kernel_rfl) ho hr
theorem p31_start_1 (a:(List Int)) (b:(List Int)) {E:Env} {rv:AV} (hE:Qd Try.prog 31 rv E) (ho:AllP [((a.length:Int) != (b.length:Int))=false])
 (hg:G Try.prog E (f31K0 Try.prog) ⟨([.rsl (rowI a) 0 a.length,.rsl (rowI b) 0 b.length,J,J,J,.int .i64 0]++Js 20),[]⟩):G Try.prog E [.code (Qc Try.prog 31)] ⟨[.rsl (rowI a) 0 a.length,.rsl (rowI b) 0 b.length]++unds (Try.f31.ntmps - 2),[]⟩ :=
 Ql (n:=400) (ds:=[]) (cs:=[]) (live:=[0,1,5]) (m:=0) (evs:=[.b false,.stop]) (obs:=_) hE.2.1 (hE.nogh _) Qi (by kernel_rfl) ho hg
theorem f31W (a:(List Int)) (b:(List Int)) {E:Env} {rv:Bool} (hE:Qd Try.prog 31 (.bool rv) E)
 (h:((¬ ((a.length:Int)=(b.length:Int))→rv=false)∧((a.length:Int)=(b.length:Int)→f31G0 E a b 0))):G Try.prog E [.code (Qc Try.prog 31)] ⟨[.rsl (rowI a) 0 a.length,.rsl (rowI b) 0 b.length]++unds (Try.f31.ntmps - 2),[]⟩:=by
 rcases bft ((a.length:Int) != (b.length:Int)) with hc0 | hc0
 · have h:=h.1 (bneT hc0)
   exact p31_start_0 a b hE ⟨hc0,trivial⟩ (AvLe.of_eq (by rw [h]; try rfl))
 · have h:=h.2 (bneF hc0)
   exact p31_start_1 a b hE ⟨hc0,trivial⟩ h
theorem p31_0_0 (a:(List Int)) (b:(List Int)) (i:Nat) (e:Int) (e1:Int) {E:Env} {res:AV} (hE:Qd Try.prog 31 res E) (ho:AllP [(decide ((i:Int)<(a.length:Int)))=true,0≤(i:Int)∧(i:Int)<(a.length:Int),((rowI a).drop (0+(Int.toNat (i:Int))*1)).take 1=[.int .i64 e],0≤(i:Int)∧(i:Int)<(b.length:Int),((rowI b).drop (0+(Int.toNat (i:Int))*1)).take 1=[.int .i64 e1],(e != e1)=true])
 (hr:AvLe (.bool false) res):G Try.prog E (f31K0 Try.prog) (f31S0 a b i ) :=
 Qb (n:=400) (evs:=[.b true,.ld (.int .i64 e),.ld (.int .i64 e1),.b true]) (obs:=_) hE Try.func31 Qi (by kernel_rfl) ho hr
theorem p31_0_1 (a:(List Int)) (b:(List Int)) (i:Nat) (e:Int) (e1:Int) {E:Env} {rv:AV} (hE:Qd Try.prog 31 rv E) (ho:AllP [(decide ((i:Int)<(a.length:Int)))=true,0≤(i:Int)∧(i:Int)<(a.length:Int),((rowI a).drop (0+(Int.toNat (i:Int))*1)).take 1=[.int .i64 e],0≤(i:Int)∧(i:Int)<(b.length:Int),((rowI b).drop (0+(Int.toNat (i:Int))*1)).take 1=[.int .i64 e1],(e != e1)=false,InR .i64 ((i:Int)+1)])
 (hg:G Try.prog E (f31K0 Try.prog) ⟨([.rsl (rowI a) 0 a.length,.rsl (rowI b) 0 b.length,J,J,J,.int .i64 ((i:Int)+1)]++Js 20),[]⟩):G Try.prog E (f31K0 Try.prog) (f31S0 a b i ) :=
 Ql (n:=400) (ds:=[]) (cs:=[]) (live:=[0,1,5]) (m:=0) (evs:=[.b true,.ld (.int .i64 e),.ld (.int .i64 e1),.b false,.stop]) (obs:=_) hE.2.1 (hE.nogh _) Qi (by kernel_rfl) ho hg
theorem p31_0_2 (a:(List Int)) (b:(List Int)) (i:Nat) {E:Env} {res:AV} (hE:Qd Try.prog 31 res E) (ho:AllP [(decide ((i:Int)<(a.length:Int)))=false])
 (hr:AvLe (.bool true) res):G Try.prog E (f31K0 Try.prog) (f31S0 a b i ) :=
 Qb (n:=400) (evs:=[.b false]) (obs:=_) hE Try.func31 Qi (by kernel_rfl) ho hr
theorem f31W0 (a:(List Int)) (b:(List Int)) (i:Nat) {E:Env} {rv:Bool} (hE:Qd Try.prog 31 (.bool rv) E)
 (h:(((i:Int)<(a.length:Int)→(∃ e:Int,a[i]?=some e∧(∃ e1:Int,b[i]?=some e1∧((¬ (e=e1)→rv=false)∧(e=e1→((I6 ((i:Int)+1))∧f31G0 E a b (i+1)))))))∧(¬ ((i:Int)<(a.length:Int))→rv=true))):f31G0 E a b i:=by
 rcases bft (decide ((i:Int)<(a.length:Int))) with hc0 | hc0
 · have h:=h.1 (odt hc0)
   obtain ⟨e,h1,h⟩:=h
   obtain ⟨e1,h2,h⟩:=h
   rcases bft (e != e1) with hc1 | hc1
   · have h:=h.1 (bneT hc1)
     exact p31_0_0 a b i e e1 hE ⟨hc0,(Qr h1),(rp cI 1 0 1 h1),(Qr h2),(rp cI 1 0 1 h2),hc1,trivial⟩ (AvLe.of_eq (by rw [h]; try rfl))
   · have h:=h.2 (bneF hc1)
     obtain ⟨q8_2,h⟩:=h
     exact p31_0_1 a b i e e1 hE ⟨hc0,(Qr h1),(rp cI 1 0 1 h1),(Qr h2),(rp cI 1 0 1 h2),hc1,q8_2,trivial⟩ h
 · have h:=h.2 (odf hc0)
   exact p31_0_2 a b i hE ⟨hc0,trivial⟩ (AvLe.of_eq (by rw [h]; try rfl))
theorem tsame_ok (a b:List Int) (h:a=b∧a.length≤1000000):Pure Try.prog 31 [.rsl (rowI a) 0 a.length,.rsl (rowI b) 0 b.length] (.bool true):=Qy Try.func31 f31b fun E hE=>by
 obtain ⟨rfl,hl⟩:=h
 have key:∀ (d i:Nat),i+d=a.length→f31G0 E a a i:=by
  intro d
  induction d with
  | zero=>intro i hi; exact f31W0 a a i (rv:=true) hE ⟨fun h=>by omega,fun _=>rfl⟩
  | succ d ih =>
   intro i hi
   have hx:a[i]?=some (a[i]'(by omega)):=List.getElem?_eq_getElem (by omega)
   exact f31W0 a a i (rv:=true) hE ⟨fun _=>⟨_,hx,_,hx,fun h=>absurd rfl h,fun _=>⟨by omega,ih (i+1) (by omega)⟩⟩,fun h=>by omega⟩
 exact f31W a a (rv:=true) hE ⟨fun h=>absurd rfl h,fun _=>key a.length 0 (by omega)⟩
theorem f13b:Try.f13.body=some (Qc Try.prog 13):=by kernel_rfl
theorem u13 {a c k:List AV} {r:AV} (h:Pure Try.prog 13 (a++c++k) r):Qe Try.prog (.clos 13 a k) c r:=Qo Try.func13 (by kernel_rfl) f13b h
theorem p13_start_0 {E:Env} {res:AV} (hE:Qd Try.prog 13 res E) (ho:AllP [8≤8,LentF Try.prog (.clos 48 [] []) [.agg [.int .i64 0,.int .i64 0,.sl 0 0 0 1 1,.sl 1 0 0 1 1,.sl 2 0 0 2 2,.int .i64 0,.int .i64 0,.int .i64 1],.int .i64 7] [⟨true,0,1,true,[.int .i64 5],true⟩,⟨true,0,1,true,[.int .i64 0],true⟩,⟨true,0,2,true,[.int .i64 1,.int .i64 200,.int .i64 6,.int .i64 1000],true⟩] (.tup [.rsl (rowI [1,1]) 0 2,.int .i64 1200,.int .i64 0]) [⟨false,1,1,true,[],false⟩,⟨false,1,1,true,[],false⟩,⟨false,1,2,true,[],false⟩],true=true,true=true,Qe Try.prog (.clos 31 [] []) [.rsl (rowI [1,1]) 0 2,.rsl [.int .i64 1,.int .i64 1] 0 2] (.bool true),0=0])
 (hr:AvLe (.bool true) res):G Try.prog E [.code (Qc Try.prog 13)] ⟨[]++unds (Try.f13.ntmps - 0),[]⟩ :=
 Qb (n:=400) (evs:=[.lent [0,1,2] (.tup [.rsl (rowI [1,1]) 0 2,.int .i64 1200,.int .i64 0]) [⟨false,1,1,true,[],false⟩,⟨false,1,1,true,[],false⟩,⟨false,1,2,true,[],false⟩],.b true,.b true,.v (.bool true)]) (obs:=_) hE Try.func13 Qi (by kernel_rfl) ho hr
theorem f13W {E:Env} {rv:Bool} (hE:Qd Try.prog 13 (.bool rv) E)
 (h:(((([1,1]:List Int).take 2)=([1,1])∧(([1,1]:List Int).take 2).length≤1000000)∧rv=true)):G Try.prog E [.code (Qc Try.prog 13)] ⟨[]++unds (Try.f13.ntmps - 0),[]⟩:=by
 obtain ⟨h1,h⟩:=h
 exact p13_start_0 hE ⟨(by decide),(yU (fv':=.clos 48 [] []) (args':=[.agg [.int .i64 0,.int .i64 0,.rsl [.int .i64 5] 0 1,.rsl [.int .i64 0] 0 1,.rsl [.int .i64 1,.int .i64 200,.int .i64 6,.int .i64 1000] 0 2,.int .i64 0,.int .i64 0,.int .i64 1],.int .i64 7]) (o1:=[]) (o2:=[0=0,0=0,0=0]) (by kernel_rfl) trivial (by kernel_rfl) ⟨rfl,rfl,rfl,trivial⟩ (u48 Buy_ok)),rfl,rfl,(Qe.le (args:=[.rsl (rowI (([1,1]:List Int).take 2)) 0 ((([1,1]:List Int).take 2).length),.rsl (rowI ([1,1])) 0 (([1,1]).length)]) (u31 (tsame_ok (([1,1]:List Int).take 2) ([1,1]) h1)) ⟨(by exact rsl_take cI (s:=1) (fun _=>rfl) (by first | omega | decide | simp)),⟨AvLe.of_eq rfl,trivial⟩⟩),rfl,trivial⟩ (AvLe.of_eq (by rw [h]; try rfl))
theorem YI:Pure Try.prog 13 [] (.bool true):=Qy Try.func13 f13b fun E hE=>f13W (rv:=true) hE ⟨⟨rfl,by decide⟩,rfl⟩
end Go.Proofs.Ytemklbioijmjiaa
namespace Go.Proofs.Ytemklbioijmjiaa
def frR (r:Rg) (w:Int):Rg:={ r with frame:=w }
def insideR (r:Rg):Prop:=∀ v,v<r.feet.length→0≤arm (QI r v).1 (QI r v).2 r.c
theorem seatsM_fr {r:Rg} {w:Int} {a b:Pt} {ph:Nat} {fl:Nat→Int→Bool}:∀ (ss:List (List Pt)) (i:Nat) (x:Int),YL (frR r w) a b ph fl ss i x=YL r a b ph fl ss i x
 | [],i,x=>rfl
 | s :: ss,i,x=>by
  simp only [YL]
  exact seatsM_fr ss (i+1) _
theorem worst_fr {r:Rg} {w:Int} {x:Nat × Nat}:QV (frR r w) x=YL r (QI r x.2).1 (QI r x.2).2 x.1 outF r.seats 0 (w*arm (QI r x.2).1 (QI r x.2).2 r.c):=by
 show YL (frR r w) (QI r x.2).1 (QI r x.2).2 x.1 outF r.seats 0 (w*arm (QI r x.2).1 (QI r x.2).2 r.c)=_
 exact seatsM_fr _ _ _
theorem worst_mono {r:Rg} {w w':Int} {x:Nat × Nat} (hw:w≤w') (h:0≤arm (QI r x.2).1 (QI r x.2).2 r.c):QV (frR r w) x≤QV (frR r w') x:=by
 rw [worst_fr,worst_fr]
 generalize arm (QI r x.2).1 (QI r x.2).2 r.c=A at h ⊢
 have e:w'*A=w*A+(w' - w)*A:=by rw [Int.sub_mul]; omega
 have:=Int.mul_nonneg (a:=w' - w) (b:=A) (by omega) h
 rw [e,qP]; omega
theorem convR_fr {r:Rg} {w v:Int} {i:Nat}:∀ (d k:Nat),Kg (frR r w) i k d=Kg (frR r v) i k d
 | 0,k=>rfl
 | d+1,k=>by
  have e:badF (frR r w) i k=badF (frR r v) i k:=rfl
  simp only [Kg]
  rw [e,convR_fr d (k+1)]
theorem convP_fr {r:Rg} {w v:Int}:∀ (d i:Nat),convP (frR r w) i d=convP (frR r v) i d
 | 0,i=>rfl
 | d+1,i=>by
  have e:Kg (frR r w) i 0 (frR r w).feet.length=Kg (frR r v) i 0 (frR r v).feet.length:=convR_fr _ _
  simp only [convP]
  rw [e,convP_fr d (i+1)]
theorem rigOk_fr {r:Rg} {v w:Int} (h:Xv (frR r v)=true) (h0:0≤w) (h1:w≤1000000):Xv (frR r w)=true:=by
 have hw:Qp w 0 1000000=true:=within_iff.2 ⟨h0,h1⟩
 have hc:Ys (frR r w)=Ys (frR r v):=convP_fr _ _
 have hs:(frR r w).seats.all (YQ (frR r w))=(frR r v).seats.all (YQ (frR r v)):=rfl
 simp only [Xv,Bool.and_eq_true] at h ⊢
 obtain ⟨hp,hq⟩:=h
 refine ⟨?_,by rw [hc]; exact hq⟩
 simp only [Xt,Bool.and_eq_true] at hp ⊢
 exact ⟨hp.1,hp.2.1,hp.2.2.1,hw,hp.2.2.2.2⟩
theorem least_mono {r:Rg} {w w':Int} (h:Xv (frR r w)=true) (h':Xv (frR r w')=true) (hw:w≤w') (hin:insideR r):(Qg (frR r w)).1≤(Qg (frR r w')).1:=by
 obtain ⟨h1,-⟩:=qZ (XK h)
 obtain ⟨-,x,hx,hxe⟩:=qZ (XK h')
 have hm:=mem_rigPV.1 hx
 rw [VN h,VN h',hxe]
 have a1:=h1 x hx
 have a2:=worst_mono (r:=r) (x:=x) hw (hin x.2 hm.2)
 show (YU (frR r w)).1≤QV (frR r w') x
 omega
theorem yx {r:Rg} {w w' s:Int} (h:Xv (frR r w)=true) (h':Xv (frR r w')=true) (hw:w≤w'):(Qm (frR r w') s).2=(Qm (frR r w) s).2∧((Qm (frR r w') s).1=true→(Qm (frR r w) s).1=true):=by
 have hm:=XK h
 have h8:=hm.ok.feet1
 have h3:=hm.ok.feet0
 have b1:=Kh hm
 have b2:=Kh (XK h')
 have f0:=hm.ok.frame0
 unfold Qm
 rw [if_pos h,if_pos h']
 by_cases hs:s<0
 · rw [if_pos hs,if_pos hs]; exact ⟨rfl,fun h=>h⟩
 · rw [if_neg hs,if_neg hs]
   refine ⟨rfl,fun hd=>?_⟩
   simp only [decide_eq_true_eq] at hd ⊢
   refine Int.le_trans ?_ hd
   obtain ⟨c1,-,-,-⟩:=b1
   have f0':0≤w:=f0
   have h3':3≤r.feet.length:=h3
   have c1':0≤(r.seats.length:Int)*r.full:=c1
   show Int.tdiv (((w+(r.seats.length:Int)*r.full)+(r.feet.length:Int)) - 1) (r.feet.length:Int)≤Int.tdiv (((w'+(r.seats.length:Int)*r.full)+(r.feet.length:Int)) - 1) (r.feet.length:Int)
   rw [Int.tdiv_eq_ediv_of_nonneg (by omega),Int.tdiv_eq_ediv_of_nonneg (by omega)]
   exact Int.ediv_le_ediv (by omega) (by omega)
end Go.Proofs.Ytemklbioijmjiaa
namespace Go.Proofs.Ytemklbioijmjiaa
open Go Ax
open Go.Proofs
theorem ordGo_len {up:List Bool→Int→Bool}:∀ (m:Nat) (s:List Bool) (out:List Int),(qF up m s out).1.length≤out.length+m
 | 0,s,out=>by simp only [qF]; omega
 | m+1,s,out=>by
  unfold qF
  split
  · rename_i p hp
    have:=ordGo_len (up:=up) m (s.set p true) (out++[(p:Int)])
    rw [List.length_append,List.length_singleton] at this
    omega
  · simp only; omega
theorem orderT_len (k:BKit) (hs:KitSmall k):(Qj k).1.length≤20:=by
 unfold Qj
 split
 · split
   · simp
   · have:=ordGo_len (up:=upB (Qk k)) (Qk k).k.parts.length (List.replicate (Qk k).k.parts.length false) []
     have h20:(Qk k).k.parts.length≤20:=hs.parts
     show (ordK (Qk k)).1.length≤20
     unfold ordK
     rw [List.length_nil] at this
     omega
 · simp
theorem f3b:Try.f3.body=some (Qc Try.prog 3):=by kernel_rfl
def f3K0 (P:Program):List Item:=kAt 400 [.code (Qc P 3)] [.b false,.stop]
def f3S0 (k:BKit) (r:Rg) (soil:Int) (i:Nat):St:=⟨([J,J,.int .i64 soil,.ptr 0 0 0,.ptr 1 0 0,J,J,.int .i64 (i:Int)]++Js 233),[⟨true,0,1,true,[.rsl (Qt k.parts) 0 k.parts.length,.int .i64 k.crane,.rsl ((Qf rowI) k.vans) 0 k.vans.length],false⟩,⟨true,0,1,true,[.rsl (rowS r.seats) 0 r.seats.length,.rsl (rowP r.feet) 0 r.feet.length,.int .i64 r.frame,.int .i64 r.c.x,.int .i64 r.c.y,.int .i64 r.c.z,.int .i64 r.empty,.int .i64 r.full],false⟩]⟩
def f3G0 (E:Env) (k:BKit) (r:Rg) (soil:Int) (i:Nat):Prop:=G Try.prog E (f3K0 Try.prog) (f3S0 k r soil i )
def f3K1 (P:Program):List Item:=kAt 400 [.code (Qc P 3)] [.b false,.b false,.stop]
def f3S1 (k:BKit) (r:Rg) (soil:Int) (i:Nat):St:=⟨([J,J,.int .i64 soil,.ptr 0 0 0,.ptr 1 0 0,J,J,J,.int .i64 (i:Int)]++Js 232),[⟨true,0,1,true,[.rsl (Qt k.parts) 0 k.parts.length,.int .i64 k.crane,.rsl ((Qf rowI) k.vans) 0 k.vans.length],false⟩,⟨true,0,1,true,[.rsl (rowS r.seats) 0 r.seats.length,.rsl (rowP r.feet) 0 r.feet.length,.int .i64 r.frame,.int .i64 r.c.x,.int .i64 r.c.y,.int .i64 r.c.z,.int .i64 r.empty,.int .i64 r.full],false⟩]⟩
def f3G1 (E:Env) (k:BKit) (r:Rg) (soil:Int) (i:Nat):Prop:=G Try.prog E (f3K1 Try.prog) (f3S1 k r soil i )
def f3K2 (P:Program):List Item:=kAt 400 [.code (Qc P 3)] [.b false,.b false,.b false,.b false,.stop]
def f3S2 (k:BKit) (r:Rg) (soil:Int) (inside:Bool) (i:Nat):St:=⟨([J,J,.int .i64 soil,.ptr 0 0 0,.ptr 1 0 0,J,J,J,J,.rsl (rowI ((Qj k).1)) 0 (((Qj k).1).length),J,.ptr 2 0 0,.bool inside,.int .i64 (i:Int)]++Js 227),[⟨true,0,1,true,[.rsl (Qt k.parts) 0 k.parts.length,.int .i64 k.crane,.rsl ((Qf rowI) k.vans) 0 k.vans.length],false⟩,⟨true,0,1,true,[.rsl (rowS r.seats) 0 r.seats.length,.rsl (rowP r.feet) 0 r.feet.length,.int .i64 r.frame,.int .i64 r.c.x,.int .i64 r.c.y,.int .i64 r.c.z,.int .i64 r.empty,.int .i64 r.full],false⟩,⟨true,0,1,true,[.rsl (rowS r.seats) 0 r.seats.length,.rsl (rowP r.feet) 0 r.feet.length,.int .i64 0,.int .i64 r.c.x,.int .i64 r.c.y,.int .i64 r.c.z,.int .i64 r.empty,.int .i64 r.full],false⟩]⟩
def f3G2 (E:Env) (k:BKit) (r:Rg) (soil:Int) (inside:Bool) (i:Nat):Prop:=G Try.prog E (f3K2 Try.prog) (f3S2 k r soil inside i )
def f3K3 (P:Program):List Item:=kAt 400 [.code (Qc P 3)] [.b false,.b false,.b false,.b false,.b false,.b false,.stop]
def f3S3 (k:BKit) (r:Rg) (soil:Int) (inside:Bool) (least:Int) (borne:Bool) (i:Nat) (v2_2:Int):St:=⟨([J,J,.int .i64 soil,.ptr 0 0 0]++jj 5 ([.rsl (rowI ((Qj k).1)) 0 (((Qj k).1).length),J,.ptr 2 0 0,.bool inside,J,J,J,.int .i64 least,J,J,J,.bool borne,.int .i64 ((Qm (⟨r.seats,r.feet,0,r.c,r.empty,r.full⟩:Rg) soil).2),.int .i64 (i:Int)]++Js 218)),[⟨true,0,1,true,[.rsl (Qt k.parts) 0 k.parts.length,.int .i64 k.crane,.rsl ((Qf rowI) k.vans) 0 k.vans.length],false⟩,⟨true,0,1,true,[.rsl (rowS r.seats) 0 r.seats.length,.rsl (rowP r.feet) 0 r.feet.length,.int .i64 r.frame,.int .i64 r.c.x,.int .i64 r.c.y,.int .i64 r.c.z,.int .i64 r.empty,.int .i64 r.full],false⟩,⟨true,0,1,true,[.rsl (rowS r.seats) 0 r.seats.length,.rsl (rowP r.feet) 0 r.feet.length,.int .i64 v2_2,.int .i64 r.c.x,.int .i64 r.c.y,.int .i64 r.c.z,.int .i64 r.empty,.int .i64 r.full],false⟩]⟩
def f3G3 (E:Env) (k:BKit) (r:Rg) (soil:Int) (inside:Bool) (least:Int) (borne:Bool) (i:Nat) (v2_2:Int):Prop:=G Try.prog E (f3K3 Try.prog) (f3S3 k r soil inside least borne i v2_2 )
theorem p3_start_0 (k:BKit) (r:Rg) (soil:Int) {E:Env} {res:AV} (hE:Qd Try.prog 3 res E) (ho:AllP [(decide ((k.parts.length:Int) > 20))=true,true=true,true=true,Qe Try.prog (.clos 13 [] []) [] (.bool true)])
 (hr:AvLe (.bool true) res):G Try.prog E [.code (Qc Try.prog 3)] ⟨[.agg [.rsl (Qt k.parts) 0 k.parts.length,.int .i64 k.crane,.rsl ((Qf rowI) k.vans) 0 k.vans.length],.agg [.rsl (rowS r.seats) 0 r.seats.length,.rsl (rowP r.feet) 0 r.feet.length,.int .i64 r.frame,.int .i64 r.c.x,.int .i64 r.c.y,.int .i64 r.c.z,.int .i64 r.empty,.int .i64 r.full],.int .i64 soil]++unds (Try.f3.ntmps - 3),[]⟩ :=
 Qb (n:=400) (evs:=[.b true,.b true,.b true,.v (.bool true)]) (obs:=_) hE Try.func3 Qi (by kernel_rfl) ho hr
theorem p3_start_1 (k:BKit) (r:Rg) (soil:Int) {E:Env} {res:AV} (hE:Qd Try.prog 3 res E) (ho:AllP [(decide ((k.parts.length:Int) > 20))=false,(decide ((k.vans.length:Int) > 10))=true,true=true,Qe Try.prog (.clos 13 [] []) [] (.bool true)])
 (hr:AvLe (.bool true) res):G Try.prog E [.code (Qc Try.prog 3)] ⟨[.agg [.rsl (Qt k.parts) 0 k.parts.length,.int .i64 k.crane,.rsl ((Qf rowI) k.vans) 0 k.vans.length],.agg [.rsl (rowS r.seats) 0 r.seats.length,.rsl (rowP r.feet) 0 r.feet.length,.int .i64 r.frame,.int .i64 r.c.x,.int .i64 r.c.y,.int .i64 r.c.z,.int .i64 r.empty,.int .i64 r.full],.int .i64 soil]++unds (Try.f3.ntmps - 3),[]⟩ :=
 Qb (n:=400) (evs:=[.b false,.b true,.b true,.v (.bool true)]) (obs:=_) hE Try.func3 Qi (by kernel_rfl) ho hr
theorem p3_start_2 (k:BKit) (r:Rg) (soil:Int) {E:Env} {res:AV} (hE:Qd Try.prog 3 res E) (ho:AllP [(decide ((k.parts.length:Int) > 20))=false,(decide ((k.vans.length:Int) > 10))=false,Qe Try.prog (.clos 12 [] []) [.agg [.rsl (rowS r.seats) 0 r.seats.length,.rsl (rowP r.feet) 0 r.feet.length,.int .i64 r.frame,.int .i64 r.c.x,.int .i64 r.c.y,.int .i64 r.c.z,.int .i64 r.empty,.int .i64 r.full]] (.bool (farB r)),(farB r)=true,Qe Try.prog (.clos 13 [] []) [] (.bool true)])
 (hr:AvLe (.bool true) res):G Try.prog E [.code (Qc Try.prog 3)] ⟨[.agg [.rsl (Qt k.parts) 0 k.parts.length,.int .i64 k.crane,.rsl ((Qf rowI) k.vans) 0 k.vans.length],.agg [.rsl (rowS r.seats) 0 r.seats.length,.rsl (rowP r.feet) 0 r.feet.length,.int .i64 r.frame,.int .i64 r.c.x,.int .i64 r.c.y,.int .i64 r.c.z,.int .i64 r.empty,.int .i64 r.full],.int .i64 soil]++unds (Try.f3.ntmps - 3),[]⟩ :=
 Qb (n:=400) (evs:=[.b false,.b false,.v (.bool (farB r)),.b true,.v (.bool true)]) (obs:=_) hE Try.func3 Qi (by kernel_rfl) ho hr
theorem p3_start_3 (k:BKit) (r:Rg) (soil:Int) {E:Env} {rv:AV} (hE:Qd Try.prog 3 rv E) (ho:AllP [(decide ((k.parts.length:Int) > 20))=false,(decide ((k.vans.length:Int) > 10))=false,Qe Try.prog (.clos 12 [] []) [.agg [.rsl (rowS r.seats) 0 r.seats.length,.rsl (rowP r.feet) 0 r.feet.length,.int .i64 r.frame,.int .i64 r.c.x,.int .i64 r.c.y,.int .i64 r.c.z,.int .i64 r.empty,.int .i64 r.full]] (.bool (farB r)),(farB r)=false])
 (hg:G Try.prog E (f3K0 Try.prog) ⟨([J,J,.int .i64 soil,.ptr 0 0 0,.ptr 1 0 0,J,J,.int .i64 0]++Js 233),[⟨true,0,1,true,[.rsl (Qt k.parts) 0 k.parts.length,.int .i64 k.crane,.rsl ((Qf rowI) k.vans) 0 k.vans.length],false⟩,⟨true,0,1,true,[.rsl (rowS r.seats) 0 r.seats.length,.rsl (rowP r.feet) 0 r.feet.length,.int .i64 r.frame,.int .i64 r.c.x,.int .i64 r.c.y,.int .i64 r.c.z,.int .i64 r.empty,.int .i64 r.full],false⟩]⟩):G Try.prog E [.code (Qc Try.prog 3)] ⟨[.agg [.rsl (Qt k.parts) 0 k.parts.length,.int .i64 k.crane,.rsl ((Qf rowI) k.vans) 0 k.vans.length],.agg [.rsl (rowS r.seats) 0 r.seats.length,.rsl (rowP r.feet) 0 r.feet.length,.int .i64 r.frame,.int .i64 r.c.x,.int .i64 r.c.y,.int .i64 r.c.z,.int .i64 r.empty,.int .i64 r.full],.int .i64 soil]++unds (Try.f3.ntmps - 3),[]⟩ :=
 Ql (n:=400) (ds:=[]) (cs:=[]) (live:=[2,3,4,7]) (m:=2) (evs:=[.b false,.b false,.v (.bool (farB r)),.b false,.stop]) (obs:=_) hE.2.1 (hE.nogh _) Qi (by kernel_rfl) ho hg
theorem f3W (k:BKit) (r:Rg) (soil:Int) {E:Env} {rv:Bool} (hE:Qd Try.prog 3 (.bool rv) E)
 (h:(((k.parts.length:Int) > 20→rv=true)∧(¬ ((k.parts.length:Int) > 20)→(((k.vans.length:Int) > 10→rv=true)∧(¬ ((k.vans.length:Int) > 10)→(((farB r)=true→rv=true)∧((farB r)=false→f3G0 E k r soil 0))))))):G Try.prog E [.code (Qc Try.prog 3)] ⟨[.agg [.rsl (Qt k.parts) 0 k.parts.length,.int .i64 k.crane,.rsl ((Qf rowI) k.vans) 0 k.vans.length],.agg [.rsl (rowS r.seats) 0 r.seats.length,.rsl (rowP r.feet) 0 r.feet.length,.int .i64 r.frame,.int .i64 r.c.x,.int .i64 r.c.y,.int .i64 r.c.z,.int .i64 r.empty,.int .i64 r.full],.int .i64 soil]++unds (Try.f3.ntmps - 3),[]⟩:=by
 rcases bft (decide ((k.parts.length:Int) > 20)) with hc0 | hc0
 · have h:=h.1 (odt hc0)
   exact p3_start_0 k r soil hE ⟨hc0,rfl,rfl,(u13 (YI )),trivial⟩ (AvLe.of_eq (by rw [h]; try rfl))
 · have h:=h.2 (odf hc0)
   rcases bft (decide ((k.vans.length:Int) > 10)) with hc1 | hc1
   · have h:=h.1 (odt hc1)
     exact p3_start_1 k r soil hE ⟨hc0,hc1,rfl,(u13 (YI )),trivial⟩ (AvLe.of_eq (by rw [h]; try rfl))
   · have h:=h.2 (odf hc1)
     rcases bft (farB r) with hc2 | hc2
     · have h:=h.1 hc2
       exact p3_start_2 k r soil hE ⟨hc0,hc1,(u12 (Far_ok r)),hc2,(u13 (YI )),trivial⟩ (AvLe.of_eq (by rw [h]; try rfl))
     · have h:=h.2 hc2
       exact p3_start_3 k r soil hE ⟨hc0,hc1,(u12 (Far_ok r)),hc2,trivial⟩ h
theorem p3_0_0 (k:BKit) (r:Rg) (soil:Int) (i:Nat) (be:BPart) {E:Env} {res:AV} (hE:Qd Try.prog 3 res E) (ho:AllP [(decide ((i:Int)<(k.parts.length:Int)))=true,0≤(i:Int)∧(i:Int)<(k.parts.length:Int),((Qt k.parts).drop ((0+(Int.toNat (i:Int))*4)+3)).take 1=[.rsl (rowI be.needs) 0 be.needs.length],(decide ((be.needs.length:Int) > 20))=true,Qe Try.prog (.clos 13 [] []) [] (.bool true)])
 (hr:AvLe (.bool true) res):G Try.prog E (f3K0 Try.prog) (f3S0 k r soil i ) :=
 Qb (n:=400) (evs:=[.b true,.auto,.ld (.rsl (rowI be.needs) 0 be.needs.length),.b true,.v (.bool true)]) (obs:=_) hE Try.func3 Qi (by kernel_rfl) ho hr
theorem p3_0_1 (k:BKit) (r:Rg) (soil:Int) (i:Nat) (be:BPart) {E:Env} {rv:AV} (hE:Qd Try.prog 3 rv E) (ho:AllP [(decide ((i:Int)<(k.parts.length:Int)))=true,0≤(i:Int)∧(i:Int)<(k.parts.length:Int),((Qt k.parts).drop ((0+(Int.toNat (i:Int))*4)+3)).take 1=[.rsl (rowI be.needs) 0 be.needs.length],(decide ((be.needs.length:Int) > 20))=false,InR .i64 ((i:Int)+1)])
 (hg:G Try.prog E (f3K0 Try.prog) ⟨([J,J,.int .i64 soil,.ptr 0 0 0,.ptr 1 0 0,J,J,.int .i64 ((i:Int)+1)]++Js 233),[⟨true,0,1,true,[.rsl (Qt k.parts) 0 k.parts.length,.int .i64 k.crane,.rsl ((Qf rowI) k.vans) 0 k.vans.length],false⟩,⟨true,0,1,true,[.rsl (rowS r.seats) 0 r.seats.length,.rsl (rowP r.feet) 0 r.feet.length,.int .i64 r.frame,.int .i64 r.c.x,.int .i64 r.c.y,.int .i64 r.c.z,.int .i64 r.empty,.int .i64 r.full],false⟩]⟩):G Try.prog E (f3K0 Try.prog) (f3S0 k r soil i ) :=
 Ql (n:=400) (ds:=[]) (cs:=[]) (live:=[2,3,4,7]) (m:=2) (evs:=[.b true,.auto,.ld (.rsl (rowI be.needs) 0 be.needs.length),.b false,.stop]) (obs:=_) hE.2.1 (hE.nogh _) Qi (by kernel_rfl) ho hg
theorem p3_0_2 (k:BKit) (r:Rg) (soil:Int) (i:Nat) {E:Env} {rv:AV} (hE:Qd Try.prog 3 rv E) (ho:AllP [(decide ((i:Int)<(k.parts.length:Int)))=false])
 (hg:G Try.prog E (f3K1 Try.prog) ⟨([J,J,.int .i64 soil,.ptr 0 0 0,.ptr 1 0 0,J,J,J,.int .i64 0]++Js 232),[⟨true,0,1,true,[.rsl (Qt k.parts) 0 k.parts.length,.int .i64 k.crane,.rsl ((Qf rowI) k.vans) 0 k.vans.length],false⟩,⟨true,0,1,true,[.rsl (rowS r.seats) 0 r.seats.length,.rsl (rowP r.feet) 0 r.feet.length,.int .i64 r.frame,.int .i64 r.c.x,.int .i64 r.c.y,.int .i64 r.c.z,.int .i64 r.empty,.int .i64 r.full],false⟩]⟩):G Try.prog E (f3K0 Try.prog) (f3S0 k r soil i ) :=
 Ql (n:=400) (ds:=[]) (cs:=[]) (live:=[2,3,4,8]) (m:=2) (evs:=[.b false,.stop]) (obs:=_) hE.2.1 (hE.nogh _) Qi (by kernel_rfl) ho hg
theorem f3W0 (k:BKit) (r:Rg) (soil:Int) (i:Nat) {E:Env} {rv:Bool} (hE:Qd Try.prog 3 (.bool rv) E)
 (h:(((i:Int)<(k.parts.length:Int)→(∃ be:BPart,k.parts[i]?=some be∧(((be.needs.length:Int) > 20→rv=true)∧(¬ ((be.needs.length:Int) > 20)→((I6 ((i:Int)+1))∧f3G0 E k r soil (i+1))))))∧(¬ ((i:Int)<(k.parts.length:Int))→f3G1 E k r soil 0))):f3G0 E k r soil i:=by
 rcases bft (decide ((i:Int)<(k.parts.length:Int))) with hc0 | hc0
 · have h:=h.1 (odt hc0)
   obtain ⟨be,h1,h⟩:=h
   rcases bft (decide ((be.needs.length:Int) > 20)) with hc1 | hc1
   · have h:=h.1 (odt hc1)
     exact p3_0_0 k r soil i be hE ⟨hc0,(Qr h1),(rp cBp 4 3 1 h1),hc1,(u13 (YI )),trivial⟩ (AvLe.of_eq (by rw [h]; try rfl))
   · have h:=h.2 (odf hc1)
     obtain ⟨q5_2,h⟩:=h
     exact p3_0_1 k r soil i be hE ⟨hc0,(Qr h1),(rp cBp 4 3 1 h1),hc1,q5_2,trivial⟩ h
 · have h:=h.2 (odf hc0)
   exact p3_0_2 k r soil i hE ⟨hc0,trivial⟩ h
theorem p3_1_0 (k:BKit) (r:Rg) (soil:Int) (i:Nat) (le:(List Int)) {E:Env} {res:AV} (hE:Qd Try.prog 3 res E) (ho:AllP [(decide ((i:Int)<(k.vans.length:Int)))=true,0≤(i:Int)∧(i:Int)<(k.vans.length:Int),(((Qf rowI) k.vans).drop (0+(Int.toNat (i:Int))*1)).take 1=[.rsl (rowI le) 0 le.length],(decide ((le.length:Int) > 30))=true,Qe Try.prog (.clos 13 [] []) [] (.bool true)])
 (hr:AvLe (.bool true) res):G Try.prog E (f3K1 Try.prog) (f3S1 k r soil i ) :=
 Qb (n:=400) (evs:=[.b true,.auto,.ld (.rsl (rowI le) 0 le.length),.b true,.v (.bool true)]) (obs:=_) hE Try.func3 Qi (by kernel_rfl) ho hr
theorem p3_1_1 (k:BKit) (r:Rg) (soil:Int) (i:Nat) (le:(List Int)) {E:Env} {rv:AV} (hE:Qd Try.prog 3 rv E) (ho:AllP [(decide ((i:Int)<(k.vans.length:Int)))=true,0≤(i:Int)∧(i:Int)<(k.vans.length:Int),(((Qf rowI) k.vans).drop (0+(Int.toNat (i:Int))*1)).take 1=[.rsl (rowI le) 0 le.length],(decide ((le.length:Int) > 30))=false,InR .i64 ((i:Int)+1)])
 (hg:G Try.prog E (f3K1 Try.prog) ⟨([J,J,.int .i64 soil,.ptr 0 0 0,.ptr 1 0 0,J,J,J,.int .i64 ((i:Int)+1)]++Js 232),[⟨true,0,1,true,[.rsl (Qt k.parts) 0 k.parts.length,.int .i64 k.crane,.rsl ((Qf rowI) k.vans) 0 k.vans.length],false⟩,⟨true,0,1,true,[.rsl (rowS r.seats) 0 r.seats.length,.rsl (rowP r.feet) 0 r.feet.length,.int .i64 r.frame,.int .i64 r.c.x,.int .i64 r.c.y,.int .i64 r.c.z,.int .i64 r.empty,.int .i64 r.full],false⟩]⟩):G Try.prog E (f3K1 Try.prog) (f3S1 k r soil i ) :=
 Ql (n:=400) (ds:=[]) (cs:=[]) (live:=[2,3,4,8]) (m:=2) (evs:=[.b true,.auto,.ld (.rsl (rowI le) 0 le.length),.b false,.stop]) (obs:=_) hE.2.1 (hE.nogh _) Qi (by kernel_rfl) ho hg
theorem p3_1_2 (k:BKit) (r:Rg) (soil:Int) (i:Nat) {E:Env} {res:AV} (hE:Qd Try.prog 3 res E) (ho:AllP [(decide ((i:Int)<(k.vans.length:Int)))=false,Qe Try.prog (.clos 14 [] []) [.agg [.rsl (Qt k.parts) 0 k.parts.length,.int .i64 k.crane,.rsl ((Qf rowI) k.vans) 0 k.vans.length]] (.tup [.rsl (rowI ((Qj k).1)) 0 (((Qj k).1).length),.int .i64 ((Qj k).2)]),Qe Try.prog (.clos 15 [] []) [.agg [.rsl (rowS r.seats) 0 r.seats.length,.rsl (rowP r.feet) 0 r.feet.length,.int .i64 r.frame,.int .i64 r.c.x,.int .i64 r.c.y,.int .i64 r.c.z,.int .i64 r.empty,.int .i64 r.full]] (.agg [.rsl (rowS r.seats) 0 r.seats.length,.rsl (rowP r.feet) 0 r.feet.length,.int .i64 r.frame,.int .i64 r.c.x,.int .i64 r.c.y,.int .i64 r.c.z,.int .i64 r.empty,.int .i64 r.full]),8≤8,3≤8,((Qj k).2 != 0)=true,true=true,Qe Try.prog (.clos 13 [] []) [] (.bool true)])
 (hr:AvLe (.bool true) res):G Try.prog E (f3K1 Try.prog) (f3S1 k r soil i ) :=
 Qb (n:=400) (evs:=[.b false,.v (.tup [.rsl (rowI ((Qj k).1)) 0 (((Qj k).1).length),.int .i64 ((Qj k).2)]),.v (.agg [.rsl (rowS r.seats) 0 r.seats.length,.rsl (rowP r.feet) 0 r.feet.length,.int .i64 r.frame,.int .i64 r.c.x,.int .i64 r.c.y,.int .i64 r.c.z,.int .i64 r.empty,.int .i64 r.full]),.b true,.b true,.v (.bool true)]) (obs:=_) hE Try.func3 Qi (by kernel_rfl) ho hr
theorem p3_1_3 (k:BKit) (r:Rg) (soil:Int) (i:Nat) {E:Env} {res:AV} (hE:Qd Try.prog 3 res E) (ho:AllP [(decide ((i:Int)<(k.vans.length:Int)))=false,Qe Try.prog (.clos 14 [] []) [.agg [.rsl (Qt k.parts) 0 k.parts.length,.int .i64 k.crane,.rsl ((Qf rowI) k.vans) 0 k.vans.length]] (.tup [.rsl (rowI ((Qj k).1)) 0 (((Qj k).1).length),.int .i64 ((Qj k).2)]),Qe Try.prog (.clos 15 [] []) [.agg [.rsl (rowS r.seats) 0 r.seats.length,.rsl (rowP r.feet) 0 r.feet.length,.int .i64 r.frame,.int .i64 r.c.x,.int .i64 r.c.y,.int .i64 r.c.z,.int .i64 r.empty,.int .i64 r.full]] (.agg [.rsl (rowS r.seats) 0 r.seats.length,.rsl (rowP r.feet) 0 r.feet.length,.int .i64 r.frame,.int .i64 r.c.x,.int .i64 r.c.y,.int .i64 r.c.z,.int .i64 r.empty,.int .i64 r.full]),8≤8,3≤8,((Qj k).2 != 0)=false,Qe Try.prog (.clos 16 [] []) [.agg [.rsl (rowS r.seats) 0 r.seats.length,.rsl (rowP r.feet) 0 r.feet.length,.int .i64 0,.int .i64 r.c.x,.int .i64 r.c.y,.int .i64 r.c.z,.int .i64 r.empty,.int .i64 r.full]] (.int .i64 (Xb (⟨r.seats,r.feet,0,r.c,r.empty,r.full⟩:Rg))),((Xb (⟨r.seats,r.feet,0,r.c,r.empty,r.full⟩:Rg)) != 0)=true,Qe Try.prog (.clos 13 [] []) [] (.bool true)])
 (hr:AvLe (.bool true) res):G Try.prog E (f3K1 Try.prog) (f3S1 k r soil i ) :=
 Qb (n:=400) (evs:=[.b false,.v (.tup [.rsl (rowI ((Qj k).1)) 0 (((Qj k).1).length),.int .i64 ((Qj k).2)]),.v (.agg [.rsl (rowS r.seats) 0 r.seats.length,.rsl (rowP r.feet) 0 r.feet.length,.int .i64 r.frame,.int .i64 r.c.x,.int .i64 r.c.y,.int .i64 r.c.z,.int .i64 r.empty,.int .i64 r.full]),.b false,.v (.int .i64 (Xb (⟨r.seats,r.feet,0,r.c,r.empty,r.full⟩:Rg))),.b true,.v (.bool true)]) (obs:=_) hE Try.func3 Qi (by kernel_rfl) ho hr
theorem p3_1_4 (k:BKit) (r:Rg) (soil:Int) (i:Nat) {E:Env} {rv:AV} (hE:Qd Try.prog 3 rv E) (ho:AllP [(decide ((i:Int)<(k.vans.length:Int)))=false,Qe Try.prog (.clos 14 [] []) [.agg [.rsl (Qt k.parts) 0 k.parts.length,.int .i64 k.crane,.rsl ((Qf rowI) k.vans) 0 k.vans.length]] (.tup [.rsl (rowI ((Qj k).1)) 0 (((Qj k).1).length),.int .i64 ((Qj k).2)]),Qe Try.prog (.clos 15 [] []) [.agg [.rsl (rowS r.seats) 0 r.seats.length,.rsl (rowP r.feet) 0 r.feet.length,.int .i64 r.frame,.int .i64 r.c.x,.int .i64 r.c.y,.int .i64 r.c.z,.int .i64 r.empty,.int .i64 r.full]] (.agg [.rsl (rowS r.seats) 0 r.seats.length,.rsl (rowP r.feet) 0 r.feet.length,.int .i64 r.frame,.int .i64 r.c.x,.int .i64 r.c.y,.int .i64 r.c.z,.int .i64 r.empty,.int .i64 r.full]),8≤8,3≤8,((Qj k).2 != 0)=false,Qe Try.prog (.clos 16 [] []) [.agg [.rsl (rowS r.seats) 0 r.seats.length,.rsl (rowP r.feet) 0 r.feet.length,.int .i64 0,.int .i64 r.c.x,.int .i64 r.c.y,.int .i64 r.c.z,.int .i64 r.empty,.int .i64 r.full]] (.int .i64 (Xb (⟨r.seats,r.feet,0,r.c,r.empty,r.full⟩:Rg))),((Xb (⟨r.seats,r.feet,0,r.c,r.empty,r.full⟩:Rg)) != 0)=false])
 (hg:G Try.prog E (f3K2 Try.prog) ⟨([J,J,.int .i64 soil,.ptr 0 0 0,.ptr 1 0 0,J,J,J,J,.rsl (rowI ((Qj k).1)) 0 (((Qj k).1).length),J,.ptr 2 0 0,.bool true,.int .i64 0]++Js 227),[⟨true,0,1,true,[.rsl (Qt k.parts) 0 k.parts.length,.int .i64 k.crane,.rsl ((Qf rowI) k.vans) 0 k.vans.length],false⟩,⟨true,0,1,true,[.rsl (rowS r.seats) 0 r.seats.length,.rsl (rowP r.feet) 0 r.feet.length,.int .i64 r.frame,.int .i64 r.c.x,.int .i64 r.c.y,.int .i64 r.c.z,.int .i64 r.empty,.int .i64 r.full],false⟩,⟨true,0,1,true,[.rsl (rowS r.seats) 0 r.seats.length,.rsl (rowP r.feet) 0 r.feet.length,.int .i64 0,.int .i64 r.c.x,.int .i64 r.c.y,.int .i64 r.c.z,.int .i64 r.empty,.int .i64 r.full],false⟩]⟩):G Try.prog E (f3K1 Try.prog) (f3S1 k r soil i ) :=
 Ql (n:=400) (ds:=[]) (cs:=[]) (live:=[2,3,4,9,11,12,13]) (m:=3) (evs:=[.b false,.v (.tup [.rsl (rowI ((Qj k).1)) 0 (((Qj k).1).length),.int .i64 ((Qj k).2)]),.v (.agg [.rsl (rowS r.seats) 0 r.seats.length,.rsl (rowP r.feet) 0 r.feet.length,.int .i64 r.frame,.int .i64 r.c.x,.int .i64 r.c.y,.int .i64 r.c.z,.int .i64 r.empty,.int .i64 r.full]),.b false,.v (.int .i64 (Xb (⟨r.seats,r.feet,0,r.c,r.empty,r.full⟩:Rg))),.b false,.stop]) (obs:=_) hE.2.1 (hE.nogh _) Qi (by kernel_rfl) ho hg
theorem f3W1 (k:BKit) (r:Rg) (soil:Int) (i:Nat) {E:Env} {rv:Bool} (hE:Qd Try.prog 3 (.bool rv) E)
 (h:(((i:Int)<(k.vans.length:Int)→(∃ le:(List Int),k.vans[i]?=some le∧(((le.length:Int) > 30→rv=true)∧(¬ ((le.length:Int) > 30)→((I6 ((i:Int)+1))∧f3G1 E k r soil (i+1))))))∧(¬ ((i:Int)<(k.vans.length:Int))→((KitSmall k)∧((RigSmall r)∧((¬ ((Qj k).2=0)→rv=true)∧((Qj k).2=0→((RigSmall (⟨r.seats,r.feet,0,r.c,r.empty,r.full⟩:Rg))∧((¬ ((Xb (⟨r.seats,r.feet,0,r.c,r.empty,r.full⟩:Rg))=0)→rv=true)∧((Xb (⟨r.seats,r.feet,0,r.c,r.empty,r.full⟩:Rg))=0→f3G2 E k r soil true 0)))))))))):f3G1 E k r soil i:=by
 rcases bft (decide ((i:Int)<(k.vans.length:Int))) with hc0 | hc0
 · have h:=h.1 (odt hc0)
   obtain ⟨le,h1,h⟩:=h
   rcases bft (decide ((le.length:Int) > 30)) with hc1 | hc1
   · have h:=h.1 (odt hc1)
     exact p3_1_0 k r soil i le hE ⟨hc0,(Qr h1),(rp (cLs rowI) 1 0 1 h1),hc1,(u13 (YI )),trivial⟩ (AvLe.of_eq (by rw [h]; try rfl))
   · have h:=h.2 (odf hc1)
     obtain ⟨q5_2,h⟩:=h
     exact p3_1_1 k r soil i le hE ⟨hc0,(Qr h1),(rp (cLs rowI) 1 0 1 h1),hc1,q5_2,trivial⟩ h
 · have h:=h.2 (odf hc0)
   obtain ⟨h1,h⟩:=h
   obtain ⟨h2,h⟩:=h
   rcases bft ((Qj k).2 != 0) with hc1 | hc1
   · have h:=h.1 (bneT hc1)
     exact p3_1_2 k r soil i hE ⟨hc0,(u14 (Kk k h1)),(u15 (Copy_ok r h2)),(by decide),(by decide),hc1,rfl,(u13 (YI )),trivial⟩ (AvLe.of_eq (by rw [h]; try rfl))
   · have h:=h.2 (bneF hc1)
     obtain ⟨h3,h⟩:=h
     rcases bft ((Xb (⟨r.seats,r.feet,0,r.c,r.empty,r.full⟩:Rg)) != 0) with hc2 | hc2
     · have h:=h.1 (bneT hc2)
       exact p3_1_3 k r soil i hE ⟨hc0,(u14 (Kk k h1)),(u15 (Copy_ok r h2)),(by decide),(by decide),hc1,(u16 (WE (⟨r.seats,r.feet,0,r.c,r.empty,r.full⟩:Rg) h3)),hc2,(u13 (YI )),trivial⟩ (AvLe.of_eq (by rw [h]; try rfl))
     · have h:=h.2 (bneF hc2)
       exact p3_1_4 k r soil i hE ⟨hc0,(u14 (Kk k h1)),(u15 (Copy_ok r h2)),(by decide),(by decide),hc1,(u16 (WE (⟨r.seats,r.feet,0,r.c,r.empty,r.full⟩:Rg) h3)),hc2,trivial⟩ h
theorem p3_2_0 (k:BKit) (r:Rg) (soil:Int) (inside:Bool) (i:Nat) (pe:Pt) (pe1:Pt) {E:Env} {rv:AV} (hE:Qd Try.prog 3 rv E) (ho:AllP [(decide ((i:Int)<(r.feet.length:Int)))=true,0≤(i:Int)∧(i:Int)<(r.feet.length:Int),((rowP r.feet).drop (0+(Int.toNat (i:Int))*3)).take 3=[.int .i64 pe.x,.int .i64 pe.y,.int .i64 pe.z],InR .i64 ((i:Int)+1),(r.feet.length:Int) ≠ 0,0≤(Int.tmod ((i:Int)+1) (r.feet.length:Int))∧(Int.tmod ((i:Int)+1) (r.feet.length:Int))<(r.feet.length:Int),((rowP r.feet).drop (0+(Int.toNat (Int.tmod ((i:Int)+1) (r.feet.length:Int)))*3)).take 3=[.int .i64 pe1.x,.int .i64 pe1.y,.int .i64 pe1.z],3≤3,3≤3,inside=true,InR .i64 (pe1.x - pe.x),InR .i64 (r.c.y - pe.y),InR .i64 ((pe1.x - pe.x)*(r.c.y - pe.y)),InR .i64 (pe1.y - pe.y),InR .i64 (r.c.x - pe.x),InR .i64 ((pe1.y - pe.y)*(r.c.x - pe.x)),InR .i64 (((pe1.x - pe.x)*(r.c.y - pe.y)) - ((pe1.y - pe.y)*(r.c.x - pe.x))),InR .i64 ((i:Int)+1)])
 (hg:G Try.prog E (f3K2 Try.prog) ⟨([J,J,.int .i64 soil,.ptr 0 0 0,.ptr 1 0 0,J,J,J,J,.rsl (rowI ((Qj k).1)) 0 (((Qj k).1).length),J,.ptr 2 0 0,.bool (decide ((((pe1.x - pe.x)*(r.c.y - pe.y)) - ((pe1.y - pe.y)*(r.c.x - pe.x)))≥0)),.int .i64 ((i:Int)+1)]++Js 227),[⟨true,0,1,true,[.rsl (Qt k.parts) 0 k.parts.length,.int .i64 k.crane,.rsl ((Qf rowI) k.vans) 0 k.vans.length],false⟩,⟨true,0,1,true,[.rsl (rowS r.seats) 0 r.seats.length,.rsl (rowP r.feet) 0 r.feet.length,.int .i64 r.frame,.int .i64 r.c.x,.int .i64 r.c.y,.int .i64 r.c.z,.int .i64 r.empty,.int .i64 r.full],false⟩,⟨true,0,1,true,[.rsl (rowS r.seats) 0 r.seats.length,.rsl (rowP r.feet) 0 r.feet.length,.int .i64 0,.int .i64 r.c.x,.int .i64 r.c.y,.int .i64 r.c.z,.int .i64 r.empty,.int .i64 r.full],false⟩]⟩):G Try.prog E (f3K2 Try.prog) (f3S2 k r soil inside i ) :=
 Ql (n:=400) (ds:=[]) (cs:=[]) (live:=[2,3,4,9,11,12,13]) (m:=3) (evs:=[.b true,.auto,.ld (.agg [.int .i64 pe.x,.int .i64 pe.y,.int .i64 pe.z]),.auto,.auto,.ld (.agg [.int .i64 pe1.x,.int .i64 pe1.y,.int .i64 pe1.z]),.b true,.stop]) (obs:=_) hE.2.1 (hE.nogh _) Qi (by kernel_rfl) ho hg
theorem p3_2_1 (k:BKit) (r:Rg) (soil:Int) (inside:Bool) (i:Nat) (pe:Pt) (pe1:Pt) {E:Env} {rv:AV} (hE:Qd Try.prog 3 rv E) (ho:AllP [(decide ((i:Int)<(r.feet.length:Int)))=true,0≤(i:Int)∧(i:Int)<(r.feet.length:Int),((rowP r.feet).drop (0+(Int.toNat (i:Int))*3)).take 3=[.int .i64 pe.x,.int .i64 pe.y,.int .i64 pe.z],InR .i64 ((i:Int)+1),(r.feet.length:Int) ≠ 0,0≤(Int.tmod ((i:Int)+1) (r.feet.length:Int))∧(Int.tmod ((i:Int)+1) (r.feet.length:Int))<(r.feet.length:Int),((rowP r.feet).drop (0+(Int.toNat (Int.tmod ((i:Int)+1) (r.feet.length:Int)))*3)).take 3=[.int .i64 pe1.x,.int .i64 pe1.y,.int .i64 pe1.z],3≤3,3≤3,inside=false,InR .i64 ((i:Int)+1)])
 (hg:G Try.prog E (f3K2 Try.prog) ⟨([J,J,.int .i64 soil,.ptr 0 0 0,.ptr 1 0 0,J,J,J,J,.rsl (rowI ((Qj k).1)) 0 (((Qj k).1).length),J,.ptr 2 0 0,.bool false,.int .i64 ((i:Int)+1)]++Js 227),[⟨true,0,1,true,[.rsl (Qt k.parts) 0 k.parts.length,.int .i64 k.crane,.rsl ((Qf rowI) k.vans) 0 k.vans.length],false⟩,⟨true,0,1,true,[.rsl (rowS r.seats) 0 r.seats.length,.rsl (rowP r.feet) 0 r.feet.length,.int .i64 r.frame,.int .i64 r.c.x,.int .i64 r.c.y,.int .i64 r.c.z,.int .i64 r.empty,.int .i64 r.full],false⟩,⟨true,0,1,true,[.rsl (rowS r.seats) 0 r.seats.length,.rsl (rowP r.feet) 0 r.feet.length,.int .i64 0,.int .i64 r.c.x,.int .i64 r.c.y,.int .i64 r.c.z,.int .i64 r.empty,.int .i64 r.full],false⟩]⟩):G Try.prog E (f3K2 Try.prog) (f3S2 k r soil inside i ) :=
 Ql (n:=400) (ds:=[]) (cs:=[]) (live:=[2,3,4,9,11,12,13]) (m:=3) (evs:=[.b true,.auto,.ld (.agg [.int .i64 pe.x,.int .i64 pe.y,.int .i64 pe.z]),.auto,.auto,.ld (.agg [.int .i64 pe1.x,.int .i64 pe1.y,.int .i64 pe1.z]),.b false,.stop]) (obs:=_) hE.2.1 (hE.nogh _) Qi (by kernel_rfl) ho hg
theorem p3_2_2 (k:BKit) (r:Rg) (soil:Int) (inside:Bool) (i:Nat) {E:Env} {res:AV} (hE:Qd Try.prog 3 res E) (ho:AllP [(decide ((i:Int)<(r.feet.length:Int)))=false,Qe Try.prog (.clos 17 [] []) [.agg [.rsl (rowS r.seats) 0 r.seats.length,.rsl (rowP r.feet) 0 r.feet.length,.int .i64 0,.int .i64 r.c.x,.int .i64 r.c.y,.int .i64 r.c.z,.int .i64 r.empty,.int .i64 r.full]] (.tup [.int .i64 ((Qg (⟨r.seats,r.feet,0,r.c,r.empty,r.full⟩:Rg)).1),.int .i64 ((Qg (⟨r.seats,r.feet,0,r.c,r.empty,r.full⟩:Rg)).2.1),.int .i64 ((Qg (⟨r.seats,r.feet,0,r.c,r.empty,r.full⟩:Rg)).2.2.1),.int .i64 ((Qg (⟨r.seats,r.feet,0,r.c,r.empty,r.full⟩:Rg)).2.2.2)]),Qe Try.prog (.clos 18 [] []) [.agg [.rsl (rowS r.seats) 0 r.seats.length,.rsl (rowP r.feet) 0 r.feet.length,.int .i64 0,.int .i64 r.c.x,.int .i64 r.c.y,.int .i64 r.c.z,.int .i64 r.empty,.int .i64 r.full],.int .i64 soil] (.tup [.bool ((Qm (⟨r.seats,r.feet,0,r.c,r.empty,r.full⟩:Rg) soil).1),.int .i64 ((Qm (⟨r.seats,r.feet,0,r.c,r.empty,r.full⟩:Rg) soil).2)]),((Qg (⟨r.seats,r.feet,0,r.c,r.empty,r.full⟩:Rg)).2.2.2 != 0)=true,true=true])
 (hr:AvLe (.bool false) res):G Try.prog E (f3K2 Try.prog) (f3S2 k r soil inside i ) :=
 Qb (n:=400) (evs:=[.b false,.v (.tup [.int .i64 ((Qg (⟨r.seats,r.feet,0,r.c,r.empty,r.full⟩:Rg)).1),.int .i64 ((Qg (⟨r.seats,r.feet,0,r.c,r.empty,r.full⟩:Rg)).2.1),.int .i64 ((Qg (⟨r.seats,r.feet,0,r.c,r.empty,r.full⟩:Rg)).2.2.1),.int .i64 ((Qg (⟨r.seats,r.feet,0,r.c,r.empty,r.full⟩:Rg)).2.2.2)]),.v (.tup [.bool ((Qm (⟨r.seats,r.feet,0,r.c,r.empty,r.full⟩:Rg) soil).1),.int .i64 ((Qm (⟨r.seats,r.feet,0,r.c,r.empty,r.full⟩:Rg) soil).2)]),.b true,.b true]) (obs:=_) hE Try.func3 Qi (by kernel_rfl) ho hr
theorem p3_2_3 (k:BKit) (r:Rg) (soil:Int) (inside:Bool) (i:Nat) {E:Env} {res:AV} (hE:Qd Try.prog 3 res E) (ho:AllP [(decide ((i:Int)<(r.feet.length:Int)))=false,Qe Try.prog (.clos 17 [] []) [.agg [.rsl (rowS r.seats) 0 r.seats.length,.rsl (rowP r.feet) 0 r.feet.length,.int .i64 0,.int .i64 r.c.x,.int .i64 r.c.y,.int .i64 r.c.z,.int .i64 r.empty,.int .i64 r.full]] (.tup [.int .i64 ((Qg (⟨r.seats,r.feet,0,r.c,r.empty,r.full⟩:Rg)).1),.int .i64 ((Qg (⟨r.seats,r.feet,0,r.c,r.empty,r.full⟩:Rg)).2.1),.int .i64 ((Qg (⟨r.seats,r.feet,0,r.c,r.empty,r.full⟩:Rg)).2.2.1),.int .i64 ((Qg (⟨r.seats,r.feet,0,r.c,r.empty,r.full⟩:Rg)).2.2.2)]),Qe Try.prog (.clos 18 [] []) [.agg [.rsl (rowS r.seats) 0 r.seats.length,.rsl (rowP r.feet) 0 r.feet.length,.int .i64 0,.int .i64 r.c.x,.int .i64 r.c.y,.int .i64 r.c.z,.int .i64 r.empty,.int .i64 r.full],.int .i64 soil] (.tup [.bool ((Qm (⟨r.seats,r.feet,0,r.c,r.empty,r.full⟩:Rg) soil).1),.int .i64 ((Qm (⟨r.seats,r.feet,0,r.c,r.empty,r.full⟩:Rg) soil).2)]),((Qg (⟨r.seats,r.feet,0,r.c,r.empty,r.full⟩:Rg)).2.2.2 != 0)=false,((Qm (⟨r.seats,r.feet,0,r.c,r.empty,r.full⟩:Rg) soil).2 != 0)=true,((Qm (⟨r.seats,r.feet,0,r.c,r.empty,r.full⟩:Rg) soil).2 != 1)=true])
 (hr:AvLe (.bool false) res):G Try.prog E (f3K2 Try.prog) (f3S2 k r soil inside i ) :=
 Qb (n:=400) (evs:=[.b false,.v (.tup [.int .i64 ((Qg (⟨r.seats,r.feet,0,r.c,r.empty,r.full⟩:Rg)).1),.int .i64 ((Qg (⟨r.seats,r.feet,0,r.c,r.empty,r.full⟩:Rg)).2.1),.int .i64 ((Qg (⟨r.seats,r.feet,0,r.c,r.empty,r.full⟩:Rg)).2.2.1),.int .i64 ((Qg (⟨r.seats,r.feet,0,r.c,r.empty,r.full⟩:Rg)).2.2.2)]),.v (.tup [.bool ((Qm (⟨r.seats,r.feet,0,r.c,r.empty,r.full⟩:Rg) soil).1),.int .i64 ((Qm (⟨r.seats,r.feet,0,r.c,r.empty,r.full⟩:Rg) soil).2)]),.b false,.b true,.b true]) (obs:=_) hE Try.func3 Qi (by kernel_rfl) ho hr
theorem p3_2_4 (k:BKit) (r:Rg) (soil:Int) (inside:Bool) (i:Nat) {E:Env} {rv:AV} (hE:Qd Try.prog 3 rv E) (ho:AllP [(decide ((i:Int)<(r.feet.length:Int)))=false,Qe Try.prog (.clos 17 [] []) [.agg [.rsl (rowS r.seats) 0 r.seats.length,.rsl (rowP r.feet) 0 r.feet.length,.int .i64 0,.int .i64 r.c.x,.int .i64 r.c.y,.int .i64 r.c.z,.int .i64 r.empty,.int .i64 r.full]] (.tup [.int .i64 ((Qg (⟨r.seats,r.feet,0,r.c,r.empty,r.full⟩:Rg)).1),.int .i64 ((Qg (⟨r.seats,r.feet,0,r.c,r.empty,r.full⟩:Rg)).2.1),.int .i64 ((Qg (⟨r.seats,r.feet,0,r.c,r.empty,r.full⟩:Rg)).2.2.1),.int .i64 ((Qg (⟨r.seats,r.feet,0,r.c,r.empty,r.full⟩:Rg)).2.2.2)]),Qe Try.prog (.clos 18 [] []) [.agg [.rsl (rowS r.seats) 0 r.seats.length,.rsl (rowP r.feet) 0 r.feet.length,.int .i64 0,.int .i64 r.c.x,.int .i64 r.c.y,.int .i64 r.c.z,.int .i64 r.empty,.int .i64 r.full],.int .i64 soil] (.tup [.bool ((Qm (⟨r.seats,r.feet,0,r.c,r.empty,r.full⟩:Rg) soil).1),.int .i64 ((Qm (⟨r.seats,r.feet,0,r.c,r.empty,r.full⟩:Rg) soil).2)]),((Qg (⟨r.seats,r.feet,0,r.c,r.empty,r.full⟩:Rg)).2.2.2 != 0)=false,((Qm (⟨r.seats,r.feet,0,r.c,r.empty,r.full⟩:Rg) soil).2 != 0)=true,((Qm (⟨r.seats,r.feet,0,r.c,r.empty,r.full⟩:Rg) soil).2 != 1)=false])
 (hg:G Try.prog E (f3K3 Try.prog) ⟨([J,J,.int .i64 soil,.ptr 0 0 0]++jj 5 ([.rsl (rowI ((Qj k).1)) 0 (((Qj k).1).length),J,.ptr 2 0 0,.bool inside,J,J,J,.int .i64 ((Qg (⟨r.seats,r.feet,0,r.c,r.empty,r.full⟩:Rg)).1),J,J,J,.bool ((Qm (⟨r.seats,r.feet,0,r.c,r.empty,r.full⟩:Rg) soil).1),.int .i64 ((Qm (⟨r.seats,r.feet,0,r.c,r.empty,r.full⟩:Rg) soil).2),.int .i64 0]++Js 218)),[⟨true,0,1,true,[.rsl (Qt k.parts) 0 k.parts.length,.int .i64 k.crane,.rsl ((Qf rowI) k.vans) 0 k.vans.length],false⟩,⟨true,0,1,true,[.rsl (rowS r.seats) 0 r.seats.length,.rsl (rowP r.feet) 0 r.feet.length,.int .i64 r.frame,.int .i64 r.c.x,.int .i64 r.c.y,.int .i64 r.c.z,.int .i64 r.empty,.int .i64 r.full],false⟩,⟨true,0,1,true,[.rsl (rowS r.seats) 0 r.seats.length,.rsl (rowP r.feet) 0 r.feet.length,.int .i64 0,.int .i64 r.c.x,.int .i64 r.c.y,.int .i64 r.c.z,.int .i64 r.empty,.int .i64 r.full],false⟩]⟩):G Try.prog E (f3K2 Try.prog) (f3S2 k r soil inside i ) :=
 Ql (n:=400) (ds:=[]) (cs:=[]) (live:=[2,3,9,11,12,16,20,21,22]) (m:=3) (evs:=[.b false,.v (.tup [.int .i64 ((Qg (⟨r.seats,r.feet,0,r.c,r.empty,r.full⟩:Rg)).1),.int .i64 ((Qg (⟨r.seats,r.feet,0,r.c,r.empty,r.full⟩:Rg)).2.1),.int .i64 ((Qg (⟨r.seats,r.feet,0,r.c,r.empty,r.full⟩:Rg)).2.2.1),.int .i64 ((Qg (⟨r.seats,r.feet,0,r.c,r.empty,r.full⟩:Rg)).2.2.2)]),.v (.tup [.bool ((Qm (⟨r.seats,r.feet,0,r.c,r.empty,r.full⟩:Rg) soil).1),.int .i64 ((Qm (⟨r.seats,r.feet,0,r.c,r.empty,r.full⟩:Rg) soil).2)]),.b false,.b true,.b false,.stop]) (obs:=_) hE.2.1 (hE.nogh _) Qi (by kernel_rfl) ho hg
theorem p3_2_5 (k:BKit) (r:Rg) (soil:Int) (inside:Bool) (i:Nat) {E:Env} {rv:AV} (hE:Qd Try.prog 3 rv E) (ho:AllP [(decide ((i:Int)<(r.feet.length:Int)))=false,Qe Try.prog (.clos 17 [] []) [.agg [.rsl (rowS r.seats) 0 r.seats.length,.rsl (rowP r.feet) 0 r.feet.length,.int .i64 0,.int .i64 r.c.x,.int .i64 r.c.y,.int .i64 r.c.z,.int .i64 r.empty,.int .i64 r.full]] (.tup [.int .i64 ((Qg (⟨r.seats,r.feet,0,r.c,r.empty,r.full⟩:Rg)).1),.int .i64 ((Qg (⟨r.seats,r.feet,0,r.c,r.empty,r.full⟩:Rg)).2.1),.int .i64 ((Qg (⟨r.seats,r.feet,0,r.c,r.empty,r.full⟩:Rg)).2.2.1),.int .i64 ((Qg (⟨r.seats,r.feet,0,r.c,r.empty,r.full⟩:Rg)).2.2.2)]),Qe Try.prog (.clos 18 [] []) [.agg [.rsl (rowS r.seats) 0 r.seats.length,.rsl (rowP r.feet) 0 r.feet.length,.int .i64 0,.int .i64 r.c.x,.int .i64 r.c.y,.int .i64 r.c.z,.int .i64 r.empty,.int .i64 r.full],.int .i64 soil] (.tup [.bool ((Qm (⟨r.seats,r.feet,0,r.c,r.empty,r.full⟩:Rg) soil).1),.int .i64 ((Qm (⟨r.seats,r.feet,0,r.c,r.empty,r.full⟩:Rg) soil).2)]),((Qg (⟨r.seats,r.feet,0,r.c,r.empty,r.full⟩:Rg)).2.2.2 != 0)=false,((Qm (⟨r.seats,r.feet,0,r.c,r.empty,r.full⟩:Rg) soil).2 != 0)=false,false=false])
 (hg:G Try.prog E (f3K3 Try.prog) ⟨([J,J,.int .i64 soil,.ptr 0 0 0]++jj 5 ([.rsl (rowI ((Qj k).1)) 0 (((Qj k).1).length),J,.ptr 2 0 0,.bool inside,J,J,J,.int .i64 ((Qg (⟨r.seats,r.feet,0,r.c,r.empty,r.full⟩:Rg)).1),J,J,J,.bool ((Qm (⟨r.seats,r.feet,0,r.c,r.empty,r.full⟩:Rg) soil).1),.int .i64 ((Qm (⟨r.seats,r.feet,0,r.c,r.empty,r.full⟩:Rg) soil).2),.int .i64 0]++Js 218)),[⟨true,0,1,true,[.rsl (Qt k.parts) 0 k.parts.length,.int .i64 k.crane,.rsl ((Qf rowI) k.vans) 0 k.vans.length],false⟩,⟨true,0,1,true,[.rsl (rowS r.seats) 0 r.seats.length,.rsl (rowP r.feet) 0 r.feet.length,.int .i64 r.frame,.int .i64 r.c.x,.int .i64 r.c.y,.int .i64 r.c.z,.int .i64 r.empty,.int .i64 r.full],false⟩,⟨true,0,1,true,[.rsl (rowS r.seats) 0 r.seats.length,.rsl (rowP r.feet) 0 r.feet.length,.int .i64 0,.int .i64 r.c.x,.int .i64 r.c.y,.int .i64 r.c.z,.int .i64 r.empty,.int .i64 r.full],false⟩]⟩):G Try.prog E (f3K2 Try.prog) (f3S2 k r soil inside i ) :=
 Ql (n:=400) (ds:=[]) (cs:=[]) (live:=[2,3,9,11,12,16,20,21,22]) (m:=3) (evs:=[.b false,.v (.tup [.int .i64 ((Qg (⟨r.seats,r.feet,0,r.c,r.empty,r.full⟩:Rg)).1),.int .i64 ((Qg (⟨r.seats,r.feet,0,r.c,r.empty,r.full⟩:Rg)).2.1),.int .i64 ((Qg (⟨r.seats,r.feet,0,r.c,r.empty,r.full⟩:Rg)).2.2.1),.int .i64 ((Qg (⟨r.seats,r.feet,0,r.c,r.empty,r.full⟩:Rg)).2.2.2)]),.v (.tup [.bool ((Qm (⟨r.seats,r.feet,0,r.c,r.empty,r.full⟩:Rg) soil).1),.int .i64 ((Qm (⟨r.seats,r.feet,0,r.c,r.empty,r.full⟩:Rg) soil).2)]),.b false,.b false,.b false,.stop]) (obs:=_) hE.2.1 (hE.nogh _) Qi (by kernel_rfl) ho hg
theorem f3W2 (k:BKit) (r:Rg) (soil:Int) (inside:Bool) (i:Nat) {E:Env} {rv:Bool} (hE:Qd Try.prog 3 (.bool rv) E)
 (h:(((i:Int)<(r.feet.length:Int)→(∃ pe:Pt,r.feet[i]?=some pe∧((I6 ((i:Int)+1))∧((r.feet.length:Int) ≠ 0∧(0≤(Int.tmod ((i:Int)+1) (r.feet.length:Int))∧(∃ pe1:Pt,r.feet[Int.toNat (Int.tmod ((i:Int)+1) (r.feet.length:Int))]?=some pe1∧((inside=true→((I6 (pe1.x - pe.x))∧((I6 (r.c.y - pe.y))∧((I6 ((pe1.x - pe.x)*(r.c.y - pe.y)))∧((I6 (pe1.y - pe.y))∧((I6 (r.c.x - pe.x))∧((I6 ((pe1.y - pe.y)*(r.c.x - pe.x)))∧((I6 (((pe1.x - pe.x)*(r.c.y - pe.y)) - ((pe1.y - pe.y)*(r.c.x - pe.x))))∧((I6 ((i:Int)+1))∧f3G2 E k r soil (decide ((((pe1.x - pe.x)*(r.c.y - pe.y)) - ((pe1.y - pe.y)*(r.c.x - pe.x)))≥0)) (i+1))))))))))∧(inside=false→((I6 ((i:Int)+1))∧f3G2 E k r soil false (i+1))))))))))∧(¬ ((i:Int)<(r.feet.length:Int))→((RigSmall (⟨r.seats,r.feet,0,r.c,r.empty,r.full⟩:Rg))∧((RigSmall (⟨r.seats,r.feet,0,r.c,r.empty,r.full⟩:Rg))∧((¬ ((Qg (⟨r.seats,r.feet,0,r.c,r.empty,r.full⟩:Rg)).2.2.2=0)→rv=false)∧((Qg (⟨r.seats,r.feet,0,r.c,r.empty,r.full⟩:Rg)).2.2.2=0→((¬ ((Qm (⟨r.seats,r.feet,0,r.c,r.empty,r.full⟩:Rg) soil).2=0)→((¬ ((Qm (⟨r.seats,r.feet,0,r.c,r.empty,r.full⟩:Rg) soil).2=1)→rv=false)∧((Qm (⟨r.seats,r.feet,0,r.c,r.empty,r.full⟩:Rg) soil).2=1→f3G3 E k r soil inside ((Qg (⟨r.seats,r.feet,0,r.c,r.empty,r.full⟩:Rg)).1) ((Qm (⟨r.seats,r.feet,0,r.c,r.empty,r.full⟩:Rg) soil).1) 0 0)))∧((Qm (⟨r.seats,r.feet,0,r.c,r.empty,r.full⟩:Rg) soil).2=0→f3G3 E k r soil inside ((Qg (⟨r.seats,r.feet,0,r.c,r.empty,r.full⟩:Rg)).1) ((Qm (⟨r.seats,r.feet,0,r.c,r.empty,r.full⟩:Rg) soil).1) 0 0))))))))):f3G2 E k r soil inside i:=by
 rcases bft (decide ((i:Int)<(r.feet.length:Int))) with hc0 | hc0
 · have h:=h.1 (odt hc0)
   obtain ⟨pe,h1,h⟩:=h
   obtain ⟨q4_1,h⟩:=h
   obtain ⟨q5_1,h⟩:=h
   obtain ⟨h3,h⟩:=h
   obtain ⟨pe1,h2,h⟩:=h
   rcases bft inside with hc1 | hc1
   · have h:=h.1 hc1
     obtain ⟨q12_2,h⟩:=h
     obtain ⟨q13_2,h⟩:=h
     obtain ⟨q14_2,h⟩:=h
     obtain ⟨q15_2,h⟩:=h
     obtain ⟨q16_2,h⟩:=h
     obtain ⟨q17_2,h⟩:=h
     obtain ⟨q18_2,h⟩:=h
     obtain ⟨q19_2,h⟩:=h
     exact p3_2_0 k r soil inside i pe pe1 hE ⟨hc0,(Qr h1),(rp cP 3 0 3 h1),q4_1,q5_1,(Qw h3 h2),(rp cP 3 0 3 h2),(by decide),(by decide),hc1,q12_2,q13_2,q14_2,q15_2,q16_2,q17_2,q18_2,q19_2,trivial⟩ h
   · have h:=h.2 hc1
     obtain ⟨q12_2,h⟩:=h
     exact p3_2_1 k r soil inside i pe pe1 hE ⟨hc0,(Qr h1),(rp cP 3 0 3 h1),q4_1,q5_1,(Qw h3 h2),(rp cP 3 0 3 h2),(by decide),(by decide),hc1,q12_2,trivial⟩ h
 · have h:=h.2 (odf hc0)
   obtain ⟨h1,h⟩:=h
   obtain ⟨h2,h⟩:=h
   rcases bft ((Qg (⟨r.seats,r.feet,0,r.c,r.empty,r.full⟩:Rg)).2.2.2 != 0) with hc1 | hc1
   · have h:=h.1 (bneT hc1)
     exact p3_2_2 k r soil inside i hE ⟨hc0,(u17 (Xq (⟨r.seats,r.feet,0,r.c,r.empty,r.full⟩:Rg) h1)),(u18 (Xf (⟨r.seats,r.feet,0,r.c,r.empty,r.full⟩:Rg) soil h2)),hc1,rfl,trivial⟩ (AvLe.of_eq (by rw [h]; try rfl))
   · have h:=h.2 (bneF hc1)
     rcases bft ((Qm (⟨r.seats,r.feet,0,r.c,r.empty,r.full⟩:Rg) soil).2 != 0) with hc2 | hc2
     · have h:=h.1 (bneT hc2)
       rcases bft ((Qm (⟨r.seats,r.feet,0,r.c,r.empty,r.full⟩:Rg) soil).2 != 1) with hc3 | hc3
       · have h:=h.1 (bneT hc3)
         exact p3_2_3 k r soil inside i hE ⟨hc0,(u17 (Xq (⟨r.seats,r.feet,0,r.c,r.empty,r.full⟩:Rg) h1)),(u18 (Xf (⟨r.seats,r.feet,0,r.c,r.empty,r.full⟩:Rg) soil h2)),hc1,hc2,hc3,trivial⟩ (AvLe.of_eq (by rw [h]; try rfl))
       · have h:=h.2 (bneF hc3)
         exact p3_2_4 k r soil inside i hE ⟨hc0,(u17 (Xq (⟨r.seats,r.feet,0,r.c,r.empty,r.full⟩:Rg) h1)),(u18 (Xf (⟨r.seats,r.feet,0,r.c,r.empty,r.full⟩:Rg) soil h2)),hc1,hc2,hc3,trivial⟩ h
     · have h:=h.2 (bneF hc2)
       exact p3_2_5 k r soil inside i hE ⟨hc0,(u17 (Xq (⟨r.seats,r.feet,0,r.c,r.empty,r.full⟩:Rg) h1)),(u18 (Xf (⟨r.seats,r.feet,0,r.c,r.empty,r.full⟩:Rg) soil h2)),hc1,hc2,rfl,trivial⟩ h
theorem p3_3_0 (k:BKit) (r:Rg) (soil:Int) (inside:Bool) (least:Int) (borne:Bool) (i:Nat) (v2_2:Int) (e:Int) {E:Env} {res:AV} (hE:Qd Try.prog 3 res E) (ho:AllP [(decide ((i:Int)<((((Qj k).1).length:Nat):Int)))=true,0≤(i:Int)∧(i:Int)<((((Qj k).1).length:Nat):Int),((rowI ((Qj k).1)).drop (0+(Int.toNat (i:Int))*1)).take 1=[.int .i64 e],(decide (e<0))=true,true=true])
 (hr:AvLe (.bool false) res):G Try.prog E (f3K3 Try.prog) (f3S3 k r soil inside least borne i v2_2 ) :=
 Qb (n:=400) (evs:=[.b true,.ld (.int .i64 e),.b true,.b true]) (obs:=_) hE Try.func3 Qi (by kernel_rfl) ho hr
theorem p3_3_1 (k:BKit) (r:Rg) (soil:Int) (inside:Bool) (least:Int) (borne:Bool) (i:Nat) (v2_2:Int) (e:Int) {E:Env} {res:AV} (hE:Qd Try.prog 3 res E) (ho:AllP [(decide ((i:Int)<((((Qj k).1).length:Nat):Int)))=true,0≤(i:Int)∧(i:Int)<((((Qj k).1).length:Nat):Int),((rowI ((Qj k).1)).drop (0+(Int.toNat (i:Int))*1)).take 1=[.int .i64 e],(decide (e<0))=false,0≤(i:Int)∧(i:Int)<((((Qj k).1).length:Nat):Int),((rowI ((Qj k).1)).drop (0+(Int.toNat (i:Int))*1)).take 1=[.int .i64 e],(decide (e≥(k.parts.length:Int)))=true])
 (hr:AvLe (.bool false) res):G Try.prog E (f3K3 Try.prog) (f3S3 k r soil inside least borne i v2_2 ) :=
 Qb (n:=400) (evs:=[.b true,.ld (.int .i64 e),.b false,.ld (.int .i64 e),.b true]) (obs:=_) hE Try.func3 Qi (by kernel_rfl) ho hr
theorem p3_3_2 (k:BKit) (r:Rg) (soil:Int) (inside:Bool) (least:Int) (borne:Bool) (i:Nat) (v2_2:Int) (e:Int) (be:BPart) {E:Env} {res:AV} (hE:Qd Try.prog 3 res E) (ho:AllP [(decide ((i:Int)<((((Qj k).1).length:Nat):Int)))=true,0≤(i:Int)∧(i:Int)<((((Qj k).1).length:Nat):Int),((rowI ((Qj k).1)).drop (0+(Int.toNat (i:Int))*1)).take 1=[.int .i64 e],(decide (e<0))=false,0≤(i:Int)∧(i:Int)<((((Qj k).1).length:Nat):Int),((rowI ((Qj k).1)).drop (0+(Int.toNat (i:Int))*1)).take 1=[.int .i64 e],(decide (e≥(k.parts.length:Int)))=false,0≤(i:Int)∧(i:Int)<((((Qj k).1).length:Nat):Int),((rowI ((Qj k).1)).drop (0+(Int.toNat (i:Int))*1)).take 1=[.int .i64 e],0≤e∧e<(k.parts.length:Int),((Qt k.parts).drop ((0+(Int.toNat e)*4)+0)).take 1=[.int .i64 be.w],InR .i64 (v2_2+be.w),3≤8,(decide ((v2_2+be.w) > 1000000))=true,Qe Try.prog (.clos 13 [] []) [] (.bool true)])
 (hr:AvLe (.bool true) res):G Try.prog E (f3K3 Try.prog) (f3S3 k r soil inside least borne i v2_2 ) :=
 Qb (n:=400) (evs:=[.b true,.ld (.int .i64 e),.b false,.ld (.int .i64 e),.b false,.auto,.auto,.ld (.int .i64 e),.ld (.int .i64 be.w),.b true,.v (.bool true)]) (obs:=_) hE Try.func3 Qi (by kernel_rfl) ho hr
theorem p3_3_3 (k:BKit) (r:Rg) (soil:Int) (inside:Bool) (least:Int) (borne:Bool) (i:Nat) (v2_2:Int) (e:Int) (be:BPart) {E:Env} {res:AV} (hE:Qd Try.prog 3 res E) (ho:AllP [(decide ((i:Int)<((((Qj k).1).length:Nat):Int)))=true,0≤(i:Int)∧(i:Int)<((((Qj k).1).length:Nat):Int),((rowI ((Qj k).1)).drop (0+(Int.toNat (i:Int))*1)).take 1=[.int .i64 e],(decide (e<0))=false,0≤(i:Int)∧(i:Int)<((((Qj k).1).length:Nat):Int),((rowI ((Qj k).1)).drop (0+(Int.toNat (i:Int))*1)).take 1=[.int .i64 e],(decide (e≥(k.parts.length:Int)))=false,0≤(i:Int)∧(i:Int)<((((Qj k).1).length:Nat):Int),((rowI ((Qj k).1)).drop (0+(Int.toNat (i:Int))*1)).take 1=[.int .i64 e],0≤e∧e<(k.parts.length:Int),((Qt k.parts).drop ((0+(Int.toNat e)*4)+0)).take 1=[.int .i64 be.w],InR .i64 (v2_2+be.w),3≤8,(decide ((v2_2+be.w) > 1000000))=false,Qe Try.prog (.clos 17 [] []) [.agg [.rsl (rowS r.seats) 0 r.seats.length,.rsl (rowP r.feet) 0 r.feet.length,.int .i64 (v2_2+be.w),.int .i64 r.c.x,.int .i64 r.c.y,.int .i64 r.c.z,.int .i64 r.empty,.int .i64 r.full]] (.tup [.int .i64 ((Qg (⟨r.seats,r.feet,(v2_2+be.w),r.c,r.empty,r.full⟩:Rg)).1),.int .i64 ((Qg (⟨r.seats,r.feet,(v2_2+be.w),r.c,r.empty,r.full⟩:Rg)).2.1),.int .i64 ((Qg (⟨r.seats,r.feet,(v2_2+be.w),r.c,r.empty,r.full⟩:Rg)).2.2.1),.int .i64 ((Qg (⟨r.seats,r.feet,(v2_2+be.w),r.c,r.empty,r.full⟩:Rg)).2.2.2)]),Qe Try.prog (.clos 18 [] []) [.agg [.rsl (rowS r.seats) 0 r.seats.length,.rsl (rowP r.feet) 0 r.feet.length,.int .i64 (v2_2+be.w),.int .i64 r.c.x,.int .i64 r.c.y,.int .i64 r.c.z,.int .i64 r.empty,.int .i64 r.full],.int .i64 soil] (.tup [.bool ((Qm (⟨r.seats,r.feet,(v2_2+be.w),r.c,r.empty,r.full⟩:Rg) soil).1),.int .i64 ((Qm (⟨r.seats,r.feet,(v2_2+be.w),r.c,r.empty,r.full⟩:Rg) soil).2)]),((Qg (⟨r.seats,r.feet,(v2_2+be.w),r.c,r.empty,r.full⟩:Rg)).2.2.2 != 0)=true,true=true,true=true,true=true])
 (hr:AvLe (.bool false) res):G Try.prog E (f3K3 Try.prog) (f3S3 k r soil inside least borne i v2_2 ) :=
 Qb (n:=400) (evs:=[.b true,.ld (.int .i64 e),.b false,.ld (.int .i64 e),.b false,.auto,.auto,.ld (.int .i64 e),.ld (.int .i64 be.w),.b false,.v (.tup [.int .i64 ((Qg (⟨r.seats,r.feet,(v2_2+be.w),r.c,r.empty,r.full⟩:Rg)).1),.int .i64 ((Qg (⟨r.seats,r.feet,(v2_2+be.w),r.c,r.empty,r.full⟩:Rg)).2.1),.int .i64 ((Qg (⟨r.seats,r.feet,(v2_2+be.w),r.c,r.empty,r.full⟩:Rg)).2.2.1),.int .i64 ((Qg (⟨r.seats,r.feet,(v2_2+be.w),r.c,r.empty,r.full⟩:Rg)).2.2.2)]),.v (.tup [.bool ((Qm (⟨r.seats,r.feet,(v2_2+be.w),r.c,r.empty,r.full⟩:Rg) soil).1),.int .i64 ((Qm (⟨r.seats,r.feet,(v2_2+be.w),r.c,r.empty,r.full⟩:Rg) soil).2)]),.b true,.b true,.b true,.b true]) (obs:=_) hE Try.func3 Qi (by kernel_rfl) ho hr
theorem p3_3_4 (k:BKit) (r:Rg) (soil:Int) (inside:Bool) (least:Int) (borne:Bool) (i:Nat) (v2_2:Int) (e:Int) (be:BPart) {E:Env} {res:AV} (hE:Qd Try.prog 3 res E) (ho:AllP [(decide ((i:Int)<((((Qj k).1).length:Nat):Int)))=true,0≤(i:Int)∧(i:Int)<((((Qj k).1).length:Nat):Int),((rowI ((Qj k).1)).drop (0+(Int.toNat (i:Int))*1)).take 1=[.int .i64 e],(decide (e<0))=false,0≤(i:Int)∧(i:Int)<((((Qj k).1).length:Nat):Int),((rowI ((Qj k).1)).drop (0+(Int.toNat (i:Int))*1)).take 1=[.int .i64 e],(decide (e≥(k.parts.length:Int)))=false,0≤(i:Int)∧(i:Int)<((((Qj k).1).length:Nat):Int),((rowI ((Qj k).1)).drop (0+(Int.toNat (i:Int))*1)).take 1=[.int .i64 e],0≤e∧e<(k.parts.length:Int),((Qt k.parts).drop ((0+(Int.toNat e)*4)+0)).take 1=[.int .i64 be.w],InR .i64 (v2_2+be.w),3≤8,(decide ((v2_2+be.w) > 1000000))=false,Qe Try.prog (.clos 17 [] []) [.agg [.rsl (rowS r.seats) 0 r.seats.length,.rsl (rowP r.feet) 0 r.feet.length,.int .i64 (v2_2+be.w),.int .i64 r.c.x,.int .i64 r.c.y,.int .i64 r.c.z,.int .i64 r.empty,.int .i64 r.full]] (.tup [.int .i64 ((Qg (⟨r.seats,r.feet,(v2_2+be.w),r.c,r.empty,r.full⟩:Rg)).1),.int .i64 ((Qg (⟨r.seats,r.feet,(v2_2+be.w),r.c,r.empty,r.full⟩:Rg)).2.1),.int .i64 ((Qg (⟨r.seats,r.feet,(v2_2+be.w),r.c,r.empty,r.full⟩:Rg)).2.2.1),.int .i64 ((Qg (⟨r.seats,r.feet,(v2_2+be.w),r.c,r.empty,r.full⟩:Rg)).2.2.2)]),Qe Try.prog (.clos 18 [] []) [.agg [.rsl (rowS r.seats) 0 r.seats.length,.rsl (rowP r.feet) 0 r.feet.length,.int .i64 (v2_2+be.w),.int .i64 r.c.x,.int .i64 r.c.y,.int .i64 r.c.z,.int .i64 r.empty,.int .i64 r.full],.int .i64 soil] (.tup [.bool ((Qm (⟨r.seats,r.feet,(v2_2+be.w),r.c,r.empty,r.full⟩:Rg) soil).1),.int .i64 ((Qm (⟨r.seats,r.feet,(v2_2+be.w),r.c,r.empty,r.full⟩:Rg) soil).2)]),((Qg (⟨r.seats,r.feet,(v2_2+be.w),r.c,r.empty,r.full⟩:Rg)).2.2.2 != 0)=false,((Qm (⟨r.seats,r.feet,(v2_2+be.w),r.c,r.empty,r.full⟩:Rg) soil).2 != (Qm (⟨r.seats,r.feet,0,r.c,r.empty,r.full⟩:Rg) soil).2)=true,true=true,true=true])
 (hr:AvLe (.bool false) res):G Try.prog E (f3K3 Try.prog) (f3S3 k r soil inside least borne i v2_2 ) :=
 Qb (n:=400) (evs:=[.b true,.ld (.int .i64 e),.b false,.ld (.int .i64 e),.b false,.auto,.auto,.ld (.int .i64 e),.ld (.int .i64 be.w),.b false,.v (.tup [.int .i64 ((Qg (⟨r.seats,r.feet,(v2_2+be.w),r.c,r.empty,r.full⟩:Rg)).1),.int .i64 ((Qg (⟨r.seats,r.feet,(v2_2+be.w),r.c,r.empty,r.full⟩:Rg)).2.1),.int .i64 ((Qg (⟨r.seats,r.feet,(v2_2+be.w),r.c,r.empty,r.full⟩:Rg)).2.2.1),.int .i64 ((Qg (⟨r.seats,r.feet,(v2_2+be.w),r.c,r.empty,r.full⟩:Rg)).2.2.2)]),.v (.tup [.bool ((Qm (⟨r.seats,r.feet,(v2_2+be.w),r.c,r.empty,r.full⟩:Rg) soil).1),.int .i64 ((Qm (⟨r.seats,r.feet,(v2_2+be.w),r.c,r.empty,r.full⟩:Rg) soil).2)]),.b false,.b true,.b true,.b true]) (obs:=_) hE Try.func3 Qi (by kernel_rfl) ho hr
theorem p3_3_5 (k:BKit) (r:Rg) (soil:Int) (inside:Bool) (least:Int) (borne:Bool) (i:Nat) (v2_2:Int) (e:Int) (be:BPart) {E:Env} {res:AV} (hE:Qd Try.prog 3 res E) (ho:AllP [(decide ((i:Int)<((((Qj k).1).length:Nat):Int)))=true,0≤(i:Int)∧(i:Int)<((((Qj k).1).length:Nat):Int),((rowI ((Qj k).1)).drop (0+(Int.toNat (i:Int))*1)).take 1=[.int .i64 e],(decide (e<0))=false,0≤(i:Int)∧(i:Int)<((((Qj k).1).length:Nat):Int),((rowI ((Qj k).1)).drop (0+(Int.toNat (i:Int))*1)).take 1=[.int .i64 e],(decide (e≥(k.parts.length:Int)))=false,0≤(i:Int)∧(i:Int)<((((Qj k).1).length:Nat):Int),((rowI ((Qj k).1)).drop (0+(Int.toNat (i:Int))*1)).take 1=[.int .i64 e],0≤e∧e<(k.parts.length:Int),((Qt k.parts).drop ((0+(Int.toNat e)*4)+0)).take 1=[.int .i64 be.w],InR .i64 (v2_2+be.w),3≤8,(decide ((v2_2+be.w) > 1000000))=false,Qe Try.prog (.clos 17 [] []) [.agg [.rsl (rowS r.seats) 0 r.seats.length,.rsl (rowP r.feet) 0 r.feet.length,.int .i64 (v2_2+be.w),.int .i64 r.c.x,.int .i64 r.c.y,.int .i64 r.c.z,.int .i64 r.empty,.int .i64 r.full]] (.tup [.int .i64 ((Qg (⟨r.seats,r.feet,(v2_2+be.w),r.c,r.empty,r.full⟩:Rg)).1),.int .i64 ((Qg (⟨r.seats,r.feet,(v2_2+be.w),r.c,r.empty,r.full⟩:Rg)).2.1),.int .i64 ((Qg (⟨r.seats,r.feet,(v2_2+be.w),r.c,r.empty,r.full⟩:Rg)).2.2.1),.int .i64 ((Qg (⟨r.seats,r.feet,(v2_2+be.w),r.c,r.empty,r.full⟩:Rg)).2.2.2)]),Qe Try.prog (.clos 18 [] []) [.agg [.rsl (rowS r.seats) 0 r.seats.length,.rsl (rowP r.feet) 0 r.feet.length,.int .i64 (v2_2+be.w),.int .i64 r.c.x,.int .i64 r.c.y,.int .i64 r.c.z,.int .i64 r.empty,.int .i64 r.full],.int .i64 soil] (.tup [.bool ((Qm (⟨r.seats,r.feet,(v2_2+be.w),r.c,r.empty,r.full⟩:Rg) soil).1),.int .i64 ((Qm (⟨r.seats,r.feet,(v2_2+be.w),r.c,r.empty,r.full⟩:Rg) soil).2)]),((Qg (⟨r.seats,r.feet,(v2_2+be.w),r.c,r.empty,r.full⟩:Rg)).2.2.2 != 0)=false,((Qm (⟨r.seats,r.feet,(v2_2+be.w),r.c,r.empty,r.full⟩:Rg) soil).2 != (Qm (⟨r.seats,r.feet,0,r.c,r.empty,r.full⟩:Rg) soil).2)=false,inside=true,(decide ((Qg (⟨r.seats,r.feet,(v2_2+be.w),r.c,r.empty,r.full⟩:Rg)).1<least))=true,true=true])
 (hr:AvLe (.bool false) res):G Try.prog E (f3K3 Try.prog) (f3S3 k r soil inside least borne i v2_2 ) :=
 Qb (n:=400) (evs:=[.b true,.ld (.int .i64 e),.b false,.ld (.int .i64 e),.b false,.auto,.auto,.ld (.int .i64 e),.ld (.int .i64 be.w),.b false,.v (.tup [.int .i64 ((Qg (⟨r.seats,r.feet,(v2_2+be.w),r.c,r.empty,r.full⟩:Rg)).1),.int .i64 ((Qg (⟨r.seats,r.feet,(v2_2+be.w),r.c,r.empty,r.full⟩:Rg)).2.1),.int .i64 ((Qg (⟨r.seats,r.feet,(v2_2+be.w),r.c,r.empty,r.full⟩:Rg)).2.2.1),.int .i64 ((Qg (⟨r.seats,r.feet,(v2_2+be.w),r.c,r.empty,r.full⟩:Rg)).2.2.2)]),.v (.tup [.bool ((Qm (⟨r.seats,r.feet,(v2_2+be.w),r.c,r.empty,r.full⟩:Rg) soil).1),.int .i64 ((Qm (⟨r.seats,r.feet,(v2_2+be.w),r.c,r.empty,r.full⟩:Rg) soil).2)]),.b false,.b false,.b true,.b true,.b true]) (obs:=_) hE Try.func3 Qi (by kernel_rfl) ho hr
theorem p3_3_6 (k:BKit) (r:Rg) (soil:Int) (inside:Bool) (least:Int) (borne:Bool) (i:Nat) (v2_2:Int) (e:Int) (be:BPart) {E:Env} {res:AV} (hE:Qd Try.prog 3 res E) (ho:AllP [(decide ((i:Int)<((((Qj k).1).length:Nat):Int)))=true,0≤(i:Int)∧(i:Int)<((((Qj k).1).length:Nat):Int),((rowI ((Qj k).1)).drop (0+(Int.toNat (i:Int))*1)).take 1=[.int .i64 e],(decide (e<0))=false,0≤(i:Int)∧(i:Int)<((((Qj k).1).length:Nat):Int),((rowI ((Qj k).1)).drop (0+(Int.toNat (i:Int))*1)).take 1=[.int .i64 e],(decide (e≥(k.parts.length:Int)))=false,0≤(i:Int)∧(i:Int)<((((Qj k).1).length:Nat):Int),((rowI ((Qj k).1)).drop (0+(Int.toNat (i:Int))*1)).take 1=[.int .i64 e],0≤e∧e<(k.parts.length:Int),((Qt k.parts).drop ((0+(Int.toNat e)*4)+0)).take 1=[.int .i64 be.w],InR .i64 (v2_2+be.w),3≤8,(decide ((v2_2+be.w) > 1000000))=false,Qe Try.prog (.clos 17 [] []) [.agg [.rsl (rowS r.seats) 0 r.seats.length,.rsl (rowP r.feet) 0 r.feet.length,.int .i64 (v2_2+be.w),.int .i64 r.c.x,.int .i64 r.c.y,.int .i64 r.c.z,.int .i64 r.empty,.int .i64 r.full]] (.tup [.int .i64 ((Qg (⟨r.seats,r.feet,(v2_2+be.w),r.c,r.empty,r.full⟩:Rg)).1),.int .i64 ((Qg (⟨r.seats,r.feet,(v2_2+be.w),r.c,r.empty,r.full⟩:Rg)).2.1),.int .i64 ((Qg (⟨r.seats,r.feet,(v2_2+be.w),r.c,r.empty,r.full⟩:Rg)).2.2.1),.int .i64 ((Qg (⟨r.seats,r.feet,(v2_2+be.w),r.c,r.empty,r.full⟩:Rg)).2.2.2)]),Qe Try.prog (.clos 18 [] []) [.agg [.rsl (rowS r.seats) 0 r.seats.length,.rsl (rowP r.feet) 0 r.feet.length,.int .i64 (v2_2+be.w),.int .i64 r.c.x,.int .i64 r.c.y,.int .i64 r.c.z,.int .i64 r.empty,.int .i64 r.full],.int .i64 soil] (.tup [.bool ((Qm (⟨r.seats,r.feet,(v2_2+be.w),r.c,r.empty,r.full⟩:Rg) soil).1),.int .i64 ((Qm (⟨r.seats,r.feet,(v2_2+be.w),r.c,r.empty,r.full⟩:Rg) soil).2)]),((Qg (⟨r.seats,r.feet,(v2_2+be.w),r.c,r.empty,r.full⟩:Rg)).2.2.2 != 0)=false,((Qm (⟨r.seats,r.feet,(v2_2+be.w),r.c,r.empty,r.full⟩:Rg) soil).2 != (Qm (⟨r.seats,r.feet,0,r.c,r.empty,r.full⟩:Rg) soil).2)=false,inside=true,(decide ((Qg (⟨r.seats,r.feet,(v2_2+be.w),r.c,r.empty,r.full⟩:Rg)).1<least))=false,((Qm (⟨r.seats,r.feet,(v2_2+be.w),r.c,r.empty,r.full⟩:Rg) soil).1)=true,(!borne)=true])
 (hr:AvLe (.bool false) res):G Try.prog E (f3K3 Try.prog) (f3S3 k r soil inside least borne i v2_2 ) :=
 Qb (n:=400) (evs:=[.b true,.ld (.int .i64 e),.b false,.ld (.int .i64 e),.b false,.auto,.auto,.ld (.int .i64 e),.ld (.int .i64 be.w),.b false,.v (.tup [.int .i64 ((Qg (⟨r.seats,r.feet,(v2_2+be.w),r.c,r.empty,r.full⟩:Rg)).1),.int .i64 ((Qg (⟨r.seats,r.feet,(v2_2+be.w),r.c,r.empty,r.full⟩:Rg)).2.1),.int .i64 ((Qg (⟨r.seats,r.feet,(v2_2+be.w),r.c,r.empty,r.full⟩:Rg)).2.2.1),.int .i64 ((Qg (⟨r.seats,r.feet,(v2_2+be.w),r.c,r.empty,r.full⟩:Rg)).2.2.2)]),.v (.tup [.bool ((Qm (⟨r.seats,r.feet,(v2_2+be.w),r.c,r.empty,r.full⟩:Rg) soil).1),.int .i64 ((Qm (⟨r.seats,r.feet,(v2_2+be.w),r.c,r.empty,r.full⟩:Rg) soil).2)]),.b false,.b false,.b true,.b false,.b true,.b true]) (obs:=_) hE Try.func3 Qi (by kernel_rfl) ho hr
theorem p3_3_7 (k:BKit) (r:Rg) (soil:Int) (inside:Bool) (least:Int) (borne:Bool) (i:Nat) (v2_2:Int) (e:Int) (be:BPart) {E:Env} {rv:AV} (hE:Qd Try.prog 3 rv E) (ho:AllP [(decide ((i:Int)<((((Qj k).1).length:Nat):Int)))=true,0≤(i:Int)∧(i:Int)<((((Qj k).1).length:Nat):Int),((rowI ((Qj k).1)).drop (0+(Int.toNat (i:Int))*1)).take 1=[.int .i64 e],(decide (e<0))=false,0≤(i:Int)∧(i:Int)<((((Qj k).1).length:Nat):Int),((rowI ((Qj k).1)).drop (0+(Int.toNat (i:Int))*1)).take 1=[.int .i64 e],(decide (e≥(k.parts.length:Int)))=false,0≤(i:Int)∧(i:Int)<((((Qj k).1).length:Nat):Int),((rowI ((Qj k).1)).drop (0+(Int.toNat (i:Int))*1)).take 1=[.int .i64 e],0≤e∧e<(k.parts.length:Int),((Qt k.parts).drop ((0+(Int.toNat e)*4)+0)).take 1=[.int .i64 be.w],InR .i64 (v2_2+be.w),3≤8,(decide ((v2_2+be.w) > 1000000))=false,Qe Try.prog (.clos 17 [] []) [.agg [.rsl (rowS r.seats) 0 r.seats.length,.rsl (rowP r.feet) 0 r.feet.length,.int .i64 (v2_2+be.w),.int .i64 r.c.x,.int .i64 r.c.y,.int .i64 r.c.z,.int .i64 r.empty,.int .i64 r.full]] (.tup [.int .i64 ((Qg (⟨r.seats,r.feet,(v2_2+be.w),r.c,r.empty,r.full⟩:Rg)).1),.int .i64 ((Qg (⟨r.seats,r.feet,(v2_2+be.w),r.c,r.empty,r.full⟩:Rg)).2.1),.int .i64 ((Qg (⟨r.seats,r.feet,(v2_2+be.w),r.c,r.empty,r.full⟩:Rg)).2.2.1),.int .i64 ((Qg (⟨r.seats,r.feet,(v2_2+be.w),r.c,r.empty,r.full⟩:Rg)).2.2.2)]),Qe Try.prog (.clos 18 [] []) [.agg [.rsl (rowS r.seats) 0 r.seats.length,.rsl (rowP r.feet) 0 r.feet.length,.int .i64 (v2_2+be.w),.int .i64 r.c.x,.int .i64 r.c.y,.int .i64 r.c.z,.int .i64 r.empty,.int .i64 r.full],.int .i64 soil] (.tup [.bool ((Qm (⟨r.seats,r.feet,(v2_2+be.w),r.c,r.empty,r.full⟩:Rg) soil).1),.int .i64 ((Qm (⟨r.seats,r.feet,(v2_2+be.w),r.c,r.empty,r.full⟩:Rg) soil).2)]),((Qg (⟨r.seats,r.feet,(v2_2+be.w),r.c,r.empty,r.full⟩:Rg)).2.2.2 != 0)=false,((Qm (⟨r.seats,r.feet,(v2_2+be.w),r.c,r.empty,r.full⟩:Rg) soil).2 != (Qm (⟨r.seats,r.feet,0,r.c,r.empty,r.full⟩:Rg) soil).2)=false,inside=true,(decide ((Qg (⟨r.seats,r.feet,(v2_2+be.w),r.c,r.empty,r.full⟩:Rg)).1<least))=false,((Qm (⟨r.seats,r.feet,(v2_2+be.w),r.c,r.empty,r.full⟩:Rg) soil).1)=true,(!borne)=false,InR .i64 ((i:Int)+1)])
 (hg:G Try.prog E (f3K3 Try.prog) ⟨([J,J,.int .i64 soil,.ptr 0 0 0]++jj 5 ([.rsl (rowI ((Qj k).1)) 0 (((Qj k).1).length),J,.ptr 2 0 0,.bool inside,J,J,J,.int .i64 ((Qg (⟨r.seats,r.feet,(v2_2+be.w),r.c,r.empty,r.full⟩:Rg)).1),J,J,J,.bool ((Qm (⟨r.seats,r.feet,(v2_2+be.w),r.c,r.empty,r.full⟩:Rg) soil).1),.int .i64 ((Qm (⟨r.seats,r.feet,0,r.c,r.empty,r.full⟩:Rg) soil).2),.int .i64 ((i:Int)+1)]++Js 218)),[⟨true,0,1,true,[.rsl (Qt k.parts) 0 k.parts.length,.int .i64 k.crane,.rsl ((Qf rowI) k.vans) 0 k.vans.length],false⟩,⟨true,0,1,true,[.rsl (rowS r.seats) 0 r.seats.length,.rsl (rowP r.feet) 0 r.feet.length,.int .i64 r.frame,.int .i64 r.c.x,.int .i64 r.c.y,.int .i64 r.c.z,.int .i64 r.empty,.int .i64 r.full],false⟩,⟨true,0,1,true,[.rsl (rowS r.seats) 0 r.seats.length,.rsl (rowP r.feet) 0 r.feet.length,.int .i64 (v2_2+be.w),.int .i64 r.c.x,.int .i64 r.c.y,.int .i64 r.c.z,.int .i64 r.empty,.int .i64 r.full],false⟩]⟩):G Try.prog E (f3K3 Try.prog) (f3S3 k r soil inside least borne i v2_2 ) :=
 Ql (n:=400) (ds:=[]) (cs:=[]) (live:=[2,3,9,11,12,16,20,21,22]) (m:=3) (evs:=[.b true,.ld (.int .i64 e),.b false,.ld (.int .i64 e),.b false,.auto,.auto,.ld (.int .i64 e),.ld (.int .i64 be.w),.b false,.v (.tup [.int .i64 ((Qg (⟨r.seats,r.feet,(v2_2+be.w),r.c,r.empty,r.full⟩:Rg)).1),.int .i64 ((Qg (⟨r.seats,r.feet,(v2_2+be.w),r.c,r.empty,r.full⟩:Rg)).2.1),.int .i64 ((Qg (⟨r.seats,r.feet,(v2_2+be.w),r.c,r.empty,r.full⟩:Rg)).2.2.1),.int .i64 ((Qg (⟨r.seats,r.feet,(v2_2+be.w),r.c,r.empty,r.full⟩:Rg)).2.2.2)]),.v (.tup [.bool ((Qm (⟨r.seats,r.feet,(v2_2+be.w),r.c,r.empty,r.full⟩:Rg) soil).1),.int .i64 ((Qm (⟨r.seats,r.feet,(v2_2+be.w),r.c,r.empty,r.full⟩:Rg) soil).2)]),.b false,.b false,.b true,.b false,.b true,.b false,.stop]) (obs:=_) hE.2.1 (hE.nogh _) Qi (by kernel_rfl) ho hg
theorem p3_3_8 (k:BKit) (r:Rg) (soil:Int) (inside:Bool) (least:Int) (borne:Bool) (i:Nat) (v2_2:Int) (e:Int) (be:BPart) {E:Env} {rv:AV} (hE:Qd Try.prog 3 rv E) (ho:AllP [(decide ((i:Int)<((((Qj k).1).length:Nat):Int)))=true,0≤(i:Int)∧(i:Int)<((((Qj k).1).length:Nat):Int),((rowI ((Qj k).1)).drop (0+(Int.toNat (i:Int))*1)).take 1=[.int .i64 e],(decide (e<0))=false,0≤(i:Int)∧(i:Int)<((((Qj k).1).length:Nat):Int),((rowI ((Qj k).1)).drop (0+(Int.toNat (i:Int))*1)).take 1=[.int .i64 e],(decide (e≥(k.parts.length:Int)))=false,0≤(i:Int)∧(i:Int)<((((Qj k).1).length:Nat):Int),((rowI ((Qj k).1)).drop (0+(Int.toNat (i:Int))*1)).take 1=[.int .i64 e],0≤e∧e<(k.parts.length:Int),((Qt k.parts).drop ((0+(Int.toNat e)*4)+0)).take 1=[.int .i64 be.w],InR .i64 (v2_2+be.w),3≤8,(decide ((v2_2+be.w) > 1000000))=false,Qe Try.prog (.clos 17 [] []) [.agg [.rsl (rowS r.seats) 0 r.seats.length,.rsl (rowP r.feet) 0 r.feet.length,.int .i64 (v2_2+be.w),.int .i64 r.c.x,.int .i64 r.c.y,.int .i64 r.c.z,.int .i64 r.empty,.int .i64 r.full]] (.tup [.int .i64 ((Qg (⟨r.seats,r.feet,(v2_2+be.w),r.c,r.empty,r.full⟩:Rg)).1),.int .i64 ((Qg (⟨r.seats,r.feet,(v2_2+be.w),r.c,r.empty,r.full⟩:Rg)).2.1),.int .i64 ((Qg (⟨r.seats,r.feet,(v2_2+be.w),r.c,r.empty,r.full⟩:Rg)).2.2.1),.int .i64 ((Qg (⟨r.seats,r.feet,(v2_2+be.w),r.c,r.empty,r.full⟩:Rg)).2.2.2)]),Qe Try.prog (.clos 18 [] []) [.agg [.rsl (rowS r.seats) 0 r.seats.length,.rsl (rowP r.feet) 0 r.feet.length,.int .i64 (v2_2+be.w),.int .i64 r.c.x,.int .i64 r.c.y,.int .i64 r.c.z,.int .i64 r.empty,.int .i64 r.full],.int .i64 soil] (.tup [.bool ((Qm (⟨r.seats,r.feet,(v2_2+be.w),r.c,r.empty,r.full⟩:Rg) soil).1),.int .i64 ((Qm (⟨r.seats,r.feet,(v2_2+be.w),r.c,r.empty,r.full⟩:Rg) soil).2)]),((Qg (⟨r.seats,r.feet,(v2_2+be.w),r.c,r.empty,r.full⟩:Rg)).2.2.2 != 0)=false,((Qm (⟨r.seats,r.feet,(v2_2+be.w),r.c,r.empty,r.full⟩:Rg) soil).2 != (Qm (⟨r.seats,r.feet,0,r.c,r.empty,r.full⟩:Rg) soil).2)=false,inside=true,(decide ((Qg (⟨r.seats,r.feet,(v2_2+be.w),r.c,r.empty,r.full⟩:Rg)).1<least))=false,((Qm (⟨r.seats,r.feet,(v2_2+be.w),r.c,r.empty,r.full⟩:Rg) soil).1)=false,false=false,InR .i64 ((i:Int)+1)])
 (hg:G Try.prog E (f3K3 Try.prog) ⟨([J,J,.int .i64 soil,.ptr 0 0 0]++jj 5 ([.rsl (rowI ((Qj k).1)) 0 (((Qj k).1).length),J,.ptr 2 0 0,.bool inside,J,J,J,.int .i64 ((Qg (⟨r.seats,r.feet,(v2_2+be.w),r.c,r.empty,r.full⟩:Rg)).1),J,J,J,.bool ((Qm (⟨r.seats,r.feet,(v2_2+be.w),r.c,r.empty,r.full⟩:Rg) soil).1),.int .i64 ((Qm (⟨r.seats,r.feet,0,r.c,r.empty,r.full⟩:Rg) soil).2),.int .i64 ((i:Int)+1)]++Js 218)),[⟨true,0,1,true,[.rsl (Qt k.parts) 0 k.parts.length,.int .i64 k.crane,.rsl ((Qf rowI) k.vans) 0 k.vans.length],false⟩,⟨true,0,1,true,[.rsl (rowS r.seats) 0 r.seats.length,.rsl (rowP r.feet) 0 r.feet.length,.int .i64 r.frame,.int .i64 r.c.x,.int .i64 r.c.y,.int .i64 r.c.z,.int .i64 r.empty,.int .i64 r.full],false⟩,⟨true,0,1,true,[.rsl (rowS r.seats) 0 r.seats.length,.rsl (rowP r.feet) 0 r.feet.length,.int .i64 (v2_2+be.w),.int .i64 r.c.x,.int .i64 r.c.y,.int .i64 r.c.z,.int .i64 r.empty,.int .i64 r.full],false⟩]⟩):G Try.prog E (f3K3 Try.prog) (f3S3 k r soil inside least borne i v2_2 ) :=
 Ql (n:=400) (ds:=[]) (cs:=[]) (live:=[2,3,9,11,12,16,20,21,22]) (m:=3) (evs:=[.b true,.ld (.int .i64 e),.b false,.ld (.int .i64 e),.b false,.auto,.auto,.ld (.int .i64 e),.ld (.int .i64 be.w),.b false,.v (.tup [.int .i64 ((Qg (⟨r.seats,r.feet,(v2_2+be.w),r.c,r.empty,r.full⟩:Rg)).1),.int .i64 ((Qg (⟨r.seats,r.feet,(v2_2+be.w),r.c,r.empty,r.full⟩:Rg)).2.1),.int .i64 ((Qg (⟨r.seats,r.feet,(v2_2+be.w),r.c,r.empty,r.full⟩:Rg)).2.2.1),.int .i64 ((Qg (⟨r.seats,r.feet,(v2_2+be.w),r.c,r.empty,r.full⟩:Rg)).2.2.2)]),.v (.tup [.bool ((Qm (⟨r.seats,r.feet,(v2_2+be.w),r.c,r.empty,r.full⟩:Rg) soil).1),.int .i64 ((Qm (⟨r.seats,r.feet,(v2_2+be.w),r.c,r.empty,r.full⟩:Rg) soil).2)]),.b false,.b false,.b true,.b false,.b false,.b false,.stop]) (obs:=_) hE.2.1 (hE.nogh _) Qi (by kernel_rfl) ho hg
theorem p3_3_9 (k:BKit) (r:Rg) (soil:Int) (inside:Bool) (least:Int) (borne:Bool) (i:Nat) (v2_2:Int) (e:Int) (be:BPart) {E:Env} {res:AV} (hE:Qd Try.prog 3 res E) (ho:AllP [(decide ((i:Int)<((((Qj k).1).length:Nat):Int)))=true,0≤(i:Int)∧(i:Int)<((((Qj k).1).length:Nat):Int),((rowI ((Qj k).1)).drop (0+(Int.toNat (i:Int))*1)).take 1=[.int .i64 e],(decide (e<0))=false,0≤(i:Int)∧(i:Int)<((((Qj k).1).length:Nat):Int),((rowI ((Qj k).1)).drop (0+(Int.toNat (i:Int))*1)).take 1=[.int .i64 e],(decide (e≥(k.parts.length:Int)))=false,0≤(i:Int)∧(i:Int)<((((Qj k).1).length:Nat):Int),((rowI ((Qj k).1)).drop (0+(Int.toNat (i:Int))*1)).take 1=[.int .i64 e],0≤e∧e<(k.parts.length:Int),((Qt k.parts).drop ((0+(Int.toNat e)*4)+0)).take 1=[.int .i64 be.w],InR .i64 (v2_2+be.w),3≤8,(decide ((v2_2+be.w) > 1000000))=false,Qe Try.prog (.clos 17 [] []) [.agg [.rsl (rowS r.seats) 0 r.seats.length,.rsl (rowP r.feet) 0 r.feet.length,.int .i64 (v2_2+be.w),.int .i64 r.c.x,.int .i64 r.c.y,.int .i64 r.c.z,.int .i64 r.empty,.int .i64 r.full]] (.tup [.int .i64 ((Qg (⟨r.seats,r.feet,(v2_2+be.w),r.c,r.empty,r.full⟩:Rg)).1),.int .i64 ((Qg (⟨r.seats,r.feet,(v2_2+be.w),r.c,r.empty,r.full⟩:Rg)).2.1),.int .i64 ((Qg (⟨r.seats,r.feet,(v2_2+be.w),r.c,r.empty,r.full⟩:Rg)).2.2.1),.int .i64 ((Qg (⟨r.seats,r.feet,(v2_2+be.w),r.c,r.empty,r.full⟩:Rg)).2.2.2)]),Qe Try.prog (.clos 18 [] []) [.agg [.rsl (rowS r.seats) 0 r.seats.length,.rsl (rowP r.feet) 0 r.feet.length,.int .i64 (v2_2+be.w),.int .i64 r.c.x,.int .i64 r.c.y,.int .i64 r.c.z,.int .i64 r.empty,.int .i64 r.full],.int .i64 soil] (.tup [.bool ((Qm (⟨r.seats,r.feet,(v2_2+be.w),r.c,r.empty,r.full⟩:Rg) soil).1),.int .i64 ((Qm (⟨r.seats,r.feet,(v2_2+be.w),r.c,r.empty,r.full⟩:Rg) soil).2)]),((Qg (⟨r.seats,r.feet,(v2_2+be.w),r.c,r.empty,r.full⟩:Rg)).2.2.2 != 0)=false,((Qm (⟨r.seats,r.feet,(v2_2+be.w),r.c,r.empty,r.full⟩:Rg) soil).2 != (Qm (⟨r.seats,r.feet,0,r.c,r.empty,r.full⟩:Rg) soil).2)=false,inside=false,false=false,((Qm (⟨r.seats,r.feet,(v2_2+be.w),r.c,r.empty,r.full⟩:Rg) soil).1)=true,(!borne)=true])
 (hr:AvLe (.bool false) res):G Try.prog E (f3K3 Try.prog) (f3S3 k r soil inside least borne i v2_2 ) :=
 Qb (n:=400) (evs:=[.b true,.ld (.int .i64 e),.b false,.ld (.int .i64 e),.b false,.auto,.auto,.ld (.int .i64 e),.ld (.int .i64 be.w),.b false,.v (.tup [.int .i64 ((Qg (⟨r.seats,r.feet,(v2_2+be.w),r.c,r.empty,r.full⟩:Rg)).1),.int .i64 ((Qg (⟨r.seats,r.feet,(v2_2+be.w),r.c,r.empty,r.full⟩:Rg)).2.1),.int .i64 ((Qg (⟨r.seats,r.feet,(v2_2+be.w),r.c,r.empty,r.full⟩:Rg)).2.2.1),.int .i64 ((Qg (⟨r.seats,r.feet,(v2_2+be.w),r.c,r.empty,r.full⟩:Rg)).2.2.2)]),.v (.tup [.bool ((Qm (⟨r.seats,r.feet,(v2_2+be.w),r.c,r.empty,r.full⟩:Rg) soil).1),.int .i64 ((Qm (⟨r.seats,r.feet,(v2_2+be.w),r.c,r.empty,r.full⟩:Rg) soil).2)]),.b false,.b false,.b false,.b false,.b true,.b true]) (obs:=_) hE Try.func3 Qi (by kernel_rfl) ho hr
theorem p3_3_10 (k:BKit) (r:Rg) (soil:Int) (inside:Bool) (least:Int) (borne:Bool) (i:Nat) (v2_2:Int) (e:Int) (be:BPart) {E:Env} {rv:AV} (hE:Qd Try.prog 3 rv E) (ho:AllP [(decide ((i:Int)<((((Qj k).1).length:Nat):Int)))=true,0≤(i:Int)∧(i:Int)<((((Qj k).1).length:Nat):Int),((rowI ((Qj k).1)).drop (0+(Int.toNat (i:Int))*1)).take 1=[.int .i64 e],(decide (e<0))=false,0≤(i:Int)∧(i:Int)<((((Qj k).1).length:Nat):Int),((rowI ((Qj k).1)).drop (0+(Int.toNat (i:Int))*1)).take 1=[.int .i64 e],(decide (e≥(k.parts.length:Int)))=false,0≤(i:Int)∧(i:Int)<((((Qj k).1).length:Nat):Int),((rowI ((Qj k).1)).drop (0+(Int.toNat (i:Int))*1)).take 1=[.int .i64 e],0≤e∧e<(k.parts.length:Int),((Qt k.parts).drop ((0+(Int.toNat e)*4)+0)).take 1=[.int .i64 be.w],InR .i64 (v2_2+be.w),3≤8,(decide ((v2_2+be.w) > 1000000))=false,Qe Try.prog (.clos 17 [] []) [.agg [.rsl (rowS r.seats) 0 r.seats.length,.rsl (rowP r.feet) 0 r.feet.length,.int .i64 (v2_2+be.w),.int .i64 r.c.x,.int .i64 r.c.y,.int .i64 r.c.z,.int .i64 r.empty,.int .i64 r.full]] (.tup [.int .i64 ((Qg (⟨r.seats,r.feet,(v2_2+be.w),r.c,r.empty,r.full⟩:Rg)).1),.int .i64 ((Qg (⟨r.seats,r.feet,(v2_2+be.w),r.c,r.empty,r.full⟩:Rg)).2.1),.int .i64 ((Qg (⟨r.seats,r.feet,(v2_2+be.w),r.c,r.empty,r.full⟩:Rg)).2.2.1),.int .i64 ((Qg (⟨r.seats,r.feet,(v2_2+be.w),r.c,r.empty,r.full⟩:Rg)).2.2.2)]),Qe Try.prog (.clos 18 [] []) [.agg [.rsl (rowS r.seats) 0 r.seats.length,.rsl (rowP r.feet) 0 r.feet.length,.int .i64 (v2_2+be.w),.int .i64 r.c.x,.int .i64 r.c.y,.int .i64 r.c.z,.int .i64 r.empty,.int .i64 r.full],.int .i64 soil] (.tup [.bool ((Qm (⟨r.seats,r.feet,(v2_2+be.w),r.c,r.empty,r.full⟩:Rg) soil).1),.int .i64 ((Qm (⟨r.seats,r.feet,(v2_2+be.w),r.c,r.empty,r.full⟩:Rg) soil).2)]),((Qg (⟨r.seats,r.feet,(v2_2+be.w),r.c,r.empty,r.full⟩:Rg)).2.2.2 != 0)=false,((Qm (⟨r.seats,r.feet,(v2_2+be.w),r.c,r.empty,r.full⟩:Rg) soil).2 != (Qm (⟨r.seats,r.feet,0,r.c,r.empty,r.full⟩:Rg) soil).2)=false,inside=false,false=false,((Qm (⟨r.seats,r.feet,(v2_2+be.w),r.c,r.empty,r.full⟩:Rg) soil).1)=true,(!borne)=false,InR .i64 ((i:Int)+1)])
 (hg:G Try.prog E (f3K3 Try.prog) ⟨([J,J,.int .i64 soil,.ptr 0 0 0]++jj 5 ([.rsl (rowI ((Qj k).1)) 0 (((Qj k).1).length),J,.ptr 2 0 0,.bool inside,J,J,J,.int .i64 ((Qg (⟨r.seats,r.feet,(v2_2+be.w),r.c,r.empty,r.full⟩:Rg)).1),J,J,J,.bool ((Qm (⟨r.seats,r.feet,(v2_2+be.w),r.c,r.empty,r.full⟩:Rg) soil).1),.int .i64 ((Qm (⟨r.seats,r.feet,0,r.c,r.empty,r.full⟩:Rg) soil).2),.int .i64 ((i:Int)+1)]++Js 218)),[⟨true,0,1,true,[.rsl (Qt k.parts) 0 k.parts.length,.int .i64 k.crane,.rsl ((Qf rowI) k.vans) 0 k.vans.length],false⟩,⟨true,0,1,true,[.rsl (rowS r.seats) 0 r.seats.length,.rsl (rowP r.feet) 0 r.feet.length,.int .i64 r.frame,.int .i64 r.c.x,.int .i64 r.c.y,.int .i64 r.c.z,.int .i64 r.empty,.int .i64 r.full],false⟩,⟨true,0,1,true,[.rsl (rowS r.seats) 0 r.seats.length,.rsl (rowP r.feet) 0 r.feet.length,.int .i64 (v2_2+be.w),.int .i64 r.c.x,.int .i64 r.c.y,.int .i64 r.c.z,.int .i64 r.empty,.int .i64 r.full],false⟩]⟩):G Try.prog E (f3K3 Try.prog) (f3S3 k r soil inside least borne i v2_2 ) :=
 Ql (n:=400) (ds:=[]) (cs:=[]) (live:=[2,3,9,11,12,16,20,21,22]) (m:=3) (evs:=[.b true,.ld (.int .i64 e),.b false,.ld (.int .i64 e),.b false,.auto,.auto,.ld (.int .i64 e),.ld (.int .i64 be.w),.b false,.v (.tup [.int .i64 ((Qg (⟨r.seats,r.feet,(v2_2+be.w),r.c,r.empty,r.full⟩:Rg)).1),.int .i64 ((Qg (⟨r.seats,r.feet,(v2_2+be.w),r.c,r.empty,r.full⟩:Rg)).2.1),.int .i64 ((Qg (⟨r.seats,r.feet,(v2_2+be.w),r.c,r.empty,r.full⟩:Rg)).2.2.1),.int .i64 ((Qg (⟨r.seats,r.feet,(v2_2+be.w),r.c,r.empty,r.full⟩:Rg)).2.2.2)]),.v (.tup [.bool ((Qm (⟨r.seats,r.feet,(v2_2+be.w),r.c,r.empty,r.full⟩:Rg) soil).1),.int .i64 ((Qm (⟨r.seats,r.feet,(v2_2+be.w),r.c,r.empty,r.full⟩:Rg) soil).2)]),.b false,.b false,.b false,.b false,.b true,.b false,.stop]) (obs:=_) hE.2.1 (hE.nogh _) Qi (by kernel_rfl) ho hg
theorem p3_3_11 (k:BKit) (r:Rg) (soil:Int) (inside:Bool) (least:Int) (borne:Bool) (i:Nat) (v2_2:Int) (e:Int) (be:BPart) {E:Env} {rv:AV} (hE:Qd Try.prog 3 rv E) (ho:AllP [(decide ((i:Int)<((((Qj k).1).length:Nat):Int)))=true,0≤(i:Int)∧(i:Int)<((((Qj k).1).length:Nat):Int),((rowI ((Qj k).1)).drop (0+(Int.toNat (i:Int))*1)).take 1=[.int .i64 e],(decide (e<0))=false,0≤(i:Int)∧(i:Int)<((((Qj k).1).length:Nat):Int),((rowI ((Qj k).1)).drop (0+(Int.toNat (i:Int))*1)).take 1=[.int .i64 e],(decide (e≥(k.parts.length:Int)))=false,0≤(i:Int)∧(i:Int)<((((Qj k).1).length:Nat):Int),((rowI ((Qj k).1)).drop (0+(Int.toNat (i:Int))*1)).take 1=[.int .i64 e],0≤e∧e<(k.parts.length:Int),((Qt k.parts).drop ((0+(Int.toNat e)*4)+0)).take 1=[.int .i64 be.w],InR .i64 (v2_2+be.w),3≤8,(decide ((v2_2+be.w) > 1000000))=false,Qe Try.prog (.clos 17 [] []) [.agg [.rsl (rowS r.seats) 0 r.seats.length,.rsl (rowP r.feet) 0 r.feet.length,.int .i64 (v2_2+be.w),.int .i64 r.c.x,.int .i64 r.c.y,.int .i64 r.c.z,.int .i64 r.empty,.int .i64 r.full]] (.tup [.int .i64 ((Qg (⟨r.seats,r.feet,(v2_2+be.w),r.c,r.empty,r.full⟩:Rg)).1),.int .i64 ((Qg (⟨r.seats,r.feet,(v2_2+be.w),r.c,r.empty,r.full⟩:Rg)).2.1),.int .i64 ((Qg (⟨r.seats,r.feet,(v2_2+be.w),r.c,r.empty,r.full⟩:Rg)).2.2.1),.int .i64 ((Qg (⟨r.seats,r.feet,(v2_2+be.w),r.c,r.empty,r.full⟩:Rg)).2.2.2)]),Qe Try.prog (.clos 18 [] []) [.agg [.rsl (rowS r.seats) 0 r.seats.length,.rsl (rowP r.feet) 0 r.feet.length,.int .i64 (v2_2+be.w),.int .i64 r.c.x,.int .i64 r.c.y,.int .i64 r.c.z,.int .i64 r.empty,.int .i64 r.full],.int .i64 soil] (.tup [.bool ((Qm (⟨r.seats,r.feet,(v2_2+be.w),r.c,r.empty,r.full⟩:Rg) soil).1),.int .i64 ((Qm (⟨r.seats,r.feet,(v2_2+be.w),r.c,r.empty,r.full⟩:Rg) soil).2)]),((Qg (⟨r.seats,r.feet,(v2_2+be.w),r.c,r.empty,r.full⟩:Rg)).2.2.2 != 0)=false,((Qm (⟨r.seats,r.feet,(v2_2+be.w),r.c,r.empty,r.full⟩:Rg) soil).2 != (Qm (⟨r.seats,r.feet,0,r.c,r.empty,r.full⟩:Rg) soil).2)=false,inside=false,false=false,((Qm (⟨r.seats,r.feet,(v2_2+be.w),r.c,r.empty,r.full⟩:Rg) soil).1)=false,false=false,InR .i64 ((i:Int)+1)])
 (hg:G Try.prog E (f3K3 Try.prog) ⟨([J,J,.int .i64 soil,.ptr 0 0 0]++jj 5 ([.rsl (rowI ((Qj k).1)) 0 (((Qj k).1).length),J,.ptr 2 0 0,.bool inside,J,J,J,.int .i64 ((Qg (⟨r.seats,r.feet,(v2_2+be.w),r.c,r.empty,r.full⟩:Rg)).1),J,J,J,.bool ((Qm (⟨r.seats,r.feet,(v2_2+be.w),r.c,r.empty,r.full⟩:Rg) soil).1),.int .i64 ((Qm (⟨r.seats,r.feet,0,r.c,r.empty,r.full⟩:Rg) soil).2),.int .i64 ((i:Int)+1)]++Js 218)),[⟨true,0,1,true,[.rsl (Qt k.parts) 0 k.parts.length,.int .i64 k.crane,.rsl ((Qf rowI) k.vans) 0 k.vans.length],false⟩,⟨true,0,1,true,[.rsl (rowS r.seats) 0 r.seats.length,.rsl (rowP r.feet) 0 r.feet.length,.int .i64 r.frame,.int .i64 r.c.x,.int .i64 r.c.y,.int .i64 r.c.z,.int .i64 r.empty,.int .i64 r.full],false⟩,⟨true,0,1,true,[.rsl (rowS r.seats) 0 r.seats.length,.rsl (rowP r.feet) 0 r.feet.length,.int .i64 (v2_2+be.w),.int .i64 r.c.x,.int .i64 r.c.y,.int .i64 r.c.z,.int .i64 r.empty,.int .i64 r.full],false⟩]⟩):G Try.prog E (f3K3 Try.prog) (f3S3 k r soil inside least borne i v2_2 ) :=
 Ql (n:=400) (ds:=[]) (cs:=[]) (live:=[2,3,9,11,12,16,20,21,22]) (m:=3) (evs:=[.b true,.ld (.int .i64 e),.b false,.ld (.int .i64 e),.b false,.auto,.auto,.ld (.int .i64 e),.ld (.int .i64 be.w),.b false,.v (.tup [.int .i64 ((Qg (⟨r.seats,r.feet,(v2_2+be.w),r.c,r.empty,r.full⟩:Rg)).1),.int .i64 ((Qg (⟨r.seats,r.feet,(v2_2+be.w),r.c,r.empty,r.full⟩:Rg)).2.1),.int .i64 ((Qg (⟨r.seats,r.feet,(v2_2+be.w),r.c,r.empty,r.full⟩:Rg)).2.2.1),.int .i64 ((Qg (⟨r.seats,r.feet,(v2_2+be.w),r.c,r.empty,r.full⟩:Rg)).2.2.2)]),.v (.tup [.bool ((Qm (⟨r.seats,r.feet,(v2_2+be.w),r.c,r.empty,r.full⟩:Rg) soil).1),.int .i64 ((Qm (⟨r.seats,r.feet,(v2_2+be.w),r.c,r.empty,r.full⟩:Rg) soil).2)]),.b false,.b false,.b false,.b false,.b false,.b false,.stop]) (obs:=_) hE.2.1 (hE.nogh _) Qi (by kernel_rfl) ho hg
theorem p3_3_12 (k:BKit) (r:Rg) (soil:Int) (inside:Bool) (least:Int) (borne:Bool) (i:Nat) (v2_2:Int) {E:Env} {res:AV} (hE:Qd Try.prog 3 res E) (ho:AllP [(decide ((i:Int)<((((Qj k).1).length:Nat):Int)))=false,Qe Try.prog (.clos 13 [] []) [] (.bool true)])
 (hr:AvLe (.bool true) res):G Try.prog E (f3K3 Try.prog) (f3S3 k r soil inside least borne i v2_2 ) :=
 Qb (n:=400) (evs:=[.b false,.v (.bool true)]) (obs:=_) hE Try.func3 Qi (by kernel_rfl) ho hr
theorem f3W3 (k:BKit) (r:Rg) (soil:Int) (inside:Bool) (least:Int) (borne:Bool) (i:Nat) (v2_2:Int) {E:Env} {rv:Bool} (hE:Qd Try.prog 3 (.bool rv) E)
 (h:(((i:Int)<((((Qj k).1).length:Nat):Int)→(∃ e:Int,((Qj k).1)[i]?=some e∧((e<0→rv=false)∧(¬ (e<0)→((e≥(k.parts.length:Int)→rv=false)∧(¬ (e≥(k.parts.length:Int))→(0≤e∧(∃ be:BPart,k.parts[Int.toNat e]?=some be∧((I6 (v2_2+be.w))∧(((v2_2+be.w) > 1000000→rv=true)∧(¬ ((v2_2+be.w) > 1000000)→((RigSmall (⟨r.seats,r.feet,(v2_2+be.w),r.c,r.empty,r.full⟩:Rg))∧((RigSmall (⟨r.seats,r.feet,(v2_2+be.w),r.c,r.empty,r.full⟩:Rg))∧((¬ ((Qg (⟨r.seats,r.feet,(v2_2+be.w),r.c,r.empty,r.full⟩:Rg)).2.2.2=0)→rv=false)∧((Qg (⟨r.seats,r.feet,(v2_2+be.w),r.c,r.empty,r.full⟩:Rg)).2.2.2=0→((¬ ((Qm (⟨r.seats,r.feet,(v2_2+be.w),r.c,r.empty,r.full⟩:Rg) soil).2=(Qm (⟨r.seats,r.feet,0,r.c,r.empty,r.full⟩:Rg) soil).2)→rv=false)∧((Qm (⟨r.seats,r.feet,(v2_2+be.w),r.c,r.empty,r.full⟩:Rg) soil).2=(Qm (⟨r.seats,r.feet,0,r.c,r.empty,r.full⟩:Rg) soil).2→((inside=true→(((Qg (⟨r.seats,r.feet,(v2_2+be.w),r.c,r.empty,r.full⟩:Rg)).1<least→rv=false)∧(¬ ((Qg (⟨r.seats,r.feet,(v2_2+be.w),r.c,r.empty,r.full⟩:Rg)).1<least)→((((Qm (⟨r.seats,r.feet,(v2_2+be.w),r.c,r.empty,r.full⟩:Rg) soil).1)=true→((borne=false→rv=false)∧(borne=true→((I6 ((i:Int)+1))∧f3G3 E k r soil inside ((Qg (⟨r.seats,r.feet,(v2_2+be.w),r.c,r.empty,r.full⟩:Rg)).1) ((Qm (⟨r.seats,r.feet,(v2_2+be.w),r.c,r.empty,r.full⟩:Rg) soil).1) (i+1) (v2_2+be.w)))))∧(((Qm (⟨r.seats,r.feet,(v2_2+be.w),r.c,r.empty,r.full⟩:Rg) soil).1)=false→((I6 ((i:Int)+1))∧f3G3 E k r soil inside ((Qg (⟨r.seats,r.feet,(v2_2+be.w),r.c,r.empty,r.full⟩:Rg)).1) ((Qm (⟨r.seats,r.feet,(v2_2+be.w),r.c,r.empty,r.full⟩:Rg) soil).1) (i+1) (v2_2+be.w)))))))∧(inside=false→((((Qm (⟨r.seats,r.feet,(v2_2+be.w),r.c,r.empty,r.full⟩:Rg) soil).1)=true→((borne=false→rv=false)∧(borne=true→((I6 ((i:Int)+1))∧f3G3 E k r soil inside ((Qg (⟨r.seats,r.feet,(v2_2+be.w),r.c,r.empty,r.full⟩:Rg)).1) ((Qm (⟨r.seats,r.feet,(v2_2+be.w),r.c,r.empty,r.full⟩:Rg) soil).1) (i+1) (v2_2+be.w)))))∧(((Qm (⟨r.seats,r.feet,(v2_2+be.w),r.c,r.empty,r.full⟩:Rg) soil).1)=false→((I6 ((i:Int)+1))∧f3G3 E k r soil inside ((Qg (⟨r.seats,r.feet,(v2_2+be.w),r.c,r.empty,r.full⟩:Rg)).1) ((Qm (⟨r.seats,r.feet,(v2_2+be.w),r.c,r.empty,r.full⟩:Rg) soil).1) (i+1) (v2_2+be.w)))))))))))))))))))))))∧(¬ ((i:Int)<((((Qj k).1).length:Nat):Int))→rv=true))):f3G3 E k r soil inside least borne i v2_2:=by
 rcases bft (decide ((i:Int)<((((Qj k).1).length:Nat):Int))) with hc0 | hc0
 · have h:=h.1 (odt hc0)
   obtain ⟨e,h1,h⟩:=h
   rcases bft (decide (e<0)) with hc1 | hc1
   · have h:=h.1 (odt hc1)
     exact p3_3_0 k r soil inside least borne i v2_2 e hE ⟨hc0,(Qr h1),(rp cI 1 0 1 h1),hc1,rfl,trivial⟩ (AvLe.of_eq (by rw [h]; try rfl))
   · have h:=h.2 (odf hc1)
     rcases bft (decide (e≥(k.parts.length:Int))) with hc2 | hc2
     · have h:=h.1 (odt hc2)
       exact p3_3_1 k r soil inside least borne i v2_2 e hE ⟨hc0,(Qr h1),(rp cI 1 0 1 h1),hc1,(Qr h1),(rp cI 1 0 1 h1),hc2,trivial⟩ (AvLe.of_eq (by rw [h]; try rfl))
     · have h:=h.2 (odf hc2)
       obtain ⟨h3,h⟩:=h
       obtain ⟨be,h2,h⟩:=h
       obtain ⟨q13_3,h⟩:=h
       rcases bft (decide ((v2_2+be.w) > 1000000)) with hc3 | hc3
       · have h:=h.1 (odt hc3)
         exact p3_3_2 k r soil inside least borne i v2_2 e be hE ⟨hc0,(Qr h1),(rp cI 1 0 1 h1),hc1,(Qr h1),(rp cI 1 0 1 h1),hc2,(Qr h1),(rp cI 1 0 1 h1),(Qw h3 h2),(rp cBp 4 0 1 h2),q13_3,(by decide),hc3,(u13 (YI )),trivial⟩ (AvLe.of_eq (by rw [h]; try rfl))
       · have h:=h.2 (odf hc3)
         obtain ⟨h4,h⟩:=h
         obtain ⟨h5,h⟩:=h
         rcases bft ((Qg (⟨r.seats,r.feet,(v2_2+be.w),r.c,r.empty,r.full⟩:Rg)).2.2.2 != 0) with hc4 | hc4
         · have h:=h.1 (bneT hc4)
           exact p3_3_3 k r soil inside least borne i v2_2 e be hE ⟨hc0,(Qr h1),(rp cI 1 0 1 h1),hc1,(Qr h1),(rp cI 1 0 1 h1),hc2,(Qr h1),(rp cI 1 0 1 h1),(Qw h3 h2),(rp cBp 4 0 1 h2),q13_3,(by decide),hc3,(u17 (Xq (⟨r.seats,r.feet,(v2_2+be.w),r.c,r.empty,r.full⟩:Rg) h4)),(u18 (Xf (⟨r.seats,r.feet,(v2_2+be.w),r.c,r.empty,r.full⟩:Rg) soil h5)),hc4,rfl,rfl,rfl,trivial⟩ (AvLe.of_eq (by rw [h]; try rfl))
         · have h:=h.2 (bneF hc4)
           rcases bft ((Qm (⟨r.seats,r.feet,(v2_2+be.w),r.c,r.empty,r.full⟩:Rg) soil).2 != (Qm (⟨r.seats,r.feet,0,r.c,r.empty,r.full⟩:Rg) soil).2) with hc5 | hc5
           · have h:=h.1 (bneT hc5)
             exact p3_3_4 k r soil inside least borne i v2_2 e be hE ⟨hc0,(Qr h1),(rp cI 1 0 1 h1),hc1,(Qr h1),(rp cI 1 0 1 h1),hc2,(Qr h1),(rp cI 1 0 1 h1),(Qw h3 h2),(rp cBp 4 0 1 h2),q13_3,(by decide),hc3,(u17 (Xq (⟨r.seats,r.feet,(v2_2+be.w),r.c,r.empty,r.full⟩:Rg) h4)),(u18 (Xf (⟨r.seats,r.feet,(v2_2+be.w),r.c,r.empty,r.full⟩:Rg) soil h5)),hc4,hc5,rfl,rfl,trivial⟩ (AvLe.of_eq (by rw [h]; try rfl))
           · have h:=h.2 (bneF hc5)
             rcases bft inside with hc6 | hc6
             · have h:=h.1 hc6
               rcases bft (decide ((Qg (⟨r.seats,r.feet,(v2_2+be.w),r.c,r.empty,r.full⟩:Rg)).1<least)) with hc7 | hc7
               · have h:=h.1 (odt hc7)
                 exact p3_3_5 k r soil inside least borne i v2_2 e be hE ⟨hc0,(Qr h1),(rp cI 1 0 1 h1),hc1,(Qr h1),(rp cI 1 0 1 h1),hc2,(Qr h1),(rp cI 1 0 1 h1),(Qw h3 h2),(rp cBp 4 0 1 h2),q13_3,(by decide),hc3,(u17 (Xq (⟨r.seats,r.feet,(v2_2+be.w),r.c,r.empty,r.full⟩:Rg) h4)),(u18 (Xf (⟨r.seats,r.feet,(v2_2+be.w),r.c,r.empty,r.full⟩:Rg) soil h5)),hc4,hc5,hc6,hc7,rfl,trivial⟩ (AvLe.of_eq (by rw [h]; try rfl))
               · have h:=h.2 (odf hc7)
                 rcases bft ((Qm (⟨r.seats,r.feet,(v2_2+be.w),r.c,r.empty,r.full⟩:Rg) soil).1) with hc8 | hc8
                 · have h:=h.1 hc8
                   rcases bft (!borne) with hc9 | hc9
                   · have h:=h.1 (bnT hc9)
                     exact p3_3_6 k r soil inside least borne i v2_2 e be hE ⟨hc0,(Qr h1),(rp cI 1 0 1 h1),hc1,(Qr h1),(rp cI 1 0 1 h1),hc2,(Qr h1),(rp cI 1 0 1 h1),(Qw h3 h2),(rp cBp 4 0 1 h2),q13_3,(by decide),hc3,(u17 (Xq (⟨r.seats,r.feet,(v2_2+be.w),r.c,r.empty,r.full⟩:Rg) h4)),(u18 (Xf (⟨r.seats,r.feet,(v2_2+be.w),r.c,r.empty,r.full⟩:Rg) soil h5)),hc4,hc5,hc6,hc7,hc8,hc9,trivial⟩ (AvLe.of_eq (by rw [h]; try rfl))
                   · have h:=h.2 (bnF hc9)
                     obtain ⟨q24_10,h⟩:=h
                     exact p3_3_7 k r soil inside least borne i v2_2 e be hE ⟨hc0,(Qr h1),(rp cI 1 0 1 h1),hc1,(Qr h1),(rp cI 1 0 1 h1),hc2,(Qr h1),(rp cI 1 0 1 h1),(Qw h3 h2),(rp cBp 4 0 1 h2),q13_3,(by decide),hc3,(u17 (Xq (⟨r.seats,r.feet,(v2_2+be.w),r.c,r.empty,r.full⟩:Rg) h4)),(u18 (Xf (⟨r.seats,r.feet,(v2_2+be.w),r.c,r.empty,r.full⟩:Rg) soil h5)),hc4,hc5,hc6,hc7,hc8,hc9,q24_10,trivial⟩ h
                 · have h:=h.2 hc8
                   obtain ⟨q24_9,h⟩:=h
                   exact p3_3_8 k r soil inside least borne i v2_2 e be hE ⟨hc0,(Qr h1),(rp cI 1 0 1 h1),hc1,(Qr h1),(rp cI 1 0 1 h1),hc2,(Qr h1),(rp cI 1 0 1 h1),(Qw h3 h2),(rp cBp 4 0 1 h2),q13_3,(by decide),hc3,(u17 (Xq (⟨r.seats,r.feet,(v2_2+be.w),r.c,r.empty,r.full⟩:Rg) h4)),(u18 (Xf (⟨r.seats,r.feet,(v2_2+be.w),r.c,r.empty,r.full⟩:Rg) soil h5)),hc4,hc5,hc6,hc7,hc8,rfl,q24_9,trivial⟩ h
             · have h:=h.2 hc6
               rcases bft ((Qm (⟨r.seats,r.feet,(v2_2+be.w),r.c,r.empty,r.full⟩:Rg) soil).1) with hc7 | hc7
               · have h:=h.1 hc7
                 rcases bft (!borne) with hc8 | hc8
                 · have h:=h.1 (bnT hc8)
                   exact p3_3_9 k r soil inside least borne i v2_2 e be hE ⟨hc0,(Qr h1),(rp cI 1 0 1 h1),hc1,(Qr h1),(rp cI 1 0 1 h1),hc2,(Qr h1),(rp cI 1 0 1 h1),(Qw h3 h2),(rp cBp 4 0 1 h2),q13_3,(by decide),hc3,(u17 (Xq (⟨r.seats,r.feet,(v2_2+be.w),r.c,r.empty,r.full⟩:Rg) h4)),(u18 (Xf (⟨r.seats,r.feet,(v2_2+be.w),r.c,r.empty,r.full⟩:Rg) soil h5)),hc4,hc5,hc6,rfl,hc7,hc8,trivial⟩ (AvLe.of_eq (by rw [h]; try rfl))
                 · have h:=h.2 (bnF hc8)
                   obtain ⟨q24_9,h⟩:=h
                   exact p3_3_10 k r soil inside least borne i v2_2 e be hE ⟨hc0,(Qr h1),(rp cI 1 0 1 h1),hc1,(Qr h1),(rp cI 1 0 1 h1),hc2,(Qr h1),(rp cI 1 0 1 h1),(Qw h3 h2),(rp cBp 4 0 1 h2),q13_3,(by decide),hc3,(u17 (Xq (⟨r.seats,r.feet,(v2_2+be.w),r.c,r.empty,r.full⟩:Rg) h4)),(u18 (Xf (⟨r.seats,r.feet,(v2_2+be.w),r.c,r.empty,r.full⟩:Rg) soil h5)),hc4,hc5,hc6,rfl,hc7,hc8,q24_9,trivial⟩ h
               · have h:=h.2 hc7
                 obtain ⟨q24_8,h⟩:=h
                 exact p3_3_11 k r soil inside least borne i v2_2 e be hE ⟨hc0,(Qr h1),(rp cI 1 0 1 h1),hc1,(Qr h1),(rp cI 1 0 1 h1),hc2,(Qr h1),(rp cI 1 0 1 h1),(Qw h3 h2),(rp cBp 4 0 1 h2),q13_3,(by decide),hc3,(u17 (Xq (⟨r.seats,r.feet,(v2_2+be.w),r.c,r.empty,r.full⟩:Rg) h4)),(u18 (Xf (⟨r.seats,r.feet,(v2_2+be.w),r.c,r.empty,r.full⟩:Rg) soil h5)),hc4,hc5,hc6,rfl,hc7,rfl,q24_8,trivial⟩ h
 · have h:=h.2 (odf hc0)
   exact p3_3_12 k r soil inside least borne i v2_2 hE ⟨hc0,(u13 (YI )),trivial⟩ (AvLe.of_eq (by rw [h]; try rfl))
theorem yE {r:Rg} (hs:RigSmall r) (w:Int):RigSmall (frR r w):=⟨hs.seats,hs.feet,hs.each⟩
theorem frR_mk (r:Rg) (w:Int):(⟨r.seats,r.feet,w,r.c,r.empty,r.full⟩:Rg)=frR r w:=rfl
theorem grows3 {E:Env} {k:BKit} {r:Rg} {soil:Int} (hE:Qd Try.prog 3 (.bool true) E) (hk:KitSmall k) (hr:RigSmall r) (ho:(Qj k).2=0) (h0:Xv (frR r 0)=true) {inside:Bool} (hin:inside=true→insideR r) :
 ∀ (d i:Nat) (w:Int),i+d=(Qj k).1.length→0≤w→w≤1000000→f3G3 E k r soil inside (Qg (frR r w)).1 (Qm (frR r w) soil).1 i w
 | 0,i,w,hd,_,_=>f3W3 k r soil inside _ _ i w (rv:=true) hE ⟨fun h=>by omega,fun _=>rfl⟩
 | d+1,i,w,hd,w0,w1=>by
  have hl:=orderT_len k hk
  have hx:(Qj k).1[i]?=some ((Qj k).1[i]'(by omega)):=List.getElem?_eq_getElem (by omega)
  generalize (Qj k).1[i]'(by omega)=e at hx
  obtain ⟨m1,m2⟩:=order_mem hk ho e (List.mem_of_getElem? hx)
  have g:=Xy (l:=k.parts) ⟨0,0,0,[]⟩ m1
  generalize k.parts.getD (Int.toNat e) ⟨0,0,0,[]⟩=p at g m2
  have hs':=yE hr (w+p.w)
  refine f3W3 k r soil inside _ _ i w (rv:=true) hE ⟨fun _=>⟨e,hx,fun h=>by omega,fun _=>⟨fun h=>by omega,fun _=>⟨m1.1,p,g,by omega,fun _=>rfl,fun hw=>?_⟩⟩⟩,fun h=>by omega⟩
  have hw1:w+p.w≤1000000:=by omega
  have hok:=rigOk_fr h0 w0 w1
  have hok':=rigOk_fr h0 (show 0≤w+p.w by omega) hw1
  have ih:=grows3 (soil:=soil) hE hk hr ho h0 hin d (i+1) (w+p.w) (by omega) (by omega) hw1
  have b0:=yx (s:=soil) h0 hok' (show (0:Int)≤w+p.w by omega)
  have b1:=yx (s:=soil) hok hok' (show w≤w+p.w by omega)
  have lz:(Qg (frR r (w+p.w))).2.2.2=0:=by rw [VN hok']
  rw [frR_mk,frR_mk]
  refine ⟨hs',hs',fun h=>absurd lz h,fun _=>⟨fun h=>absurd b0.1 h,fun _=>⟨fun hi=>⟨fun h=>?_,fun _=>⟨fun hb=>⟨fun h=>?_,fun _=>⟨by omega,ih⟩⟩,fun _=>⟨by omega,ih⟩⟩⟩,fun _=>⟨fun hb=>⟨fun h=>?_,fun _=>⟨by omega,ih⟩⟩,fun _=>⟨by omega,ih⟩⟩⟩⟩⟩
  · have:=least_mono hok hok' (show w≤w+p.w by omega) (hin hi)
    omega
  · rw [b1.2 hb] at h; cases h
  · rw [b1.2 hb] at h; cases h
theorem grows2 {E:Env} {k:BKit} {r:Rg} {soil:Int} (hE:Qd Try.prog 3 (.bool true) E) (hk:KitSmall k) (hr:RigSmall r) (ho:(Qj k).2=0) (h0:Xv (frR r 0)=true) :
 ∀ (d i:Nat) (inside:Bool),i+d=r.feet.length→(inside=true→∀ v,v<i→0≤arm (QI r v).1 (QI r v).2 r.c)→f3G2 E k r soil inside i
 | 0,i,inside,hd,hin=>by
  have hs:=yE hr 0
  have lz:(Qg (frR r 0)).2.2.2=0:=by rw [VN h0]
  have nx:=grows3 hE hk hr ho h0 (soil:=soil) (inside:=inside) (fun h v hv=>hin h v (by omega)) (Qj k).1.length 0 0 (by omega) (by omega) (by omega)
  refine f3W2 k r soil inside i (rv:=true) hE ⟨fun h=>by omega,fun _=>?_⟩
  rw [frR_mk]
  refine ⟨hs,hs,fun h=>absurd lz h,fun _=>⟨fun _=>⟨fun h1=>?_,fun _=>nx⟩,fun _=>nx⟩⟩
  exfalso
  refine h1 ?_
  rename_i hn
  unfold Qm at hn ⊢
  rw [if_pos h0] at hn ⊢
  by_cases hs:soil<0
  · rw [if_pos hs]
  · rw [if_neg hs] at hn; exact absurd rfl hn
 | d+1,i,inside,hd,hin=>by
  have hm:=XK h0
  have h8:r.feet.length≤8:=hm.ok.feet1
  obtain ⟨l1,l2⟩:=lineAt_ok (r:=frR r 0) hm.ok (v:=i) (show i<r.feet.length by omega)
  obtain ⟨a1,a2⟩:=line_feet (r:=r) (v:=i) (by omega)
  have et:=tmod_next (i:=i) (n:=r.feet.length) (by omega)
  have hc:Qs r.c=true:=hm.ok.center
  have l1':Qs (QI r i).1=true:=l1
  have l2':Qs (QI r i).2=true:=l2
  obtain ⟨q1,q2,q3⟩:=arm_bd l1' l2' hc
  obtain ⟨o1,o2,o3,o4,o5,o6,o7⟩:=q1
  refine f3W2 k r soil inside i (rv:=true) hE ⟨fun _=>⟨_,a1,by omega,by omega,by rw [et]; omega,(QI r i).2,by rw [et]; exact a2,fun hi=>⟨o1,o2,o3,o4,o5,o6,o7,by omega,?_⟩,fun hi=>⟨by omega,?_⟩⟩,fun h=>by omega⟩
  · refine grows2 hE hk hr ho h0 d (i+1) _ (by omega) fun hb v hv=>?_
    rcases Nat.lt_or_ge v i with h | h
    · exact hin hi v h
    · have:v=i:=by omega
      subst this
      exact of_decide_eq_true hb
  · exact grows2 hE hk hr ho h0 d (i+1) _ (by omega) fun hb=>by cases hb
theorem law3_ok (k:BKit) (r:Rg) (soil:Int):Pure Try.prog 3 [.agg [.rsl (Qt k.parts) 0 k.parts.length,.int .i64 k.crane,.rsl (Qf rowI k.vans) 0 k.vans.length],.agg [.rsl (rowS r.seats) 0 r.seats.length,.rsl (rowP r.feet) 0 r.feet.length,.int .i64 r.frame,.int .i64 r.c.x,.int .i64 r.c.y,.int .i64 r.c.z,.int .i64 r.empty,.int .i64 r.full],.int .i64 soil] (.bool true):=Qy Try.func3 f3b fun E hE=>by
 refine f3W k r soil (rv:=true) hE ⟨fun _=>rfl,fun h20=>⟨fun _=>rfl,fun h10=>⟨fun _=>rfl,fun hf=>?_⟩⟩⟩
 have hr:=far_small hf
 have vans:(∀ p ∈ k.parts,p.needs.length≤20)→∀ (d i:Nat),i+d=k.vans.length→(∀ v ∈ k.vans.take i,v.length≤30)→f3G1 E k r soil i:=by
  intro hneeds d
  induction d with
  | zero =>
   intro i hi hv
   rw [List.take_of_length_le (by omega)] at hv
   have hk:KitSmall k:=⟨by omega,hneeds,by omega,hv⟩
   refine f3W1 k r soil i (rv:=true) hE ⟨fun h=>by omega,fun _=>⟨hk,hr,fun _=>rfl,fun ho=>?_⟩⟩
   rw [frR_mk]
   exact ⟨yE hr 0,fun _=>rfl,fun h0=>grows2 hE hk hr ho (check_made h0) r.feet.length 0 true (by omega) fun _ v hv=>by omega⟩
  | succ d ih =>
   intro i hi hv
   have hx:k.vans[i]?=some (k.vans[i]'(by omega)):=List.getElem?_eq_getElem (by omega)
   refine f3W1 k r soil i (rv:=true) hE ⟨fun _=>⟨_,hx,fun _=>rfl,fun hle=>⟨by omega,ih (i+1) (by omega) fun v hm=>?_⟩⟩,fun h=>by omega⟩
   rw [List.take_add_one,hx] at hm
   rcases List.mem_append.1 hm with hm | hm
   · exact hv v hm
   · simp only [Option.toList,List.mem_singleton] at hm
     rw [hm]; omega
 have parts:∀ (d i:Nat),i+d=k.parts.length→(∀ p ∈ k.parts.take i,p.needs.length≤20)→f3G0 E k r soil i:=by
  intro d
  induction d with
  | zero =>
   intro i hi hv
   rw [List.take_of_length_le (by omega)] at hv
   exact f3W0 k r soil i (rv:=true) hE ⟨fun h=>by omega,fun _=>vans hv k.vans.length 0 (by omega) (by simp)⟩
  | succ d ih =>
   intro i hi hv
   have hx:k.parts[i]?=some (k.parts[i]'(by omega)):=List.getElem?_eq_getElem (by omega)
   refine f3W0 k r soil i (rv:=true) hE ⟨fun _=>⟨_,hx,fun _=>rfl,fun hle=>⟨by omega,ih (i+1) (by omega) fun p hm=>?_⟩⟩,fun h=>by omega⟩
   rw [List.take_add_one,hx] at hm
   rcases List.mem_append.1 hm with hm | hm
   · exact hv p hm
   · simp only [Option.toList,List.mem_singleton] at hm
     rw [hm]; omega
 exact parts k.parts.length 0 (by omega) (by simp)
end Go.Proofs.Ytemklbioijmjiaa
namespace Go.Proofs.Ytemklbioijmjiaa
open Go Ax
open Go.Proofs
theorem ownT:ownKnob Try.prog.godebug=none:=by kernel_rfl
theorem laidT:laidOutB Try.prog=true:=by kernel_rfl
theorem tInts (W:World):Dec Try.prog W 34 (List Int) (fun a=>[.rsl (rowI a) 0 a.length]) (fun a=>a.length≤9223372036854775807):=by
 refine Dec.map (Vc Try.underlying34 (n:=1) (by kernel_rfl) (by decide) (fun _=>rfl) (fun _=>rfl) (XU Try.underlying3)) (fun x=>x) ?_ ?_
 · exact fun _=>rfl
 · exact fun _ h=>h.1
theorem tPart (W:World):Dec Try.prog W 36 BPart cBp (fun a=>True):=by
 refine Dec.map (Vq Try.underlying36 rfl (tot:=4) (by kernel_rfl) (QH (n:=1) (tot:=4) (by kernel_rfl) rfl (XU Try.underlying3) (QH (n:=1) (tot:=4) (by kernel_rfl) rfl (XU Try.underlying3) (QH (n:=1) (tot:=4) (by kernel_rfl) rfl (XU Try.underlying3) (QH (n:=1) (tot:=4) (by kernel_rfl) rfl (tInts W) VT (by decide)) (by decide)) (by decide)) (by decide))) (fun x=>(⟨x.1,x.2.1,x.2.2.1,x.2.2.2.1⟩:BPart)) ?_ ?_
 · exact fun _=>rfl
 · exact fun _ _=>trivial
theorem tParts (W:World):Dec Try.prog W 22 (List BPart) (fun a=>[.rsl (Qt a) 0 a.length]) (fun a=>a.length≤9223372036854775807):=by
 refine Dec.map (Vc Try.underlying22 (n:=4) (by kernel_rfl) (by decide) (fun _=>rfl) (fun _=>rfl) (tPart W)) (fun x=>x) ?_ ?_
 · exact fun _=>rfl
 · exact fun _ h=>h.1
theorem tIntss (W:World):Dec Try.prog W 23 (List (List Int)) (fun a=>[.rsl ((Qf rowI) a) 0 a.length]) (fun a=>a.length≤9223372036854775807):=by
 refine Dec.map (Vc Try.underlying23 (n:=1) (by kernel_rfl) (by decide) (fun _=>rfl) (fun _=>rfl) (tInts W)) (fun x=>x) ?_ ?_
 · exact fun _=>rfl
 · exact fun _ h=>h.1
theorem tKit (W:World):Dec Try.prog W 25 BKit (fun a=>[.rsl (Qt a.parts) 0 a.parts.length,.int .i64 a.crane,.rsl ((Qf rowI) a.vans) 0 a.vans.length]) (fun a=>True):=by
 refine Dec.map (Vq Try.underlying25 rfl (tot:=3) (by kernel_rfl) (QH (n:=1) (tot:=3) (by kernel_rfl) rfl (tParts W) (QH (n:=1) (tot:=3) (by kernel_rfl) rfl (XU Try.underlying3) (QH (n:=1) (tot:=3) (by kernel_rfl) rfl (tIntss W) VT (by decide)) (by decide)) (by decide))) (fun x=>(⟨x.1,x.2.1,x.2.2.1⟩:BKit)) ?_ ?_
 · exact fun _=>rfl
 · exact fun _ _=>trivial
theorem tPt (W:World):Dec Try.prog W 29 Pt cP (fun a=>True):=by
 refine Dec.map (Vq Try.underlying29 rfl (tot:=3) (by kernel_rfl) (QH (n:=1) (tot:=3) (by kernel_rfl) rfl (XU Try.underlying3) (QH (n:=1) (tot:=3) (by kernel_rfl) rfl (XU Try.underlying3) (QH (n:=1) (tot:=3) (by kernel_rfl) rfl (XU Try.underlying3) VT (by decide)) (by decide)) (by decide))) (fun x=>(⟨x.1,x.2.1,x.2.2.1⟩:Pt)) ?_ ?_
 · exact fun _=>rfl
 · exact fun _ _=>trivial
theorem tPts (W:World):Dec Try.prog W 27 (List Pt) (fun a=>[.rsl (rowP a) 0 a.length]) (fun a=>a.length≤9223372036854775807):=by
 refine Dec.map (Vc Try.underlying27 (n:=3) (by kernel_rfl) (by decide) (fun _=>rfl) (fun _=>rfl) (tPt W)) (fun x=>x) ?_ ?_
 · exact fun _=>rfl
 · exact fun _ h=>h.1
theorem tPtss (W:World):Dec Try.prog W 26 (List (List Pt)) (fun a=>[.rsl (rowS a) 0 a.length]) (fun a=>a.length≤9223372036854775807):=by
 refine Dec.map (Vc Try.underlying26 (n:=1) (by kernel_rfl) (by decide) (fun _=>rfl) (fun _=>rfl) (tPts W)) (fun x=>x) ?_ ?_
 · exact fun _=>rfl
 · exact fun _ h=>h.1
theorem tRg (W:World):Dec Try.prog W 31 Rg (fun a=>[.rsl (rowS a.seats) 0 a.seats.length,.rsl (rowP a.feet) 0 a.feet.length,.int .i64 a.frame,.int .i64 a.c.x,.int .i64 a.c.y,.int .i64 a.c.z,.int .i64 a.empty,.int .i64 a.full]) (fun a=>True):=by
 refine Dec.map (Vq Try.underlying31 rfl (tot:=8) (by kernel_rfl) (QH (n:=1) (tot:=8) (by kernel_rfl) rfl (tPtss W) (QH (n:=1) (tot:=8) (by kernel_rfl) rfl (tPts W) (QH (n:=1) (tot:=8) (by kernel_rfl) rfl (XU Try.underlying3) (QH (n:=3) (tot:=8) (by kernel_rfl) rfl (tPt W) (QH (n:=1) (tot:=8) (by kernel_rfl) rfl (XU Try.underlying3) (QH (n:=1) (tot:=8) (by kernel_rfl) rfl (XU Try.underlying3) VT (by decide)) (by decide)) (by decide)) (by decide)) (by decide)) (by decide))) (fun x=>(⟨x.1,x.2.1,x.2.2.1,x.2.2.2.1,x.2.2.2.2.1,x.2.2.2.2.2.1⟩:Rg)) ?_ ?_
 · exact fun _=>rfl
 · exact fun _ _=>trivial
end Go.Proofs.Ytemklbioijmjiaa